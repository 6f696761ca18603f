/- KernelOne: for every scale and anything heard the law returns true, and each argument reads afterwards as it read before. Condition: when the call begins the package's table of rules reads as the program's text lays it; the card ties that to the text. -/
import Derived.ArgAppend
import Derived.Below
import Derived.BigQuiet
import Derived.Carry
import Derived.Deep.AppendLies
import Derived.Deep.CutBlock
import Derived.Deep.DeepCutAuto
import Derived.Deep.Draws
import Derived.Deep.LoopGhost
import Derived.Deep.OwnRows
import Derived.Deep.QuietTactic
import Derived.Deep.RegionHeld3
import Derived.KernelRfl
import Derived.LaidMore
import Derived.Laws.BytesArg
import Derived.Laws.IdiomCopy
import Derived.Laws.MakeOwn
import Derived.Laws.OwnMore
import Derived.Laws.Rows
import Derived.Laws.Slices
import Derived.Lib.AppendStr
import Derived.Lib.ConvBytes
import Derived.Maps.AppendAt
import Derived.OpenShut
import Derived.OwnWalk
import Derived.ProofKit
import Derived.RowKit
import Derived.RowKit3
import Derived.SevenTiedAt
import Derived.SizedLaws
import Derived.Stop.Joined
import Derived.Tactics
import Derived.WalkKit
import Derived.WideLaws
import Derived.Test.YtagkfkdoibnhfaaDoorCards
import Derived.Test.YtagkfkdoibnhfaaDoorTie
import Derived.Test.YtagkfkdoibnhfaaDoorZB1
import Derived.Test.YtagkfkdoibnhfaaDoorZB2
import Derived.Test.YtagkfkdoibnhfaaDoorZB4
set_option linter.all false
section
set_option linter.unusedVariables false
set_option linter.unusedSimpArgs false
namespace Go.Proofs.YtagkfkdoibnhfaaDoorW.PrintWords
open Go.RowKit
theorem add_block (a : Addr) (i : Nat) : (a.add i).block = a.block := by unfold Addr.add; split <;> rfl
end Go.Proofs.YtagkfkdoibnhfaaDoorW.PrintWords
end
section
namespace Go.Proofs.YtagkfkdoibnhfaaDoorW.PrintWords
open Go.RowKit
namespace Kd
section
variable {α β : Type} {d : Kd α} {e base n n' cc g N : Nat} {ok ok' okp S : Nat → Prop} {w w0 w1 W W1 : World} {A A' : Option Addr} {u v v1 : Value} {xs : List α} {xs' : List β} {d' : Kd β} {x : α} {c : List Value}
theorem emptied (W : World) (g : Nat) : ∃ W' : World, (∀ k, k ≠ g → W'.heap[k]? = W.heap[k]?) ∧ ∀ a : Addr, a.block = g → W'.cell? a = none := by
 refine ⟨{ W with heap := W.heap.setIfInBounds g (.cells #[] 0) }, fun k hk => by simp [Ne.symm hk], fun a ha => ?_⟩
 subst ha
 by_cases hlt : a.block < W.heap.size
 ·simp [World.cell?, hlt]
 ·simp [World.cell?, hlt]
end
end Kd
end Go.Proofs.YtagkfkdoibnhfaaDoorW.PrintWords
end
section
namespace Go.Proofs.YtagkfkdoibnhfaaDoorW.PrintWords
open Go.RowKit
namespace Kd
section
variable {α : Type} {d : Kd α} {e base n cc g : Nat} {ok ok' okp S : Nat → Prop} {w w1 W W1 : World} {A : Option Addr} {u v v1 : Value} {xs : List α} {x : α} {c : List Value}
theorem F_get (h : F d W ok A n xs) (z : α) (i : Int) (h0 : 0 ≤ i) (h1 : i < n) :
  ∃ ad c, A = some ad ∧ c.length = d.sz ∧ FK d W ok (xs.getD i.toNat z) c ∧ (∀ j u, c[j]? = some u → W.cell? (ad.add (i.toNat * d.sz + j)) = some u) ∧ (0 < d.sz → ok ad.block) := by
 obtain ⟨ad, c, rfl, hcl, hK, hcc⟩ := C_get (F_now h) z i h0 h1
 have hin : 0 < d.sz → ok ad.block := by
  intro hs
  by_cases hk : ok ad.block
  ·exact hk
  ·obtain ⟨W', h2, h3⟩ := emptied W ad.block
   obtain ⟨ad', c', he, hcl', _, hcc'⟩ := C_get (h W' (fun k hk' _ => h2 k (fun e => hk (e ▸ hk')))) z i h0 h1
   injection he with he
   subst he
   have h4 := hcc' 0 _ (List.getElem?_eq_getElem (by omega))
   rw [h3 _ (add_block _ _)] at h4
   cases h4
 refine ⟨ad, c, rfl, hcl, fun W' hW => ?_, hcc, hin⟩
 obtain ⟨ad', c', he, hcl', hK', hcc'⟩ := C_get (h W' hW) z i h0 h1
 injection he with he
 subst he
 have hc : c = c' := by
  apply List.ext_getElem?
  intro j
  by_cases hj : j < d.sz
  ·have hb : W'.heap[ad.block]? = W.heap[ad.block]? := by
    have h5 := hcc j _ (List.getElem?_eq_getElem (by omega))
    have h6 := World.block_lt_of_cell? W _ h5
    rw [add_block] at h6
    exact hW _ (hin (by omega)) h6
   have h5 := hcc j _ (List.getElem?_eq_getElem (by omega))
   have h6 := hcc' j _ (List.getElem?_eq_getElem (by omega))
   have h7 : W'.cell? (ad.add (i.toNat * d.sz + j)) = W.cell? (ad.add (i.toNat * d.sz + j)) := by simp [World.cell?, add_block, hb]
   rw [h7, h5] at h6
   rw [List.getElem?_eq_getElem (by omega), List.getElem?_eq_getElem (by omega)]
   exact h6
  ·rw [List.getElem?_eq_none (by omega), List.getElem?_eq_none (by omega)]
 rw [hc]
 exact hK'
end
end Kd
end Go.Proofs.YtagkfkdoibnhfaaDoorW.PrintWords
end
section
namespace Go.Proofs.YtagkfkdoibnhfaaDoorW.PrintWords
open Go.RowKit
namespace Kd
section
variable {α β : Type} {d : Kd α} {e base base' n m c g N' lo hi : Nat} {ok ok' S : Nat → Prop} {w W w1 : World} {A : Option Addr} {ad : Addr} {u v v1 : Value} {xs : List α}
theorem V_F (h : V d e W base ok (.slice A n c) xs) : F d W ok A n xs := by
 obtain ⟨hn, _, hf⟩ := V_at h
 rw [hn]
 exact hf
theorem V_get (h : V d e W base ok (.slice (some ad) n c) xs) (z : α) (i : Int) (h0 : 0 ≤ i) (h1 : i < n) :
  ∃ cs, cs.length = d.sz ∧ FK d W ok (xs.getD i.toNat z) cs ∧ ∀ j u, cs[j]? = some u → W.cell? (ad.add (i.toNat * d.sz + j)) = some u := by
 obtain ⟨ad', cs, he, hcl, hK, hcc, _⟩ := F_get (V_F h) z i h0 h1
 injection he with he
 subst he
 exact ⟨cs, hcl, hK, hcc⟩
theorem FK_slice_open {l : List α} {cs : List Value} (h : FK (Kd.slice e d) W ok l cs) : ∃ A c, cs = [.slice A l.length c] ∧ l.length ≤ c ∧ F d W ok A l.length l := by
 obtain ⟨A, c, rfl, hl, _⟩ := FK_now h
 refine ⟨A, c, rfl, hl, fun W' hW => ?_⟩
 obtain ⟨A', c', he, _, g'⟩ := h W' hW
 injection he with he _
 injection he with ha _ _
 rw [ha]
 exact g'
end
end Kd
end Go.Proofs.YtagkfkdoibnhfaaDoorW.PrintWords
end
section
namespace Go.Proofs.YtagkfkdoibnhfaaDoor.K
open Go.RowKit Go.Proofs.YtagkfkdoibnhfaaDoorW.PrintWords Go.Proofs.YtagkfkdoibnhfaaDoorW.PrintMore Go.Proofs.YtagkfkdoibnhfaaDoor.H
namespace O
theorem irange_mem_iff {x lo hi : Int} : x ∈ irange lo hi ↔ lo ≤ x ∧ x ≤ hi := by
 unfold irange
 rw [List.mem_map]
 constructor
 ·rintro ⟨i, hi, rfl⟩
  rw [List.mem_range] at hi
  omega
 ·rintro ⟨h1, h2⟩
  exact ⟨(x - lo).toNat, by rw [List.mem_range]; omega, by omega⟩
theorem irange_len (lo hi : Int) : (irange lo hi).length = (hi + 1 - lo).toNat := by unfold irange; simp
theorem choices_mem' {T O : Int} {R : List S66} {hs : List S60} {p : Int} {q : Int × Int} : q ∈ choices T O R hs p ↔ q ∈ pairsOf (T * O) ∧ miss T R hs p q.1 q.2 = 0 := by
 unfold choices
 rw [List.mem_filter, decide_eq_true_eq]
theorem pairs_mem_iff {m : Int} {q : Int × Int} : q ∈ pairsOf m ↔ (0 ≤ q.1 ∧ q.1 ≤ m - 1) ∧ 0 ≤ q.2 ∧ q.2 ≤ m - 1 := by
 unfold pairsOf
 rw [List.mem_flatMap]
 constructor
 ·rintro ⟨a, ha, h⟩
  rw [List.mem_map] at h
  obtain ⟨b, hb, rfl⟩ := h
  exact ⟨irange_mem_iff.1 ha, irange_mem_iff.1 hb⟩
 ·rintro ⟨h1, h2⟩
  exact ⟨q.1, irange_mem_iff.2 h1, List.mem_map.2 ⟨q.2, irange_mem_iff.2 h2, rfl⟩⟩
theorem canAll_pos {T O L : Int} {R : List S66} {hs : List S60} (h : canAll T O L R hs = true) (p : Int) (h0 : 0 ≤ p) (h1 : p ≤ L / 2 - 1) : ∃ q, q ∈ choices T O R hs p := by
 unfold canAll at h
 rw [List.all_eq_true] at h
 have := h p (irange_mem_iff.2 ⟨h0, h1⟩)
 cases hc : choices T O R hs p
 ·rw [hc] at this; simp at this
 ·exact ⟨_, List.mem_cons_self⟩
theorem canOf_mem {T O : Int} {R : List S66} {hs : List S60} {place t : Int} : t ∈ canOf T O R hs place ↔ ∃ q ∈ choices T O R hs (place / 2), side q place = t := by
 unfold canOf
 rw [List.mem_filter, List.any_eq_true]
 constructor
 ·rintro ⟨_, q, hq, h⟩
  exact ⟨q, hq, of_decide_eq_true h⟩
 ·rintro ⟨q, hq, rfl⟩
  refine ⟨irange_mem_iff.2 ?_, q, hq, decide_eq_true rfl⟩
  have := pairs_mem_iff.1 (choices_mem'.1 hq).1
  unfold side
  split
  ·exact this.1
  ·exact this.2
theorem canOf_nodup (T O : Int) (R : List S66) (hs : List S60) (place : Int) : (canOf T O R hs place).Nodup := by
 unfold canOf
 exact (irange_nodup _ _).filter _
theorem nodup_one {α : Type} {l : List α} (hn : l.Nodup) (x : α) (h : ∀ y ∈ l, y = x) : l.length ≤ 1 := by
 match l, hn with
 | [], _ => simp
 | [_], _ => simp
 | a :: b :: r, hn =>
  have h1 := h a (by simp)
  have h2 := h b (by simp)
  rw [h1, h2] at hn
  simp at hn
theorem canOf_one {T O : Int} {R : List S66} {hs : List S60} {place : Int} {q : Int × Int} (h : choices T O R hs (place / 2) = [q]) : canOf T O R hs place = [side q place] := by
 have h1 : side q place ∈ canOf T O R hs place := canOf_mem.2 ⟨q, by rw [h]; simp, rfl⟩
 have h2 := nodup_one (canOf_nodup T O R hs place) (side q place) (fun y hy => by
  obtain ⟨q', hq', e⟩ := canOf_mem.1 hy
  rw [h] at hq'
  rw [List.mem_singleton] at hq'
  rw [← e, hq'])
 match hl : canOf T O R hs place, h1, h2 with
 | [x], h1, _ => rw [List.mem_singleton] at h1; rw [h1]
 | [], h1, _ => simp at h1
 | _ :: _ :: _, _, h2 => simp at h2
theorem two_sides {T O : Int} {R : List S66} {hs : List S60} {p : Int} (hp : 0 ≤ p) {q q' : Int × Int} (hq : q ∈ choices T O R hs p) (hq' : q' ∈ choices T O R hs p) (hne : q ≠ q') :
  1 < (canOf T O R hs (2 * p)).length ∨ 1 < (canOf T O R hs (2 * p + 1)).length := by
 have e1 : 2 * p / 2 = p := by omega
 have e2 : (2 * p + 1) / 2 = p := by omega
 have two : ∀ (place : Int), place / 2 = p → side q place ≠ side q' place → 1 < (canOf T O R hs place).length := fun place hpl hd => by
  have m1 : side q place ∈ canOf T O R hs place := canOf_mem.2 ⟨q, by rw [hpl]; exact hq, rfl⟩
  have m2 : side q' place ∈ canOf T O R hs place := canOf_mem.2 ⟨q', by rw [hpl]; exact hq', rfl⟩
  rcases Nat.lt_or_ge 1 (canOf T O R hs place).length with h | h
  ·exact h
  ·exfalso
   match hl : canOf T O R hs place, h with
   | [], _ => rw [hl] at m1; simp at m1
   | [x], _ =>
    rw [hl, List.mem_singleton] at m1 m2
    exact hd (m1.trans m2.symm)
 by_cases h1 : q.1 = q'.1
 ·right
  refine two _ e2 ?_
  unfold side
  rw [if_neg (by omega), if_neg (by omega)]
  exact fun h2 => hne (Prod.ext h1 h2)
 ·left
  refine two _ e1 ?_
  unfold side
  rw [if_pos (by omega), if_pos (by omega)]
  exact h1
theorem missOf_zero {was l : List Int} (h : missOf was l = 0) (k : Nat) (hk : k < l.length) : was.getD k 0 = -2 ∨ was.getD k 0 = l.getD k 0 := by
 unfold missOf at h
 rw [List.countP_eq_zero] at h
 have := h k (List.mem_range.2 hk)
 simp only [Bool.and_eq_true, decide_eq_true_eq, ne_eq] at this
 by_cases h1 : was.getD k 0 = -2
 ·exact .inl h1
 ·by_cases h2 : was.getD k 0 = l.getD k 0
  ·exact .inr h2
  ·exact absurd ⟨h1, h2⟩ this
theorem mem_le_sum : ∀ (l : List Nat) (x : Nat), x ∈ l → x ≤ l.sum
 | [], x, h => by simp at h
 | y :: r, x, h => by
  rw [List.sum_cons]
  rcases List.mem_cons.1 h with rfl | h
  ·omega
  ·have := mem_le_sum r x h
   omega
theorem miss_zero {T : Int} {R : List S66} {hs : List S60} {place a b : Int} (h : miss T R hs place a b = 0) (x : S60) (hx : x ∈ hs) : missOf (x.f1.drop (place.toNat * width (regAt R x.f0))) (strokes T R x.f0 a b) = 0 := by
 unfold miss at h
 have hle : missOf (x.f1.drop (place.toNat * width (regAt R x.f0))) (strokes T R x.f0 a b) ≤ (hs.map fun h => missOf (h.f1.drop (place.toNat * width (regAt R h.f0))) (strokes T R h.f0 a b)).sum :=
  mem_le_sum _ _ (List.mem_map.2 ⟨x, hx, rfl⟩)
 omega
end O
end Go.Proofs.YtagkfkdoibnhfaaDoor.K
end
section
namespace Go.Proofs.YtagkfkdoibnhfaaDoor.K
open Go.RowKit Go.Proofs.YtagkfkdoibnhfaaDoorW.PrintWords Go.Proofs.YtagkfkdoibnhfaaDoorW.PrintMore Go.Proofs.YtagkfkdoibnhfaaDoor.H
namespace O
theorem flatMap_getD {α : Type} (f : α → List Int) (W : Nat) (hW : ∀ x, (f x).length = W) : ∀ (l : List α) (p k : Nat) (hp : p < l.length), k < W → (l.flatMap f).getD (p * W + k) 0 = (f l[p]).getD k 0
 | x :: l, 0, k, hp, hk => by
  rw [List.flatMap_cons, List.getD_eq_getElem?_getD, List.getD_eq_getElem?_getD, Nat.zero_mul, Nat.zero_add, List.getElem?_append_left (by rw [hW]; exact hk)]
  rfl
 | x :: l, p + 1, k, hp, hk => by
  have ih := flatMap_getD f W hW l p k (by simpa using hp) hk
  rw [List.flatMap_cons, List.getD_eq_getElem?_getD, List.getElem?_append_right (by rw [hW, Nat.add_mul]; omega), ← List.getD_eq_getElem?_getD, hW]
  rw [show (p + 1) * W + k - W = p * W + k by rw [Nat.add_mul]; omega, ih]
  rfl
theorem flatMap_length {α : Type} (f : α → List Int) (W : Nat) (hW : ∀ x, (f x).length = W) : ∀ l : List α, (l.flatMap f).length = l.length * W
 | [] => by simp
 | x :: l => by rw [List.flatMap_cons, List.length_append, hW, flatMap_length f W hW l, List.length_cons, Nat.add_mul, Nat.one_mul, Nat.add_comm]
theorem partOf_flat (T : Int) (R : List S66) (r : Int) (f : Int → Int × Int) : ∀ l : List Int, partOf T R r (l.flatMap fun p => [(f p).1, (f p).2]) = l.flatMap fun p => strokes T R r (f p).1 (f p).2
 | [] => rfl
 | x :: l => by
  rw [List.flatMap_cons, List.flatMap_cons, ← partOf_flat T R r f l]
  rfl
theorem strokes_w (T : Int) (R : List S66) (r a b : Int) : (strokes T R r a b).length = width (regAt R r) := by
 unfold strokes
 rw [List.length_map, width_len]
def Single (T O L : Int) (R : List S66) (hs : List S60) (q : Int → Int × Int) : Prop := ∀ p, 0 ≤ p → p ≤ L / 2 - 1 → choices T O R hs p = [q p]
theorem won_flat {T O L : Int} {R : List S66} {hs : List S60} {q : Int → Int × Int} (h : Single T O L R hs q) : wonOf T O L R hs = (irange 0 (L / 2 - 1)).flatMap fun p => [(q p).1, (q p).2] := by
 unfold wonOf
 rw [List.flatMap_def, List.flatMap_def]
 congr 1
 apply List.map_congr_left
 intro p hp
 obtain ⟨h0, h1⟩ := irange_mem_iff.1 hp
 rw [h p h0 h1]
theorem irange_get {lo hi : Int} (p : Nat) (hp : p < (irange lo hi).length) : (irange lo hi)[p] = lo + (p : Int) := by
 have h1 : p < (hi + 1 - lo).toNat := by rw [irange_len] at hp; exact hp
 have h2 : (irange lo hi)[p]? = some (lo + (p : Int)) := by
  unfold irange
  rw [List.getElem?_map, List.getElem?_range h1]
  rfl
 exact Option.some.inj ((List.getElem?_eq_getElem hp).symm.trans h2)
section
variable {T O L : Int} {R : List S66} {hs : List S60} {q : Int → Int × Int} (hS : okScale T O L R = true) (hH : okHeard L R hs = true) (h : Single T O L R hs q)
include hS h
theorem won_len : ((wonOf T O L R hs).length : Int) = L := by
 obtain ⟨t1, t2, t3, t4, t5, t6, t7, t8, t9, hok⟩ := okScale_regs hS
 rw [won_flat h, flatMap_length _ 2 (fun _ => rfl), irange_len]
 omega
theorem won_get (i : Nat) (hi : (i : Int) < L) : (wonOf T O L R hs).getD i 0 = side (q ((i : Int) / 2)) (i : Int) := by
 obtain ⟨t1, t2, t3, t4, t5, t6, t7, t8, t9, hok⟩ := okScale_regs hS
 have hl : (irange 0 (L / 2 - 1)).length = (L / 2).toNat := by rw [irange_len]; omega
 have e : i = i / 2 * 2 + i % 2 := by omega
 have hp : i / 2 < (irange 0 (L / 2 - 1)).length := by omega
 have := flatMap_getD (fun p => [(q p).1, (q p).2]) 2 (fun _ => rfl) (irange 0 (L / 2 - 1)) (i / 2) (i % 2) hp (Nat.mod_lt _ (by omega))
 rw [← e, irange_get _ hp] at this
 rw [won_flat h, this]
 unfold side
 have e2 : (0 : Int) + ((i / 2 : Nat) : Int) = (i : Int) / 2 := by omega
 rw [e2]
 have h2 := Nat.mod_two_eq_zero_or_one i
 rcases h2 with h2 | h2
 ·rw [h2, if_pos (by omega)]; rfl
 ·rw [h2, if_neg (by omega)]; rfl
theorem single_mem (p : Int) (h0 : 0 ≤ p) (h1 : p ≤ L / 2 - 1) : ((0 ≤ (q p).1 ∧ (q p).1 ≤ T * O - 1) ∧ 0 ≤ (q p).2 ∧ (q p).2 ≤ T * O - 1) ∧ miss T R hs p (q p).1 (q p).2 = 0 := by
 have := choices_mem'.1 (show q p ∈ choices T O R hs p by rw [h p h0 h1]; simp)
 exact ⟨pairs_mem_iff.1 this.1, this.2⟩
theorem won_ok (r : Int) (h0 : 0 ≤ r) (h1 : r < R.length) : okPart T O L R (wonOf T O L R hs) r = true := by
 unfold okPart
 simp only [Bool.and_eq_true, decide_eq_true_eq, List.all_eq_true]
 refine ⟨⟨⟨won_len hS h, h0⟩, h1⟩, fun x hx => ?_⟩
 rw [won_flat h, List.mem_flatMap] at hx
 obtain ⟨p, hp, hx⟩ := hx
 obtain ⟨g0, g1⟩ := irange_mem_iff.1 hp
 have := (single_mem hS h p g0 g1).1
 simp only [List.mem_cons, List.not_mem_nil, or_false] at hx
 rcases hx with rfl | rfl <;> omega
include hH
theorem fill_part (x : S60) (hx : x ∈ hs) : fillOf T O R hs x = partOf T R x.f0 (wonOf T O L R hs) := by
 obtain ⟨t1, t2, t3, t4, t5, t6, t7, t8, t9, hok⟩ := okScale_regs hS
 obtain ⟨hh5, hh⟩ := okHeard_get hH
 obtain ⟨i, hi, rfl⟩ := List.getElem_of_mem hx
 obtain ⟨g1, g2, g3, g4⟩ := hh i hi
 have hwp := width_pos (regAt R hs[i].f0)
 have hl : (irange 0 (L / 2 - 1)).length = (L / 2).toNat := by rw [irange_len]; omega
 have hlen : hs[i].f1.length = (L / 2).toNat * width (regAt R hs[i].f0) := by
  have : (hs[i].f1.length : Int) = (((L / 2).toNat * width (regAt R hs[i].f0) : Nat) : Int) := by
   rw [g3, Int.natCast_mul, Int.toNat_of_nonneg (by omega)]
  exact Int.ofNat.inj this
 rw [won_flat h, partOf_flat]
 have hl2 : ((irange 0 (L / 2 - 1)).flatMap fun p => strokes T R hs[i].f0 (q p).1 (q p).2).length = hs[i].f1.length := by
  rw [flatMap_length _ _ (fun p => strokes_w T R hs[i].f0 (q p).1 (q p).2), hl, hlen]
 apply List.ext_getElem
 ·unfold fillOf
  rw [List.length_map, List.length_range, hl2]
 ·intro n hn hn'
  have hn2 : n < hs[i].f1.length := by rw [← hl2]; exact hn'
  generalize hW : width (regAt R hs[i].f0) = W at *
  have hpn : n / W < (L / 2).toNat := by rw [Nat.div_lt_iff_lt_mul (by omega), ← hlen]; exact hn2
  have hkn : n % W < W := Nat.mod_lt _ (by omega)
  have e : n / W * W + n % W = n := by rw [Nat.mul_comm]; exact Nat.div_add_mod n W
  have h1 := flatMap_getD (fun p => strokes T R hs[i].f0 (q p).1 (q p).2) W (fun p => by rw [strokes_w, hW]) (irange 0 (L / 2 - 1)) (n / W) (n % W) (by omega) hkn
  rw [e, irange_get _ (by omega), Int.zero_add] at h1
  rw [List.getD_eq_getElem?_getD, List.getElem?_eq_getElem hn'] at h1
  have h1' : ((irange 0 (L / 2 - 1)).flatMap fun p => strokes T R hs[i].f0 (q p).1 (q p).2)[n] = (strokes T R hs[i].f0 (q ((n / W : Nat) : Int)).1 (q ((n / W : Nat) : Int)).2).getD (n % W) 0 := h1
  rw [h1']
  have hq := single_mem hS h ((n / W : Nat) : Int) (Int.natCast_nonneg _) (by omega)
  have hch := h ((n / W : Nat) : Int) (Int.natCast_nonneg _) (by omega)
  have hf : (fillOf T O R hs hs[i])[n]? = some (if hs[i].f1.getD n 0 = -2 then (known T R hs[i].f0 (choices T O R hs ((n / W : Nat) : Int)) (n % W)).getD (-2) else hs[i].f1.getD n 0) := by
   unfold fillOf
   rw [List.getElem?_map, List.getElem?_range hn2, hW]
   rfl
  rw [Option.some.inj ((List.getElem?_eq_getElem hn).symm.trans hf)]
  split
  ·rw [hch]
   rfl
  ·rename_i hne
   have hm := missOf_zero (miss_zero hq.2 hs[i] hx) (n % W) (by rw [strokes_w, hW]; exact hkn)
   rw [hW, Int.toNat_natCast] at hm
   have e2 : (hs[i].f1.drop (n / W * W)).getD (n % W) 0 = hs[i].f1.getD n 0 := by
    rw [List.getD_eq_getElem?_getD, List.getElem?_drop, e, ← List.getD_eq_getElem?_getD]
   rw [e2] at hm
   rcases hm with hm | hm
   ·exact absurd hm hne
   ·exact hm
end
end O
end Go.Proofs.YtagkfkdoibnhfaaDoor.K
end
section
namespace Go.Proofs.YtagkfkdoibnhfaaDoor.H
open Go.RowKit Go.Proofs.YtagkfkdoibnhfaaDoorW.PrintWords Go.Proofs.YtagkfkdoibnhfaaDoorW.PrintLast Go.Proofs.YtagkfkdoibnhfaaDoorW.PrintMore
attribute [local go_sem] max2_int min2_int max_two min_two max_three min_three max_four min_four   -- for this text's walks alone
set_option linter.unusedVariables false
set_option linter.unusedSimpArgs false
mutual
def saronlaw06_sound.j0 : Nat → Bool → Int → Int → Int → List (S66) → Option (Bool)
 | 0, _, _, _, _, _ => none
 | k + 1, x3, x464000, x464001, x464002, x464003 => saronlaw06_sound.l0 k x3 0 x464000 x464001 x464002 x464003
def saronlaw06_sound.l0 : Nat → Bool → Int → Int → Int → Int → List (S66) → Option (Bool)
 | 0, _, _, _, _, _, _ => none
 | k + 1, x3, x4, x464000, x464001, x464002, x464003 => if x3 = true then (saronlaw06_sound.j2 k x3 x4 (decide (x4 < (x464003.length : Int))) x464000 x464001 x464002 x464003) else (saronlaw06_sound.j2 k x3 x4 false x464000 x464001 x464002 x464003)
def saronlaw06_sound.j2 : Nat → Bool → Int → Bool → Int → Int → Int → List (S66) → Option (Bool)
 | 0, _, _, _, _, _, _, _ => none
 | k + 1, x3, x4, x43, x464000, x464001, x464002, x464003 => if x43 = true then (if 0 ≤ x4 then (if x4 < (x464003.length : Int) then ((saronref00_Sits.f ((rd_T66 x464003 x4).f0) 0 4).bind fun t471 => (if t471 = true then ((saronref00_Band.f ((rd_T66 x464003 x4).f1) ((rd_T66 x464003 x4).f2)).bind fun bt472 => ((saronref00_Good.f bt472.1 bt472.2 0 (wrap64 ((wrap64 (x464000 * x464001)) - 1))).bind fun t474 => (if t474 = true then ((saronref00_Sits.f ((rd_T66 x464003 x4).f3) (-6) 6).bind fun t475 => (saronlaw06_sound.l0 k t475 (wrap64 (x4 + 1)) x464000 x464001 x464002 x464003)) else (saronlaw06_sound.l0 k false (wrap64 (x4 + 1)) x464000 x464001 x464002 x464003)))) else (saronlaw06_sound.l0 k false (wrap64 (x4 + 1)) x464000 x464001 x464002 x464003))) else (none)) else (none)) else (some x3)
end
def saronlaw06_sound.f (k : Nat) (a0_0 : Int) (a0_1 : Int) (a0_2 : Int) (l0_3 : List (S66)) : Option (Bool) := (kernel_Check.f k a0_0 a0_1 a0_2 l0_3).bind fun t464 => (if t464 = 0 then ((saronref00_Sits.f a0_0 2 7).bind fun t465 => (if t465 = true then ((saronref00_Sits.f a0_1 1 3).bind fun t466 => (if t466 = true then ((saronref00_Sits.f a0_2 2 16).bind fun t467 => (if t467 = true then (if (Int.tmod a0_2 2) = 0 then ((saronref00_Sits.f (l0_3.length : Int) 1 5).bind fun t468 => (saronlaw06_sound.j0 k t468 a0_0 a0_1 a0_2 l0_3)) else (saronlaw06_sound.j0 k false a0_0 a0_1 a0_2 l0_3)) else (saronlaw06_sound.j0 k false a0_0 a0_1 a0_2 l0_3))) else (saronlaw06_sound.j0 k false a0_0 a0_1 a0_2 l0_3))) else (saronlaw06_sound.j0 k false a0_0 a0_1 a0_2 l0_3))) else (saronlaw06_sound.j0 k false a0_0 a0_1 a0_2 l0_3))
def saronlaw06_sound.T6 : Bool × List (List Nat × List Nat) := (true, [([], []), ([0], [0]), ([1], [1]), ([2, 2], [2]), ([3], [3]), ([4, 3], [3, 4]), ([3], [3]), ([6, 3], [3, 6]), ([5, 7, 3, 3], [3, 5, 7]), ([3], [3]), ([9, 3], [3, 9]), ([3], [3]), ([11, 3], [3, 11]), ([10, 12, 3], [3, 10, 12]), ([13, 3], [3, 13]), ([8, 14, 8, 3], [3, 8, 14]), ([3, 15], [3, 15]), ([16, 15], [16]), ([17], [17]), ([18, 17], [17, 18]), ([19, 17, 17], [17, 19]), ([17, 20], [17, 20]), ([21, 20, 0, 1, 2, 3, 4, 5, 6, 7, 8, 9, 10, 11, 12, 13, 14, 15, 16, 17, 18, 19, 20, 21], [21])])
def saronlaw06_sound.B6 : List Nat := [0, 1, 3, 7, 15, 31, 15, 79, 255, 15, 527, 15, 2063, 7695, 15887, 32767, 65535, 131071, 262143, 524287, 1048575, 2097151, 4194303]
theorem saronlaw06_sound.tab6 : rtab .any (opsOf Tryd.f39 6) = saronlaw06_sound.T6 := by kernel_rfl
theorem saronlaw06_sound.bits6 : waitsOk saronlaw06_sound.T6.2 saronlaw06_sound.B6 = true := by kernel_rfl
set_option maxHeartbeats 8000000 in
set_option maxRecDepth 100000 in
theorem saronlaw06_sound.calls (k : Nat) (a0_0 : Int) (a0_1 : Int) (a0_2 : Int) (A0_3 : Option Addr) (c0_3 : Nat) (l0_3 : List (S66)) (r : Bool) (w : World) (hr0_3 : Kd.C k66 w A0_3 l0_3.length l0_3) (hc0_3 : l0_3.length ≤ c0_3) (h : saronlaw06_sound.f k a0_0 a0_1 a0_2 l0_3 = some r) :
  Calls Tryd.prog 39 #[.agg #[.int .i64 a0_0, .int .i64 a0_1, .int .i64 a0_2, .slice A0_3 l0_3.length c0_3]] w fun e w' => e = .returned (.bool r) ∧ Below w.heap.size w w' := by
 have hu24 := Tryd.underlying24
 have hu66 := Tryd.underlying66
 have HR0_3 := zh hr0_3
 have HC0_3 := zh hc0_3
 clear hr0_3 hc0_3
 have HB := zh (Below.refl w.heap.size w)
 have H : ((kernel_Check.f k a0_0 a0_1 a0_2 l0_3).bind fun t464 => (if t464 = 0 then ((saronref00_Sits.f a0_0 2 7).bind fun t465 => (if t465 = true then ((saronref00_Sits.f a0_1 1 3).bind fun t466 => (if t466 = true then ((saronref00_Sits.f a0_2 2 16).bind fun t467 => (if t467 = true then (if (Int.tmod a0_2 2) = 0 then ((saronref00_Sits.f (l0_3.length : Int) 1 5).bind fun t468 => (saronlaw06_sound.j0 k t468 a0_0 a0_1 a0_2 l0_3)) else (saronlaw06_sound.j0 k false a0_0 a0_1 a0_2 l0_3)) else (saronlaw06_sound.j0 k false a0_0 a0_1 a0_2 l0_3))) else (saronlaw06_sound.j0 k false a0_0 a0_1 a0_2 l0_3))) else (saronlaw06_sound.j0 k false a0_0 a0_1 a0_2 l0_3))) else (saronlaw06_sound.j0 k false a0_0 a0_1 a0_2 l0_3))) = some r := h
 clear h
 have HC2 := zh H
 clear H
 go_enter Tryd.func39, Tryd.ntmps39
 go_upto_region 1 with (first | ((with_reducible refine gate_dst (N := 1) rfl ?_); (try (refine gate_guard (by rfl) ?_; dsimp only)); refine box_event ?hg (N := 1) ?hd (cs := #[.int .i64 a0_0, .int .i64 a0_1, .int .i64 a0_2, .slice A0_3 l0_3.length c0_3]) (t := 24) ?hr ?_; (case hd => rfl); (case hg => rfl); (case hr => first | (go_simp; done) | (go_simp; rfl)); intro gb463 hg w3 hbox hb; have n0_ := zh (below_step zb hb); have n1_ := zh (hbox); have n2_ := zh ((by rw [hg]; exact (below_size zb) : w.heap.size ≤ gb463)); have n3_ := zh ((by rw [hg]; exact (below_size zb) : w.heap.size ≤ gb463)); clear HB; have HB := n0_; have BK463 := n1_; have GW463 := n2_; have GE463 := n3_; clear n0_ n1_ n2_ n3_; clear hb hbox hg))
 (try simp only [Act.put, List.setIfInBounds_toArray, List.set_cons_zero, List.set_cons_succ])
 go_cut [3] (fun v3 wc => ∃ (kq : Nat) (x3_1 : Bool), v3 = .bool x3_1 ∧ Aside0 (saronlaw06_sound.j0 kq x3_1 a0_0 a0_1 a0_2 l0_3 = some r) ∧ Aside0 (kq ≤ k) ∧ Aside0 (wc.heap[gb463]? = some (.cells #[.int .i64 a0_0, .int .i64 a0_1, .int .i64 a0_2, (.slice A0_3 l0_3.length c0_3)] 24 (0, 0))) ∧ Aside0 (Below w.heap.size w wc))
 case first =>
  have H := HC2.out
  clear HC2
  replace H := Option.bind_eq_some_iff.mp H
  obtain ⟨t464, A40, H⟩ := H
  replace H : (if t464 = 0 then ((saronref00_Sits.f a0_0 2 7).bind fun t465 => (if t465 = true then ((saronref00_Sits.f a0_1 1 3).bind fun t466 => (if t466 = true then ((saronref00_Sits.f a0_2 2 16).bind fun t467 => (if t467 = true then (if (Int.tmod a0_2 2) = 0 then ((saronref00_Sits.f (l0_3.length : Int) 1 5).bind fun t468 => (saronlaw06_sound.j0 k t468 a0_0 a0_1 a0_2 l0_3)) else (saronlaw06_sound.j0 k false a0_0 a0_1 a0_2 l0_3)) else (saronlaw06_sound.j0 k false a0_0 a0_1 a0_2 l0_3))) else (saronlaw06_sound.j0 k false a0_0 a0_1 a0_2 l0_3))) else (saronlaw06_sound.j0 k false a0_0 a0_1 a0_2 l0_3))) else (saronlaw06_sound.j0 k false a0_0 a0_1 a0_2 l0_3)) = some r := H
  have A4 := zh A40
  clear A40
  by_cases c5 : t464 = 0
  ·rw [if_pos c5] at H
   have c5b0 : (t464 == 0) = true := beq_iff_eq.mpr c5
   have c5b1 : (t464 != 0) = false := bne_eq_false_iff_eq.mpr c5
   clear c5
   (first | rw [c5b0] | (simp only [i64_w, i32_w]; rw [c5b0]) | skip)
   replace H := Option.bind_eq_some_iff.mp H
   obtain ⟨t465, A60, H⟩ := H
   replace H : (if t465 = true then ((saronref00_Sits.f a0_1 1 3).bind fun t466 => (if t466 = true then ((saronref00_Sits.f a0_2 2 16).bind fun t467 => (if t467 = true then (if (Int.tmod a0_2 2) = 0 then ((saronref00_Sits.f (l0_3.length : Int) 1 5).bind fun t468 => (saronlaw06_sound.j0 k t468 a0_0 a0_1 a0_2 l0_3)) else (saronlaw06_sound.j0 k false a0_0 a0_1 a0_2 l0_3)) else (saronlaw06_sound.j0 k false a0_0 a0_1 a0_2 l0_3))) else (saronlaw06_sound.j0 k false a0_0 a0_1 a0_2 l0_3))) else (saronlaw06_sound.j0 k false a0_0 a0_1 a0_2 l0_3)) = some r := H
   have A6 := zh A60
   clear A60
   by_cases c7 : t465 = true
   ·subst c7
    have H1 : ((saronref00_Sits.f a0_1 1 3).bind fun t466 => (if t466 = true then ((saronref00_Sits.f a0_2 2 16).bind fun t467 => (if t467 = true then (if (Int.tmod a0_2 2) = 0 then ((saronref00_Sits.f (l0_3.length : Int) 1 5).bind fun t468 => (saronlaw06_sound.j0 k t468 a0_0 a0_1 a0_2 l0_3)) else (saronlaw06_sound.j0 k false a0_0 a0_1 a0_2 l0_3)) else (saronlaw06_sound.j0 k false a0_0 a0_1 a0_2 l0_3))) else (saronlaw06_sound.j0 k false a0_0 a0_1 a0_2 l0_3))) = some r := by rw [if_pos rfl] at H; exact H
    clear H
    have H := H1
    clear H1
    replace H := Option.bind_eq_some_iff.mp H
    obtain ⟨t466, A80, H⟩ := H
    replace H : (if t466 = true then ((saronref00_Sits.f a0_2 2 16).bind fun t467 => (if t467 = true then (if (Int.tmod a0_2 2) = 0 then ((saronref00_Sits.f (l0_3.length : Int) 1 5).bind fun t468 => (saronlaw06_sound.j0 k t468 a0_0 a0_1 a0_2 l0_3)) else (saronlaw06_sound.j0 k false a0_0 a0_1 a0_2 l0_3)) else (saronlaw06_sound.j0 k false a0_0 a0_1 a0_2 l0_3))) else (saronlaw06_sound.j0 k false a0_0 a0_1 a0_2 l0_3)) = some r := H
    have A8 := zh A80
    clear A80
    by_cases c9 : t466 = true
    ·subst c9
     have H1 : ((saronref00_Sits.f a0_2 2 16).bind fun t467 => (if t467 = true then (if (Int.tmod a0_2 2) = 0 then ((saronref00_Sits.f (l0_3.length : Int) 1 5).bind fun t468 => (saronlaw06_sound.j0 k t468 a0_0 a0_1 a0_2 l0_3)) else (saronlaw06_sound.j0 k false a0_0 a0_1 a0_2 l0_3)) else (saronlaw06_sound.j0 k false a0_0 a0_1 a0_2 l0_3))) = some r := by rw [if_pos rfl] at H; exact H
     clear H
     have H := H1
     clear H1
     replace H := Option.bind_eq_some_iff.mp H
     obtain ⟨t467, A100, H⟩ := H
     replace H : (if t467 = true then (if (Int.tmod a0_2 2) = 0 then ((saronref00_Sits.f (l0_3.length : Int) 1 5).bind fun t468 => (saronlaw06_sound.j0 k t468 a0_0 a0_1 a0_2 l0_3)) else (saronlaw06_sound.j0 k false a0_0 a0_1 a0_2 l0_3)) else (saronlaw06_sound.j0 k false a0_0 a0_1 a0_2 l0_3)) = some r := H
     have A10 := zh A100
     clear A100
     by_cases c11 : t467 = true
     ·subst c11
      have H1 : (if (Int.tmod a0_2 2) = 0 then ((saronref00_Sits.f (l0_3.length : Int) 1 5).bind fun t468 => (saronlaw06_sound.j0 k t468 a0_0 a0_1 a0_2 l0_3)) else (saronlaw06_sound.j0 k false a0_0 a0_1 a0_2 l0_3)) = some r := by rw [if_pos rfl] at H; exact H
      clear H
      have H := H1
      clear H1
      by_cases c12 : (Int.tmod a0_2 2) = 0
      ·rw [if_pos c12] at H
       have c12b0 : ((Int.tmod a0_2 2) == 0) = true := beq_iff_eq.mpr c12
       have c12b1 : ((Int.tmod a0_2 2) != 0) = false := bne_eq_false_iff_eq.mpr c12
       clear c12
       replace H := Option.bind_eq_some_iff.mp H
       obtain ⟨t468, A130, H⟩ := H
       replace H : (saronlaw06_sound.j0 k t468 a0_0 a0_1 a0_2 l0_3) = some r := H
       have A13 := zh A130
       clear A130
       have H' := zh H
       clear H
       have hcz14_0 : w3.cell? ⟨gb463, 0, none⟩ = some (.int .i64 a0_0) := vb BK463 0
       have hcz14_1 : w3.cell? ⟨gb463, 1, none⟩ = some (.int .i64 a0_1) := vb BK463 1
       have hcz14_2 : w3.cell? ⟨gb463, 2, none⟩ = some (.int .i64 a0_2) := vb BK463 2
       have hcz14_3 : w3.cell? ⟨gb463, 3, none⟩ = some (.slice A0_3 l0_3.length c0_3) := vb BK463 3
       have hfz14_0 := blk_frozen BK463.out 0
       have hfz14_1 := blk_frozen BK463.out 1
       have hfz14_2 := blk_frozen BK463.out 2
       have hfz14_3 := blk_frozen BK463.out 3
       go_wp2_with (first | ((with_reducible refine gate_callee (f := 19) rfl ?_); refine goesL_ (some 7) rfl rfl Tryd.func19 zk rfl #[.agg #[.int .i64 a0_0, .int .i64 a0_1, .int .i64 a0_2, .slice A0_3 l0_3.length c0_3]] rfl zm ?_; (with_reducible refine (kernel_Check.calls k a0_0 a0_1 a0_2 _ _ l0_3 t464 _ ?side1 ?side2 A4.out).mono ?_); (case side1 => repeat (first | exact (Kd.C_below HR0_3.out HB.out) | (with_reducible refine Kd.C_alloc ?_ _) | (with_reducible refine Kd.C_drewN ?_ _) | (with_reducible refine Kd.C_drew ?_))); (case side2 => exact HC0_3.out); rintro e w15 ⟨rfl, hb⟩; refine ⟨_, rfl, ?_⟩; have n0_ := zh (blk_below (g := gb463) (o := .cells #[.int .i64 a0_0, .int .i64 a0_1, .int .i64 a0_2, .slice A0_3 l0_3.length c0_3] 24 (0, 0)) (zc BK463) hb); have n1_ := zh (below_step zb hb); clear BK463; clear HB; have BK463 := n0_; have HB := n1_; clear n0_ n1_; (try clear hb); (try clear hb2); (try clear hk); (try clear hi); have hcz16_0 : w15.cell? ⟨gb463, 0, none⟩ = some (.int .i64 a0_0) := vb BK463 0; have hcz16_1 : w15.cell? ⟨gb463, 1, none⟩ = some (.int .i64 a0_1) := vb BK463 1; have hcz16_2 : w15.cell? ⟨gb463, 2, none⟩ = some (.int .i64 a0_2) := vb BK463 2; have hcz16_3 : w15.cell? ⟨gb463, 3, none⟩ = some (.slice A0_3 l0_3.length c0_3) := vb BK463 3; have hfz16_0 := blk_frozen BK463.out 0; have hfz16_1 := blk_frozen BK463.out 1; have hfz16_2 := blk_frozen BK463.out 2; have hfz16_3 := blk_frozen BK463.out 3) | (go_at_call 45; (with_reducible refine (saronref00_Sits.calls a0_0 2 7 true _ A6.out).mono ?_); rintro e w' ⟨rfl, ⟨nd, rfl⟩⟩) | (go_at_call 45; (with_reducible refine (saronref00_Sits.calls a0_1 1 3 true _ A8.out).mono ?_); rintro e w' ⟨rfl, ⟨nd, rfl⟩⟩) | (go_at_call 45; (with_reducible refine (saronref00_Sits.calls a0_2 2 16 true _ A10.out).mono ?_); rintro e w' ⟨rfl, ⟨nd, rfl⟩⟩) | (go_at_call 45; (with_reducible refine (saronref00_Sits.calls (l0_3.length : Int) 1 5 t468 _ A13.out).mono ?_); rintro e w' ⟨rfl, ⟨nd, rfl⟩⟩))
       go_meet
       case rel => exact ⟨_, (t468), ze, H', ⟨zo1⟩, ⟨zc BK463⟩, ⟨zb⟩⟩
      ·rw [if_neg c12] at H
       have c12b0 : ((Int.tmod a0_2 2) == 0) = false := beq_eq_false_iff_ne.mpr c12
       have c12b1 : ((Int.tmod a0_2 2) != 0) = true := bne_iff_ne.mpr c12
       have H' := zh H
       clear H
       have hcz17_0 : w3.cell? ⟨gb463, 0, none⟩ = some (.int .i64 a0_0) := vb BK463 0
       have hcz17_1 : w3.cell? ⟨gb463, 1, none⟩ = some (.int .i64 a0_1) := vb BK463 1
       have hcz17_2 : w3.cell? ⟨gb463, 2, none⟩ = some (.int .i64 a0_2) := vb BK463 2
       have hcz17_3 : w3.cell? ⟨gb463, 3, none⟩ = some (.slice A0_3 l0_3.length c0_3) := vb BK463 3
       have hfz17_0 := blk_frozen BK463.out 0
       have hfz17_1 := blk_frozen BK463.out 1
       have hfz17_2 := blk_frozen BK463.out 2
       have hfz17_3 := blk_frozen BK463.out 3
       go_wp2_with (first | ((with_reducible refine gate_callee (f := 19) rfl ?_); refine goesL_ (some 7) rfl rfl Tryd.func19 zk rfl #[.agg #[.int .i64 a0_0, .int .i64 a0_1, .int .i64 a0_2, .slice A0_3 l0_3.length c0_3]] rfl zm ?_; (with_reducible refine (kernel_Check.calls k a0_0 a0_1 a0_2 _ _ l0_3 t464 _ ?side1 ?side2 A4.out).mono ?_); (case side1 => repeat (first | exact (Kd.C_below HR0_3.out HB.out) | (with_reducible refine Kd.C_alloc ?_ _) | (with_reducible refine Kd.C_drewN ?_ _) | (with_reducible refine Kd.C_drew ?_))); (case side2 => exact HC0_3.out); rintro e w18 ⟨rfl, hb⟩; refine ⟨_, rfl, ?_⟩; have n0_ := zh (blk_below (g := gb463) (o := .cells #[.int .i64 a0_0, .int .i64 a0_1, .int .i64 a0_2, .slice A0_3 l0_3.length c0_3] 24 (0, 0)) (zc BK463) hb); have n1_ := zh (below_step zb hb); clear BK463; clear HB; have BK463 := n0_; have HB := n1_; clear n0_ n1_; (try clear hb); (try clear hb2); (try clear hk); (try clear hi); have hcz19_0 : w18.cell? ⟨gb463, 0, none⟩ = some (.int .i64 a0_0) := vb BK463 0; have hcz19_1 : w18.cell? ⟨gb463, 1, none⟩ = some (.int .i64 a0_1) := vb BK463 1; have hcz19_2 : w18.cell? ⟨gb463, 2, none⟩ = some (.int .i64 a0_2) := vb BK463 2; have hcz19_3 : w18.cell? ⟨gb463, 3, none⟩ = some (.slice A0_3 l0_3.length c0_3) := vb BK463 3; have hfz19_0 := blk_frozen BK463.out 0; have hfz19_1 := blk_frozen BK463.out 1; have hfz19_2 := blk_frozen BK463.out 2; have hfz19_3 := blk_frozen BK463.out 3) | (go_at_call 45; (with_reducible refine (saronref00_Sits.calls a0_0 2 7 true _ A6.out).mono ?_); rintro e w' ⟨rfl, ⟨nd, rfl⟩⟩) | (go_at_call 45; (with_reducible refine (saronref00_Sits.calls a0_1 1 3 true _ A8.out).mono ?_); rintro e w' ⟨rfl, ⟨nd, rfl⟩⟩) | (go_at_call 45; (with_reducible refine (saronref00_Sits.calls a0_2 2 16 true _ A10.out).mono ?_); rintro e w' ⟨rfl, ⟨nd, rfl⟩⟩))
       go_meet
       case rel => exact ⟨_, (false), ze, H', ⟨zo1⟩, ⟨zc BK463⟩, ⟨zb⟩⟩
     ·replace c11 := Bool.eq_false_iff.mpr c11
      subst c11
      have H1 : (saronlaw06_sound.j0 k false a0_0 a0_1 a0_2 l0_3) = some r := by rw [if_neg (show ¬ (false = true) by decide)] at H; exact H
      clear H
      have H := H1
      clear H1
      have H' := zh H
      clear H
      have hcz20_0 : w3.cell? ⟨gb463, 0, none⟩ = some (.int .i64 a0_0) := vb BK463 0
      have hcz20_1 : w3.cell? ⟨gb463, 1, none⟩ = some (.int .i64 a0_1) := vb BK463 1
      have hcz20_2 : w3.cell? ⟨gb463, 2, none⟩ = some (.int .i64 a0_2) := vb BK463 2
      have hcz20_3 : w3.cell? ⟨gb463, 3, none⟩ = some (.slice A0_3 l0_3.length c0_3) := vb BK463 3
      have hfz20_0 := blk_frozen BK463.out 0
      have hfz20_1 := blk_frozen BK463.out 1
      have hfz20_2 := blk_frozen BK463.out 2
      have hfz20_3 := blk_frozen BK463.out 3
      go_wp2_with (first | ((with_reducible refine gate_callee (f := 19) rfl ?_); refine goesL_ (some 7) rfl rfl Tryd.func19 zk rfl #[.agg #[.int .i64 a0_0, .int .i64 a0_1, .int .i64 a0_2, .slice A0_3 l0_3.length c0_3]] rfl zm ?_; (with_reducible refine (kernel_Check.calls k a0_0 a0_1 a0_2 _ _ l0_3 t464 _ ?side1 ?side2 A4.out).mono ?_); (case side1 => repeat (first | exact (Kd.C_below HR0_3.out HB.out) | (with_reducible refine Kd.C_alloc ?_ _) | (with_reducible refine Kd.C_drewN ?_ _) | (with_reducible refine Kd.C_drew ?_))); (case side2 => exact HC0_3.out); rintro e w21 ⟨rfl, hb⟩; refine ⟨_, rfl, ?_⟩; have n0_ := zh (blk_below (g := gb463) (o := .cells #[.int .i64 a0_0, .int .i64 a0_1, .int .i64 a0_2, .slice A0_3 l0_3.length c0_3] 24 (0, 0)) (zc BK463) hb); have n1_ := zh (below_step zb hb); clear BK463; clear HB; have BK463 := n0_; have HB := n1_; clear n0_ n1_; (try clear hb); (try clear hb2); (try clear hk); (try clear hi); have hcz22_0 : w21.cell? ⟨gb463, 0, none⟩ = some (.int .i64 a0_0) := vb BK463 0; have hcz22_1 : w21.cell? ⟨gb463, 1, none⟩ = some (.int .i64 a0_1) := vb BK463 1; have hcz22_2 : w21.cell? ⟨gb463, 2, none⟩ = some (.int .i64 a0_2) := vb BK463 2; have hcz22_3 : w21.cell? ⟨gb463, 3, none⟩ = some (.slice A0_3 l0_3.length c0_3) := vb BK463 3; have hfz22_0 := blk_frozen BK463.out 0; have hfz22_1 := blk_frozen BK463.out 1; have hfz22_2 := blk_frozen BK463.out 2; have hfz22_3 := blk_frozen BK463.out 3) | (go_at_call 45; (with_reducible refine (saronref00_Sits.calls a0_0 2 7 true _ A6.out).mono ?_); rintro e w' ⟨rfl, ⟨nd, rfl⟩⟩) | (go_at_call 45; (with_reducible refine (saronref00_Sits.calls a0_1 1 3 true _ A8.out).mono ?_); rintro e w' ⟨rfl, ⟨nd, rfl⟩⟩) | (go_at_call 45; (with_reducible refine (saronref00_Sits.calls a0_2 2 16 false _ A10.out).mono ?_); rintro e w' ⟨rfl, ⟨nd, rfl⟩⟩))
      go_meet
      case rel => exact ⟨_, (false), ze, H', ⟨zo1⟩, ⟨zc BK463⟩, ⟨zb⟩⟩
    ·replace c9 := Bool.eq_false_iff.mpr c9
     subst c9
     have H1 : (saronlaw06_sound.j0 k false a0_0 a0_1 a0_2 l0_3) = some r := by rw [if_neg (show ¬ (false = true) by decide)] at H; exact H
     clear H
     have H := H1
     clear H1
     have H' := zh H
     clear H
     have hcz23_0 : w3.cell? ⟨gb463, 0, none⟩ = some (.int .i64 a0_0) := vb BK463 0
     have hcz23_1 : w3.cell? ⟨gb463, 1, none⟩ = some (.int .i64 a0_1) := vb BK463 1
     have hcz23_2 : w3.cell? ⟨gb463, 2, none⟩ = some (.int .i64 a0_2) := vb BK463 2
     have hcz23_3 : w3.cell? ⟨gb463, 3, none⟩ = some (.slice A0_3 l0_3.length c0_3) := vb BK463 3
     have hfz23_0 := blk_frozen BK463.out 0
     have hfz23_1 := blk_frozen BK463.out 1
     have hfz23_2 := blk_frozen BK463.out 2
     have hfz23_3 := blk_frozen BK463.out 3
     go_wp2_with (first | ((with_reducible refine gate_callee (f := 19) rfl ?_); refine goesL_ (some 7) rfl rfl Tryd.func19 zk rfl #[.agg #[.int .i64 a0_0, .int .i64 a0_1, .int .i64 a0_2, .slice A0_3 l0_3.length c0_3]] rfl zm ?_; (with_reducible refine (kernel_Check.calls k a0_0 a0_1 a0_2 _ _ l0_3 t464 _ ?side1 ?side2 A4.out).mono ?_); (case side1 => repeat (first | exact (Kd.C_below HR0_3.out HB.out) | (with_reducible refine Kd.C_alloc ?_ _) | (with_reducible refine Kd.C_drewN ?_ _) | (with_reducible refine Kd.C_drew ?_))); (case side2 => exact HC0_3.out); rintro e w24 ⟨rfl, hb⟩; refine ⟨_, rfl, ?_⟩; have n0_ := zh (blk_below (g := gb463) (o := .cells #[.int .i64 a0_0, .int .i64 a0_1, .int .i64 a0_2, .slice A0_3 l0_3.length c0_3] 24 (0, 0)) (zc BK463) hb); have n1_ := zh (below_step zb hb); clear BK463; clear HB; have BK463 := n0_; have HB := n1_; clear n0_ n1_; (try clear hb); (try clear hb2); (try clear hk); (try clear hi); have hcz25_0 : w24.cell? ⟨gb463, 0, none⟩ = some (.int .i64 a0_0) := vb BK463 0; have hcz25_1 : w24.cell? ⟨gb463, 1, none⟩ = some (.int .i64 a0_1) := vb BK463 1; have hcz25_2 : w24.cell? ⟨gb463, 2, none⟩ = some (.int .i64 a0_2) := vb BK463 2; have hcz25_3 : w24.cell? ⟨gb463, 3, none⟩ = some (.slice A0_3 l0_3.length c0_3) := vb BK463 3; have hfz25_0 := blk_frozen BK463.out 0; have hfz25_1 := blk_frozen BK463.out 1; have hfz25_2 := blk_frozen BK463.out 2; have hfz25_3 := blk_frozen BK463.out 3) | (go_at_call 45; (with_reducible refine (saronref00_Sits.calls a0_0 2 7 true _ A6.out).mono ?_); rintro e w' ⟨rfl, ⟨nd, rfl⟩⟩) | (go_at_call 45; (with_reducible refine (saronref00_Sits.calls a0_1 1 3 false _ A8.out).mono ?_); rintro e w' ⟨rfl, ⟨nd, rfl⟩⟩))
     go_meet
     case rel => exact ⟨_, (false), ze, H', ⟨zo1⟩, ⟨zc BK463⟩, ⟨zb⟩⟩
   ·replace c7 := Bool.eq_false_iff.mpr c7
    subst c7
    have H1 : (saronlaw06_sound.j0 k false a0_0 a0_1 a0_2 l0_3) = some r := by rw [if_neg (show ¬ (false = true) by decide)] at H; exact H
    clear H
    have H := H1
    clear H1
    have H' := zh H
    clear H
    have hcz26_0 : w3.cell? ⟨gb463, 0, none⟩ = some (.int .i64 a0_0) := vb BK463 0
    have hcz26_1 : w3.cell? ⟨gb463, 1, none⟩ = some (.int .i64 a0_1) := vb BK463 1
    have hcz26_2 : w3.cell? ⟨gb463, 2, none⟩ = some (.int .i64 a0_2) := vb BK463 2
    have hcz26_3 : w3.cell? ⟨gb463, 3, none⟩ = some (.slice A0_3 l0_3.length c0_3) := vb BK463 3
    have hfz26_0 := blk_frozen BK463.out 0
    have hfz26_1 := blk_frozen BK463.out 1
    have hfz26_2 := blk_frozen BK463.out 2
    have hfz26_3 := blk_frozen BK463.out 3
    go_wp2_with (first | ((with_reducible refine gate_callee (f := 19) rfl ?_); refine goesL_ (some 7) rfl rfl Tryd.func19 zk rfl #[.agg #[.int .i64 a0_0, .int .i64 a0_1, .int .i64 a0_2, .slice A0_3 l0_3.length c0_3]] rfl zm ?_; (with_reducible refine (kernel_Check.calls k a0_0 a0_1 a0_2 _ _ l0_3 t464 _ ?side1 ?side2 A4.out).mono ?_); (case side1 => repeat (first | exact (Kd.C_below HR0_3.out HB.out) | (with_reducible refine Kd.C_alloc ?_ _) | (with_reducible refine Kd.C_drewN ?_ _) | (with_reducible refine Kd.C_drew ?_))); (case side2 => exact HC0_3.out); rintro e w27 ⟨rfl, hb⟩; refine ⟨_, rfl, ?_⟩; have n0_ := zh (blk_below (g := gb463) (o := .cells #[.int .i64 a0_0, .int .i64 a0_1, .int .i64 a0_2, .slice A0_3 l0_3.length c0_3] 24 (0, 0)) (zc BK463) hb); have n1_ := zh (below_step zb hb); clear BK463; clear HB; have BK463 := n0_; have HB := n1_; clear n0_ n1_; (try clear hb); (try clear hb2); (try clear hk); (try clear hi); have hcz28_0 : w27.cell? ⟨gb463, 0, none⟩ = some (.int .i64 a0_0) := vb BK463 0; have hcz28_1 : w27.cell? ⟨gb463, 1, none⟩ = some (.int .i64 a0_1) := vb BK463 1; have hcz28_2 : w27.cell? ⟨gb463, 2, none⟩ = some (.int .i64 a0_2) := vb BK463 2; have hcz28_3 : w27.cell? ⟨gb463, 3, none⟩ = some (.slice A0_3 l0_3.length c0_3) := vb BK463 3; have hfz28_0 := blk_frozen BK463.out 0; have hfz28_1 := blk_frozen BK463.out 1; have hfz28_2 := blk_frozen BK463.out 2; have hfz28_3 := blk_frozen BK463.out 3) | (go_at_call 45; (with_reducible refine (saronref00_Sits.calls a0_0 2 7 false _ A6.out).mono ?_); rintro e w' ⟨rfl, ⟨nd, rfl⟩⟩))
    go_meet
    case rel => exact ⟨_, (false), ze, H', ⟨zo1⟩, ⟨zc BK463⟩, ⟨zb⟩⟩
  ·rw [if_neg c5] at H
   have c5b0 : (t464 == 0) = false := beq_eq_false_iff_ne.mpr c5
   have c5b1 : (t464 != 0) = true := bne_iff_ne.mpr c5
   (first | rw [c5b0] | (simp only [i64_w, i32_w]; rw [c5b0]) | skip)
   have H' := zh H
   clear H
   have hcz29_0 : w3.cell? ⟨gb463, 0, none⟩ = some (.int .i64 a0_0) := vb BK463 0
   have hcz29_1 : w3.cell? ⟨gb463, 1, none⟩ = some (.int .i64 a0_1) := vb BK463 1
   have hcz29_2 : w3.cell? ⟨gb463, 2, none⟩ = some (.int .i64 a0_2) := vb BK463 2
   have hcz29_3 : w3.cell? ⟨gb463, 3, none⟩ = some (.slice A0_3 l0_3.length c0_3) := vb BK463 3
   have hfz29_0 := blk_frozen BK463.out 0
   have hfz29_1 := blk_frozen BK463.out 1
   have hfz29_2 := blk_frozen BK463.out 2
   have hfz29_3 := blk_frozen BK463.out 3
   go_wp2_with (first | ((with_reducible refine gate_callee (f := 19) rfl ?_); refine goesL_ (some 7) rfl rfl Tryd.func19 zk rfl #[.agg #[.int .i64 a0_0, .int .i64 a0_1, .int .i64 a0_2, .slice A0_3 l0_3.length c0_3]] rfl zm ?_; (with_reducible refine (kernel_Check.calls k a0_0 a0_1 a0_2 _ _ l0_3 t464 _ ?side1 ?side2 A4.out).mono ?_); (case side1 => repeat (first | exact (Kd.C_below HR0_3.out HB.out) | (with_reducible refine Kd.C_alloc ?_ _) | (with_reducible refine Kd.C_drewN ?_ _) | (with_reducible refine Kd.C_drew ?_))); (case side2 => exact HC0_3.out); rintro e w30 ⟨rfl, hb⟩; refine ⟨_, rfl, ?_⟩; have n0_ := zh (blk_below (g := gb463) (o := .cells #[.int .i64 a0_0, .int .i64 a0_1, .int .i64 a0_2, .slice A0_3 l0_3.length c0_3] 24 (0, 0)) (zc BK463) hb); have n1_ := zh (below_step zb hb); clear BK463; clear HB; have BK463 := n0_; have HB := n1_; clear n0_ n1_; (try clear hb); (try clear hb2); (try clear hk); (try clear hi)))
   go_meet
   case rel => exact ⟨_, (false), ze, H', ⟨zo1⟩, ⟨zc BK463⟩, ⟨zb⟩⟩
 case rest =>
  clear HC2
  try clear c1
  try clear p2
  try clear c3
  try clear c5
  try clear c5b0
  try clear c5b1
  try clear c7
  try clear c9
  try clear c11
  try clear c12
  try clear c12b0
  try clear c12b1
  try clear c19
  try clear hcz14_0
  try clear hcz14_1
  try clear hcz14_2
  try clear hcz14_3
  try clear hcz16_0
  try clear hcz16_1
  try clear hcz16_2
  try clear hcz16_3
  try clear hcz17_0
  try clear hcz17_1
  try clear hcz17_2
  try clear hcz17_3
  try clear hcz19_0
  try clear hcz19_1
  try clear hcz19_2
  try clear hcz19_3
  try clear hcz20_0
  try clear hcz20_1
  try clear hcz20_2
  try clear hcz20_3
  try clear hcz22_0
  try clear hcz22_1
  try clear hcz22_2
  try clear hcz22_3
  try clear hcz23_0
  try clear hcz23_1
  try clear hcz23_2
  try clear hcz23_3
  try clear hcz25_0
  try clear hcz25_1
  try clear hcz25_2
  try clear hcz25_3
  try clear hcz26_0
  try clear hcz26_1
  try clear hcz26_2
  try clear hcz26_3
  try clear hcz28_0
  try clear hcz28_1
  try clear hcz28_2
  try clear hcz28_3
  try clear hcz29_0
  try clear hcz29_1
  try clear hcz29_2
  try clear hcz29_3
  try clear hfz14_0
  try clear hfz14_1
  try clear hfz14_2
  try clear hfz14_3
  try clear hfz16_0
  try clear hfz16_1
  try clear hfz16_2
  try clear hfz16_3
  try clear hfz17_0
  try clear hfz17_1
  try clear hfz17_2
  try clear hfz17_3
  try clear hfz19_0
  try clear hfz19_1
  try clear hfz19_2
  try clear hfz19_3
  try clear hfz20_0
  try clear hfz20_1
  try clear hfz20_2
  try clear hfz20_3
  try clear hfz22_0
  try clear hfz22_1
  try clear hfz22_2
  try clear hfz22_3
  try clear hfz23_0
  try clear hfz23_1
  try clear hfz23_2
  try clear hfz23_3
  try clear hfz25_0
  try clear hfz25_1
  try clear hfz25_2
  try clear hfz25_3
  try clear hfz26_0
  try clear hfz26_1
  try clear hfz26_2
  try clear hfz26_3
  try clear hfz28_0
  try clear hfz28_1
  try clear hfz28_2
  try clear hfz28_3
  try clear hfz29_0
  try clear hfz29_1
  try clear hfz29_2
  try clear hfz29_3
  obtain ⟨kq, x3_1, rfl, HA, HJ1, BK463, HB⟩ := hcut
  cases kq with
  | zero => exact absurd HA.out (by simp [saronlaw06_sound.j0])
  | succ kj1 =>
   have H := HA.out
   clear HA
   simp only [saronlaw06_sound.j0] at H
   have H' := zh H
   clear H
   go_wp2
   go_loopg [3, 4] kj1 (fun kq v3 v4 w' => ∃ (x3_2 : Bool) (x4_2 : Int), v3 = .bool x3_2 ∧ v4 = .int .i64 x4_2 ∧ Aside0 (saronlaw06_sound.l0 kq x3_2 x4_2 a0_0 a0_1 a0_2 l0_3 = some r) ∧ Aside0 (kq ≤ kj1) ∧ Aside0 (w'.heap[gb463]? = some (.cells #[.int .i64 a0_0, .int .i64 a0_1, .int .i64 a0_2, (.slice A0_3 l0_3.length c0_3)] 24 (0, 0))) ∧ Aside0 (Below w.heap.size w w'))
   case atStart => exact ⟨(x3_1), (0), ze, ze, H', ⟨Nat.le_refl _⟩, ⟨zc BK463⟩, ⟨zb⟩⟩
   case round =>
    clear H'
    try clear c1
    try clear p2
    try clear c3
    try clear c5
    try clear c5b0
    try clear c5b1
    try clear c7
    try clear c9
    try clear c11
    try clear c12
    try clear c12b0
    try clear c12b1
    try clear c19
    try clear hcz14_0
    try clear hcz14_1
    try clear hcz14_2
    try clear hcz14_3
    try clear hcz16_0
    try clear hcz16_1
    try clear hcz16_2
    try clear hcz16_3
    try clear hcz17_0
    try clear hcz17_1
    try clear hcz17_2
    try clear hcz17_3
    try clear hcz19_0
    try clear hcz19_1
    try clear hcz19_2
    try clear hcz19_3
    try clear hcz20_0
    try clear hcz20_1
    try clear hcz20_2
    try clear hcz20_3
    try clear hcz22_0
    try clear hcz22_1
    try clear hcz22_2
    try clear hcz22_3
    try clear hcz23_0
    try clear hcz23_1
    try clear hcz23_2
    try clear hcz23_3
    try clear hcz25_0
    try clear hcz25_1
    try clear hcz25_2
    try clear hcz25_3
    try clear hcz26_0
    try clear hcz26_1
    try clear hcz26_2
    try clear hcz26_3
    try clear hcz28_0
    try clear hcz28_1
    try clear hcz28_2
    try clear hcz28_3
    try clear hcz29_0
    try clear hcz29_1
    try clear hcz29_2
    try clear hcz29_3
    try clear hfz14_0
    try clear hfz14_1
    try clear hfz14_2
    try clear hfz14_3
    try clear hfz16_0
    try clear hfz16_1
    try clear hfz16_2
    try clear hfz16_3
    try clear hfz17_0
    try clear hfz17_1
    try clear hfz17_2
    try clear hfz17_3
    try clear hfz19_0
    try clear hfz19_1
    try clear hfz19_2
    try clear hfz19_3
    try clear hfz20_0
    try clear hfz20_1
    try clear hfz20_2
    try clear hfz20_3
    try clear hfz22_0
    try clear hfz22_1
    try clear hfz22_2
    try clear hfz22_3
    try clear hfz23_0
    try clear hfz23_1
    try clear hfz23_2
    try clear hfz23_3
    try clear hfz25_0
    try clear hfz25_1
    try clear hfz25_2
    try clear hfz25_3
    try clear hfz26_0
    try clear hfz26_1
    try clear hfz26_2
    try clear hfz26_3
    try clear hfz28_0
    try clear hfz28_1
    try clear hfz28_2
    try clear hfz28_3
    try clear hfz29_0
    try clear hfz29_1
    try clear hfz29_2
    try clear hfz29_3
    try clear p2
    obtain ⟨x3_2, x4_2, rfl, rfl, HA, HK2, BK463, HB⟩ := hrel
    cases gk with
    | zero => exact absurd HA.out (by simp [saronlaw06_sound.l0])
    | succ k2 =>
     have H := HA.out
     clear HA
     simp only [saronlaw06_sound.l0] at H
     have HC31 := zh H
     clear H
     go_upto_region 3 with (fail)
     go_cut [43] (fun v43 wc => ∃ (kq : Nat) (x43_30 : Bool), v43 = .bool x43_30 ∧ Aside0 (saronlaw06_sound.j2 kq x3_2 x4_2 x43_30 a0_0 a0_1 a0_2 l0_3 = some r) ∧ Aside0 (kq ≤ k2) ∧ Aside0 (wc.heap[gb463]? = some (.cells #[.int .i64 a0_0, .int .i64 a0_1, .int .i64 a0_2, (.slice A0_3 l0_3.length c0_3)] 24 (0, 0))) ∧ Aside0 (Below w.heap.size w wc))
     case first =>
      have H := HC31.out
      clear HC31
      by_cases c32 : x3_2 = true
      ·subst c32
       have H1 : (saronlaw06_sound.j2 k2 true x4_2 (decide (x4_2 < (l0_3.length : Int))) a0_0 a0_1 a0_2 l0_3) = some r := by rw [if_pos rfl] at H; exact H
       clear H
       have H := H1
       clear H1
       have H' := zh H
       clear H
       have hcz33_0 : wr.cell? ⟨gb463, 0, none⟩ = some (.int .i64 a0_0) := vb BK463 0
       have hcz33_1 : wr.cell? ⟨gb463, 1, none⟩ = some (.int .i64 a0_1) := vb BK463 1
       have hcz33_2 : wr.cell? ⟨gb463, 2, none⟩ = some (.int .i64 a0_2) := vb BK463 2
       have hcz33_3 : wr.cell? ⟨gb463, 3, none⟩ = some (.slice A0_3 l0_3.length c0_3) := vb BK463 3
       have hfz33_0 := blk_frozen BK463.out 0
       have hfz33_1 := blk_frozen BK463.out 1
       have hfz33_2 := blk_frozen BK463.out 2
       have hfz33_3 := blk_frozen BK463.out 3
       go_wp2
       go_meet
       case rel => exact ⟨_, (decide (x4_2 < (l0_3.length : Int))), ze, H', ⟨by have := HJ1.out; have := HK2.out; first | omega | exact Nat.le_refl _⟩, ⟨zc BK463⟩, ⟨zb⟩⟩
      ·replace c32 := Bool.eq_false_iff.mpr c32
       subst c32
       have H1 : (saronlaw06_sound.j2 k2 false x4_2 false a0_0 a0_1 a0_2 l0_3) = some r := by rw [if_neg (show ¬ (false = true) by decide)] at H; exact H
       clear H
       have H := H1
       clear H1
       have H' := zh H
       clear H
       go_wp2
       go_meet
       case rel => exact ⟨_, (false), ze, H', ⟨by have := HJ1.out; have := HK2.out; first | omega | exact Nat.le_refl _⟩, ⟨zc BK463⟩, ⟨zb⟩⟩
     case rest =>
      clear HC31
      try clear c1
      try clear p2
      try clear c3
      try clear c5
      try clear c5b0
      try clear c5b1
      try clear c7
      try clear c9
      try clear c11
      try clear c12
      try clear c12b0
      try clear c12b1
      try clear c19
      try clear c32
      try clear hcz14_0
      try clear hcz14_1
      try clear hcz14_2
      try clear hcz14_3
      try clear hcz16_0
      try clear hcz16_1
      try clear hcz16_2
      try clear hcz16_3
      try clear hcz17_0
      try clear hcz17_1
      try clear hcz17_2
      try clear hcz17_3
      try clear hcz19_0
      try clear hcz19_1
      try clear hcz19_2
      try clear hcz19_3
      try clear hcz20_0
      try clear hcz20_1
      try clear hcz20_2
      try clear hcz20_3
      try clear hcz22_0
      try clear hcz22_1
      try clear hcz22_2
      try clear hcz22_3
      try clear hcz23_0
      try clear hcz23_1
      try clear hcz23_2
      try clear hcz23_3
      try clear hcz25_0
      try clear hcz25_1
      try clear hcz25_2
      try clear hcz25_3
      try clear hcz26_0
      try clear hcz26_1
      try clear hcz26_2
      try clear hcz26_3
      try clear hcz28_0
      try clear hcz28_1
      try clear hcz28_2
      try clear hcz28_3
      try clear hcz29_0
      try clear hcz29_1
      try clear hcz29_2
      try clear hcz29_3
      try clear hcz33_0
      try clear hcz33_1
      try clear hcz33_2
      try clear hcz33_3
      try clear hfz14_0
      try clear hfz14_1
      try clear hfz14_2
      try clear hfz14_3
      try clear hfz16_0
      try clear hfz16_1
      try clear hfz16_2
      try clear hfz16_3
      try clear hfz17_0
      try clear hfz17_1
      try clear hfz17_2
      try clear hfz17_3
      try clear hfz19_0
      try clear hfz19_1
      try clear hfz19_2
      try clear hfz19_3
      try clear hfz20_0
      try clear hfz20_1
      try clear hfz20_2
      try clear hfz20_3
      try clear hfz22_0
      try clear hfz22_1
      try clear hfz22_2
      try clear hfz22_3
      try clear hfz23_0
      try clear hfz23_1
      try clear hfz23_2
      try clear hfz23_3
      try clear hfz25_0
      try clear hfz25_1
      try clear hfz25_2
      try clear hfz25_3
      try clear hfz26_0
      try clear hfz26_1
      try clear hfz26_2
      try clear hfz26_3
      try clear hfz28_0
      try clear hfz28_1
      try clear hfz28_2
      try clear hfz28_3
      try clear hfz29_0
      try clear hfz29_1
      try clear hfz29_2
      try clear hfz29_3
      try clear hfz33_0
      try clear hfz33_1
      try clear hfz33_2
      try clear hfz33_3
      try clear p2
      obtain ⟨kq, x43_30, rfl, HA, HJ30, BK463, HB⟩ := hcut
      cases kq with
      | zero => exact absurd HA.out (by simp [saronlaw06_sound.j2])
      | succ kj30 =>
       have H := HA.out
       clear HA
       simp only [saronlaw06_sound.j2] at H
       by_cases c34 : x43_30 = true
       ·subst c34
        have H1 : (if 0 ≤ x4_2 then (if x4_2 < (l0_3.length : Int) then ((saronref00_Sits.f ((rd_T66 l0_3 x4_2).f0) 0 4).bind fun t471 => (if t471 = true then ((saronref00_Band.f ((rd_T66 l0_3 x4_2).f1) ((rd_T66 l0_3 x4_2).f2)).bind fun bt472 => ((saronref00_Good.f bt472.1 bt472.2 0 (wrap64 ((wrap64 (a0_0 * a0_1)) - 1))).bind fun t474 => (if t474 = true then ((saronref00_Sits.f ((rd_T66 l0_3 x4_2).f3) (-6) 6).bind fun t475 => (saronlaw06_sound.l0 kj30 t475 (wrap64 (x4_2 + 1)) a0_0 a0_1 a0_2 l0_3)) else (saronlaw06_sound.l0 kj30 false (wrap64 (x4_2 + 1)) a0_0 a0_1 a0_2 l0_3)))) else (saronlaw06_sound.l0 kj30 false (wrap64 (x4_2 + 1)) a0_0 a0_1 a0_2 l0_3))) else (none)) else (none)) = some r := by rw [if_pos rfl] at H; exact H
        clear H
        have H := H1
        clear H1
        by_cases c35 : 0 ≤ x4_2
        ·rw [if_pos c35] at H
         have c35b0 : decide (0 ≤ x4_2) = true := decide_eq_true c35
         clear c35
         by_cases c36 : x4_2 < (l0_3.length : Int)
         ·rw [if_pos c36] at H
          have c36b0 : decide (x4_2 < (l0_3.length : Int)) = true := decide_eq_true c36
          clear c36
          replace H := Option.bind_eq_some_iff.mp H
          obtain ⟨t471, A370, H⟩ := H
          replace H : (if t471 = true then ((saronref00_Band.f ((rd_T66 l0_3 x4_2).f1) ((rd_T66 l0_3 x4_2).f2)).bind fun bt472 => ((saronref00_Good.f bt472.1 bt472.2 0 (wrap64 ((wrap64 (a0_0 * a0_1)) - 1))).bind fun t474 => (if t474 = true then ((saronref00_Sits.f ((rd_T66 l0_3 x4_2).f3) (-6) 6).bind fun t475 => (saronlaw06_sound.l0 kj30 t475 (wrap64 (x4_2 + 1)) a0_0 a0_1 a0_2 l0_3)) else (saronlaw06_sound.l0 kj30 false (wrap64 (x4_2 + 1)) a0_0 a0_1 a0_2 l0_3)))) else (saronlaw06_sound.l0 kj30 false (wrap64 (x4_2 + 1)) a0_0 a0_1 a0_2 l0_3)) = some r := H
          have A37 := zh A370
          clear A370
          by_cases c38 : t471 = true
          ·subst c38
           have H1 : ((saronref00_Band.f ((rd_T66 l0_3 x4_2).f1) ((rd_T66 l0_3 x4_2).f2)).bind fun bt472 => ((saronref00_Good.f bt472.1 bt472.2 0 (wrap64 ((wrap64 (a0_0 * a0_1)) - 1))).bind fun t474 => (if t474 = true then ((saronref00_Sits.f ((rd_T66 l0_3 x4_2).f3) (-6) 6).bind fun t475 => (saronlaw06_sound.l0 kj30 t475 (wrap64 (x4_2 + 1)) a0_0 a0_1 a0_2 l0_3)) else (saronlaw06_sound.l0 kj30 false (wrap64 (x4_2 + 1)) a0_0 a0_1 a0_2 l0_3)))) = some r := by rw [if_pos rfl] at H; exact H
           clear H
           have H := H1
           clear H1
           replace H := Option.bind_eq_some_iff.mp H
           obtain ⟨⟨t472, t473⟩, A390, H⟩ := H
           replace H : ((saronref00_Good.f t472 t473 0 (wrap64 ((wrap64 (a0_0 * a0_1)) - 1))).bind fun t474 => (if t474 = true then ((saronref00_Sits.f ((rd_T66 l0_3 x4_2).f3) (-6) 6).bind fun t475 => (saronlaw06_sound.l0 kj30 t475 (wrap64 (x4_2 + 1)) a0_0 a0_1 a0_2 l0_3)) else (saronlaw06_sound.l0 kj30 false (wrap64 (x4_2 + 1)) a0_0 a0_1 a0_2 l0_3))) = some r := H
           have A39 := zh A390
           clear A390
           replace H := Option.bind_eq_some_iff.mp H
           obtain ⟨t474, A400, H⟩ := H
           replace H : (if t474 = true then ((saronref00_Sits.f ((rd_T66 l0_3 x4_2).f3) (-6) 6).bind fun t475 => (saronlaw06_sound.l0 kj30 t475 (wrap64 (x4_2 + 1)) a0_0 a0_1 a0_2 l0_3)) else (saronlaw06_sound.l0 kj30 false (wrap64 (x4_2 + 1)) a0_0 a0_1 a0_2 l0_3)) = some r := H
           have A40 := zh A400
           clear A400
           by_cases c41 : t474 = true
           ·subst c41
            have H1 : ((saronref00_Sits.f ((rd_T66 l0_3 x4_2).f3) (-6) 6).bind fun t475 => (saronlaw06_sound.l0 kj30 t475 (wrap64 (x4_2 + 1)) a0_0 a0_1 a0_2 l0_3)) = some r := by rw [if_pos rfl] at H; exact H
            clear H
            have H := H1
            clear H1
            replace H := Option.bind_eq_some_iff.mp H
            obtain ⟨t475, A420, H⟩ := H
            replace H : (saronlaw06_sound.l0 kj30 t475 (wrap64 (x4_2 + 1)) a0_0 a0_1 a0_2 l0_3) = some r := H
            have A42 := zh A420
            clear A420
            have H' := zh H
            clear H
            have hcz43_0 : wc.cell? ⟨gb463, 0, none⟩ = some (.int .i64 a0_0) := vb BK463 0
            have hcz43_1 : wc.cell? ⟨gb463, 1, none⟩ = some (.int .i64 a0_1) := vb BK463 1
            have hcz43_2 : wc.cell? ⟨gb463, 2, none⟩ = some (.int .i64 a0_2) := vb BK463 2
            have hcz43_3 : wc.cell? ⟨gb463, 3, none⟩ = some (.slice A0_3 l0_3.length c0_3) := vb BK463 3
            have hfz43_0 := blk_frozen BK463.out 0
            have hfz43_1 := blk_frozen BK463.out 1
            have hfz43_2 := blk_frozen BK463.out 2
            have hfz43_3 := blk_frozen BK463.out 3
            have p469 : 0 ≤ (x4_2 : Int) := of_decide_eq_true zs
            have q469 : x4_2 < (l0_3.length : Int) := of_decide_eq_true zs
            obtain ⟨ad469, e469, hx469_0, hx469_1, hx469_2, hx469_3⟩ := at_T66 HR0_3.out x4_2 p469 q469
            cases e469
            replace hx469_0 := ve HB.out hx469_0
            replace hx469_1 := ve HB.out hx469_1
            replace hx469_2 := ve HB.out hx469_2
            replace hx469_3 := ve HB.out hx469_3
            replace p469 := eq_true p469
            replace q469 := eq_true q469
            try go_wp2_with (first | ((with_reducible refine gate_dst (N := 5) rfl ?_); (try (refine gate_guard (by rfl) ?_; dsimp only)); refine box_event ?hg (N := 5) ?hd (cs := #[.int .i64 0, .int .i64 0, .int .i64 0, .int .i64 0]) (t := 66) ?hr ?_; (case hd => rfl); (case hg => rfl); (case hr => first | (go_simp; done) | (go_simp; rfl)); intro gb470 hg w44 hbox hb; have n0_ := zh (blk_below (g := gb463) (o := .cells #[.int .i64 a0_0, .int .i64 a0_1, .int .i64 a0_2, .slice (some ad469) l0_3.length c0_3] 24 (0, 0)) (zc BK463) hb); have n1_ := zh (below_step zb hb); have n2_ := zh (hbox); have n3_ := zh ((by rw [hg]; exact (below_size zb) : w.heap.size ≤ gb470)); have n4_ := zh ((by rw [hg]; exact (below_size zb) : w.heap.size ≤ gb470)); have n5_ := zh ((by rw [hg]; exact Nat.ne_of_lt (blk_lt (g := gb463) (o := .cells #[.int .i64 a0_0, .int .i64 a0_1, .int .i64 a0_2, .slice (some ad469) l0_3.length c0_3] 24 (0, 0)) (zc BK463)) : gb463 ≠ gb470)); have n6_ := zh ((by rw [hg]; exact Nat.ne_of_gt (blk_lt (g := gb463) (o := .cells #[.int .i64 a0_0, .int .i64 a0_1, .int .i64 a0_2, .slice (some ad469) l0_3.length c0_3] 24 (0, 0)) (zc BK463)) : gb470 ≠ gb463)); clear BK463; clear HB; have BK463 := n0_; have HB := n1_; have BK470 := n2_; have GW470 := n3_; have GE470 := n4_; have NB463_470 := n5_; have NB470_463 := n6_; clear n0_ n1_ n2_ n3_ n4_ n5_ n6_; clear hb hbox hg; have hnb45 := NB470_463.out; have hnc45 := NB463_470.out; have hcz46_0 : w44.cell? ⟨gb470, 0, none⟩ = some (.int .i64 0) := vb BK470 0; have hcz46_1 : w44.cell? ⟨gb470, 1, none⟩ = some (.int .i64 0) := vb BK470 1; have hcz46_2 : w44.cell? ⟨gb470, 2, none⟩ = some (.int .i64 0) := vb BK470 2; have hcz46_3 : w44.cell? ⟨gb470, 3, none⟩ = some (.int .i64 0) := vb BK470 3; have hfz46_0 := blk_frozen BK470.out 0; have hfz46_1 := blk_frozen BK470.out 1; have hfz46_2 := blk_frozen BK470.out 2; have hfz46_3 := blk_frozen BK470.out 3))
            have n0_ : Aside0 (((((w44.setCell ⟨gb470, 0, none⟩ (.int .i64 ((rd_T66 l0_3 x4_2).f0))).setCell ⟨gb470, 1, none⟩ (.int .i64 ((rd_T66 l0_3 x4_2).f1))).setCell ⟨gb470, 2, none⟩ (.int .i64 ((rd_T66 l0_3 x4_2).f2))).setCell ⟨gb470, 3, none⟩ (.int .i64 ((rd_T66 l0_3 x4_2).f3))).heap[gb463]? = some (.cells #[.int .i64 a0_0, .int .i64 a0_1, .int .i64 a0_2, .slice (some ad469) l0_3.length c0_3] 24 (0, 0))) := ⟨by (with_reducible repeat (first | refine blk_drewN ?_ _ | refine blk_drew ?_ | refine blk_alloc ?_ _)); refine blk_far ?_ NB463_470.out _; (with_reducible repeat (first | refine blk_drewN ?_ _ | refine blk_drew ?_ | refine blk_alloc ?_ _)); refine blk_far ?_ NB463_470.out _; (with_reducible repeat (first | refine blk_drewN ?_ _ | refine blk_drew ?_ | refine blk_alloc ?_ _)); refine blk_far ?_ NB463_470.out _; (with_reducible repeat (first | refine blk_drewN ?_ _ | refine blk_drew ?_ | refine blk_alloc ?_ _)); refine blk_far ?_ NB463_470.out _; (with_reducible repeat (first | refine blk_drewN ?_ _ | refine blk_drew ?_ | refine blk_alloc ?_ _)); exact BK463.out⟩
            have n1_ : Aside0 (((((w44.setCell ⟨gb470, 0, none⟩ (.int .i64 ((rd_T66 l0_3 x4_2).f0))).setCell ⟨gb470, 1, none⟩ (.int .i64 ((rd_T66 l0_3 x4_2).f1))).setCell ⟨gb470, 2, none⟩ (.int .i64 ((rd_T66 l0_3 x4_2).f2))).setCell ⟨gb470, 3, none⟩ (.int .i64 ((rd_T66 l0_3 x4_2).f3))).heap[gb470]? = some (.cells #[.int .i64 ((rd_T66 l0_3 x4_2).f0), .int .i64 ((rd_T66 l0_3 x4_2).f1), .int .i64 ((rd_T66 l0_3 x4_2).f2), .int .i64 ((rd_T66 l0_3 x4_2).f3)] 66 (0, 0))) := ⟨by (with_reducible repeat (first | refine blk_drewN ?_ _ | refine blk_drew ?_ | refine blk_alloc ?_ _)); refine blk_put (cs := #[.int .i64 ((rd_T66 l0_3 x4_2).f0), .int .i64 ((rd_T66 l0_3 x4_2).f1), .int .i64 ((rd_T66 l0_3 x4_2).f2), .int .i64 0]) ?_ 3 _ rfl; (with_reducible repeat (first | refine blk_drewN ?_ _ | refine blk_drew ?_ | refine blk_alloc ?_ _)); refine blk_put (cs := #[.int .i64 ((rd_T66 l0_3 x4_2).f0), .int .i64 ((rd_T66 l0_3 x4_2).f1), .int .i64 0, .int .i64 0]) ?_ 2 _ rfl; (with_reducible repeat (first | refine blk_drewN ?_ _ | refine blk_drew ?_ | refine blk_alloc ?_ _)); refine blk_put (cs := #[.int .i64 ((rd_T66 l0_3 x4_2).f0), .int .i64 0, .int .i64 0, .int .i64 0]) ?_ 1 _ rfl; (with_reducible repeat (first | refine blk_drewN ?_ _ | refine blk_drew ?_ | refine blk_alloc ?_ _)); refine blk_put (cs := #[.int .i64 0, .int .i64 0, .int .i64 0, .int .i64 0]) ?_ 0 _ rfl; (with_reducible repeat (first | refine blk_drewN ?_ _ | refine blk_drew ?_ | refine blk_alloc ?_ _)); exact BK470.out⟩
            have n2_ : Aside0 (Below w.heap.size w ((((w44.setCell ⟨gb470, 0, none⟩ (.int .i64 ((rd_T66 l0_3 x4_2).f0))).setCell ⟨gb470, 1, none⟩ (.int .i64 ((rd_T66 l0_3 x4_2).f1))).setCell ⟨gb470, 2, none⟩ (.int .i64 ((rd_T66 l0_3 x4_2).f2))).setCell ⟨gb470, 3, none⟩ (.int .i64 ((rd_T66 l0_3 x4_2).f3)))) := ⟨zb⟩
            (try clear BK463)
            (try clear BK470)
            (try clear HB)
            generalize ((((w44.setCell ⟨gb470, 0, none⟩ (.int .i64 ((rd_T66 l0_3 x4_2).f0))).setCell ⟨gb470, 1, none⟩ (.int .i64 ((rd_T66 l0_3 x4_2).f1))).setCell ⟨gb470, 2, none⟩ (.int .i64 ((rd_T66 l0_3 x4_2).f2))).setCell ⟨gb470, 3, none⟩ (.int .i64 ((rd_T66 l0_3 x4_2).f3))) = w47 at n0_ n1_ n2_ ⊢
            have BK463 := n0_
            have BK470 := n1_
            have HB := n2_
            clear n0_ n1_ n2_
            replace BK463 := zh (blk_drew BK463.out)
            replace BK470 := zh (blk_drew BK470.out)
            replace HB := zh (below_drew1 HB.out)
            refine start_ (n := 23) (S := fun w' => w'.cell? ⟨gb470, 0, none⟩ = some (.int .i64 ((rd_T66 l0_3 x4_2).f0)) ∧ w'.cell? ⟨gb470, 1, none⟩ = some (.int .i64 ((rd_T66 l0_3 x4_2).f1)) ∧ w'.cell? ⟨gb470, 2, none⟩ = some (.int .i64 ((rd_T66 l0_3 x4_2).f2)) ∧ w'.cell? ⟨gb470, 3, none⟩ = some (.int .i64 ((rd_T66 l0_3 x4_2).f3)) ∧ w'.cell? ⟨gb463, 0, none⟩ = some (.int .i64 a0_0) ∧ w'.cell? ⟨gb463, 1, none⟩ = some (.int .i64 a0_1) ∧ w'.cell? ⟨gb463, 2, none⟩ = some (.int .i64 a0_2) ∧ w'.cell? ⟨gb463, 3, none⟩ = some (.slice (some ad469) l0_3.length c0_3)) (ds := []) (Array.replicate 23 false) zk rfl rfl ⟨vb BK470 0, vb BK470 1, vb BK470 2, vb BK470 3, vb BK463 0, vb BK463 1, vb BK463 2, vb BK463 3⟩ (fun hHeld => ?_); refine with_tabW saronlaw06_sound.tab6 saronlaw06_sound.bits6 (fun HT_ HW_ => ?_)
            generalize w47.drew = w48 at BK463 BK470 HB hHeld ⊢
            refine zu 0 ?_
            refine zt 1 ?_
            refine zo 2 (fun K hK => ?_)
            refine goes_ Tryd.func45 zk rfl #[.int .i64 ((rd_T66 l0_3 x4_2).f0), .int .i64 0, .int .i64 4] (by rfl) rfl rfl zm ?_
            with_reducible refine (saronref00_Sits.calls ((rd_T66 l0_3 x4_2).f0) 0 4 true _ A37.out).mono ?_
            rintro e w' ⟨rfl, ⟨nd, rfl⟩⟩
            refine ⟨_, rfl, ?_⟩
            refine hK.out _ _ ⟨vb BK470 0, vb BK470 1, vb BK470 2, vb BK470 3, vb BK463 0, vb BK463 1, vb BK463 2, vb BK463 3⟩ (fun hHeld => ?_)
            clear hK K
            refine zr 53 _ ?_
            refine zu 3 ?_
            refine zu 4 ?_
            refine zu 6 ?_
            refine zu 9 ?_
            refine zu 11 ?_
            refine zt 5 ?_
            refine zt 7 ?_
            refine zt 10 ?_
            refine zt 12 ?_
            refine zu 13 ?_
            refine zu 14 ?_
            refine zo 8 (fun K hK => ?_)
            refine goes_ Tryd.func61 zk rfl #[.int .i64 ((rd_T66 l0_3 x4_2).f1), .int .i64 ((rd_T66 l0_3 x4_2).f2)] (by rfl) rfl rfl zm ?_
            with_reducible refine (saronref00_Band.calls ((rd_T66 l0_3 x4_2).f1) ((rd_T66 l0_3 x4_2).f2) t472 t473 _ A39.out).mono ?_
            rintro e w49 ⟨rfl, hb⟩
            refine ⟨_, rfl, ?_⟩
            replace BK463 := zh (blk_below (g := gb463) (o := .cells #[.int .i64 a0_0, .int .i64 a0_1, .int .i64 a0_2, .slice (some ad469) l0_3.length c0_3] 24 (0, 0)) (zc BK463) hb)
            replace BK470 := zh (blk_below (g := gb470) (o := .cells #[.int .i64 ((rd_T66 l0_3 x4_2).f0), .int .i64 ((rd_T66 l0_3 x4_2).f1), .int .i64 ((rd_T66 l0_3 x4_2).f2), .int .i64 ((rd_T66 l0_3 x4_2).f3)] 66 (0, 0)) (zc BK470) hb)
            replace HB := zh (below_step zb hb)
            (try clear hb)
            (try clear hb2)
            (try clear hk)
            (try clear hi)
            refine hK.out _ _ ⟨vb BK470 0, vb BK470 1, vb BK470 2, vb BK470 3, vb BK463 0, vb BK463 1, vb BK463 2, vb BK463 3⟩ (fun hHeld => ?_)
            clear hK K
            refine zr 59 _ ?_
            refine zo 15 (fun K hK => ?_)
            refine goes_ Tryd.func60 zk rfl #[.agg #[.int .i64 t472, .int .i64 t473], .int .i64 0, .int .i64 (wrap64 ((wrap64 (a0_0 * a0_1)) - 1))] (by rfl) rfl rfl zm ?_
            with_reducible refine (saronref00_Good.calls t472 t473 0 (wrap64 ((wrap64 (a0_0 * a0_1)) - 1)) true _ A40.out).mono ?_
            rintro e w50 ⟨rfl, hb⟩
            refine ⟨_, rfl, ?_⟩
            replace BK463 := zh (blk_below (g := gb463) (o := .cells #[.int .i64 a0_0, .int .i64 a0_1, .int .i64 a0_2, .slice (some ad469) l0_3.length c0_3] 24 (0, 0)) (zc BK463) hb)
            replace BK470 := zh (blk_below (g := gb470) (o := .cells #[.int .i64 ((rd_T66 l0_3 x4_2).f0), .int .i64 ((rd_T66 l0_3 x4_2).f1), .int .i64 ((rd_T66 l0_3 x4_2).f2), .int .i64 ((rd_T66 l0_3 x4_2).f3)] 66 (0, 0)) (zc BK470) hb)
            replace HB := zh (below_step zb hb)
            (try clear hb)
            (try clear hb2)
            (try clear hk)
            (try clear hi)
            refine hK.out _ _ ⟨vb BK470 0, vb BK470 1, vb BK470 2, vb BK470 3, vb BK463 0, vb BK463 1, vb BK463 2, vb BK463 3⟩ (fun hHeld => ?_)
            clear hK K
            refine zr 66 _ ?_
            refine zu 16 ?_
            refine zu 17 ?_
            refine zu 18 ?_
            refine zt 19 ?_
            refine zo 20 (fun K hK => ?_)
            refine goes_ Tryd.func45 zk rfl #[.int .i64 ((rd_T66 l0_3 x4_2).f3), .int .i64 (-6), .int .i64 6] (by rfl) rfl rfl zm ?_
            with_reducible refine (saronref00_Sits.calls ((rd_T66 l0_3 x4_2).f3) (-6) 6 t475 _ A42.out).mono ?_
            rintro e w' ⟨rfl, ⟨nd, rfl⟩⟩
            refine ⟨_, rfl, ?_⟩
            refine hK.out _ _ ⟨vb BK470 0, vb BK470 1, vb BK470 2, vb BK470 3, vb BK463 0, vb BK463 1, vb BK463 2, vb BK463 3⟩ (fun hHeld => ?_)
            clear hK K
            refine zr 71 _ ?_
            refine zu 21 ?_
            refine zu 22 ?_
            refine zd ?_
            try go_wp2
            go_roundg kj30
            case measure => have := HJ1.out; have := HK2.out; have := HJ30.out; omega
            case rel => exact ⟨(t475), (wrap64 (x4_2 + 1)), ze, ze, H', ⟨by have := HJ1.out; have := HK2.out; have := HJ30.out; omega⟩, ⟨zc BK463⟩, ⟨zb⟩⟩
           ·replace c41 := Bool.eq_false_iff.mpr c41
            subst c41
            have H1 : (saronlaw06_sound.l0 kj30 false (wrap64 (x4_2 + 1)) a0_0 a0_1 a0_2 l0_3) = some r := by rw [if_neg (show ¬ (false = true) by decide)] at H; exact H
            clear H
            have H := H1
            clear H1
            have H' := zh H
            clear H
            have hcz51_0 : wc.cell? ⟨gb463, 0, none⟩ = some (.int .i64 a0_0) := vb BK463 0
            have hcz51_1 : wc.cell? ⟨gb463, 1, none⟩ = some (.int .i64 a0_1) := vb BK463 1
            have hcz51_2 : wc.cell? ⟨gb463, 2, none⟩ = some (.int .i64 a0_2) := vb BK463 2
            have hcz51_3 : wc.cell? ⟨gb463, 3, none⟩ = some (.slice A0_3 l0_3.length c0_3) := vb BK463 3
            have hfz51_0 := blk_frozen BK463.out 0
            have hfz51_1 := blk_frozen BK463.out 1
            have hfz51_2 := blk_frozen BK463.out 2
            have hfz51_3 := blk_frozen BK463.out 3
            have p469 : 0 ≤ (x4_2 : Int) := of_decide_eq_true zs
            have q469 : x4_2 < (l0_3.length : Int) := of_decide_eq_true zs
            obtain ⟨ad469, e469, hx469_0, hx469_1, hx469_2, hx469_3⟩ := at_T66 HR0_3.out x4_2 p469 q469
            cases e469
            replace hx469_0 := ve HB.out hx469_0
            replace hx469_1 := ve HB.out hx469_1
            replace hx469_2 := ve HB.out hx469_2
            replace hx469_3 := ve HB.out hx469_3
            replace p469 := eq_true p469
            replace q469 := eq_true q469
            try go_wp2_with (first | ((with_reducible refine gate_dst (N := 5) rfl ?_); (try (refine gate_guard (by rfl) ?_; dsimp only)); refine box_event ?hg (N := 5) ?hd (cs := #[.int .i64 0, .int .i64 0, .int .i64 0, .int .i64 0]) (t := 66) ?hr ?_; (case hd => rfl); (case hg => rfl); (case hr => first | (go_simp; done) | (go_simp; rfl)); intro gb470 hg w52 hbox hb; have n0_ := zh (blk_below (g := gb463) (o := .cells #[.int .i64 a0_0, .int .i64 a0_1, .int .i64 a0_2, .slice (some ad469) l0_3.length c0_3] 24 (0, 0)) (zc BK463) hb); have n1_ := zh (below_step zb hb); have n2_ := zh (hbox); have n3_ := zh ((by rw [hg]; exact (below_size zb) : w.heap.size ≤ gb470)); have n4_ := zh ((by rw [hg]; exact (below_size zb) : w.heap.size ≤ gb470)); have n5_ := zh ((by rw [hg]; exact Nat.ne_of_lt (blk_lt (g := gb463) (o := .cells #[.int .i64 a0_0, .int .i64 a0_1, .int .i64 a0_2, .slice (some ad469) l0_3.length c0_3] 24 (0, 0)) (zc BK463)) : gb463 ≠ gb470)); have n6_ := zh ((by rw [hg]; exact Nat.ne_of_gt (blk_lt (g := gb463) (o := .cells #[.int .i64 a0_0, .int .i64 a0_1, .int .i64 a0_2, .slice (some ad469) l0_3.length c0_3] 24 (0, 0)) (zc BK463)) : gb470 ≠ gb463)); clear BK463; clear HB; have BK463 := n0_; have HB := n1_; have BK470 := n2_; have GW470 := n3_; have GE470 := n4_; have NB463_470 := n5_; have NB470_463 := n6_; clear n0_ n1_ n2_ n3_ n4_ n5_ n6_; clear hb hbox hg; have hnb53 := NB470_463.out; have hnc53 := NB463_470.out; have hcz54_0 : w52.cell? ⟨gb470, 0, none⟩ = some (.int .i64 0) := vb BK470 0; have hcz54_1 : w52.cell? ⟨gb470, 1, none⟩ = some (.int .i64 0) := vb BK470 1; have hcz54_2 : w52.cell? ⟨gb470, 2, none⟩ = some (.int .i64 0) := vb BK470 2; have hcz54_3 : w52.cell? ⟨gb470, 3, none⟩ = some (.int .i64 0) := vb BK470 3; have hfz54_0 := blk_frozen BK470.out 0; have hfz54_1 := blk_frozen BK470.out 1; have hfz54_2 := blk_frozen BK470.out 2; have hfz54_3 := blk_frozen BK470.out 3))
            have n0_ : Aside0 (((((w52.setCell ⟨gb470, 0, none⟩ (.int .i64 ((rd_T66 l0_3 x4_2).f0))).setCell ⟨gb470, 1, none⟩ (.int .i64 ((rd_T66 l0_3 x4_2).f1))).setCell ⟨gb470, 2, none⟩ (.int .i64 ((rd_T66 l0_3 x4_2).f2))).setCell ⟨gb470, 3, none⟩ (.int .i64 ((rd_T66 l0_3 x4_2).f3))).heap[gb463]? = some (.cells #[.int .i64 a0_0, .int .i64 a0_1, .int .i64 a0_2, .slice (some ad469) l0_3.length c0_3] 24 (0, 0))) := ⟨by (with_reducible repeat (first | refine blk_drewN ?_ _ | refine blk_drew ?_ | refine blk_alloc ?_ _)); refine blk_far ?_ NB463_470.out _; (with_reducible repeat (first | refine blk_drewN ?_ _ | refine blk_drew ?_ | refine blk_alloc ?_ _)); refine blk_far ?_ NB463_470.out _; (with_reducible repeat (first | refine blk_drewN ?_ _ | refine blk_drew ?_ | refine blk_alloc ?_ _)); refine blk_far ?_ NB463_470.out _; (with_reducible repeat (first | refine blk_drewN ?_ _ | refine blk_drew ?_ | refine blk_alloc ?_ _)); refine blk_far ?_ NB463_470.out _; (with_reducible repeat (first | refine blk_drewN ?_ _ | refine blk_drew ?_ | refine blk_alloc ?_ _)); exact BK463.out⟩
            have n1_ : Aside0 (((((w52.setCell ⟨gb470, 0, none⟩ (.int .i64 ((rd_T66 l0_3 x4_2).f0))).setCell ⟨gb470, 1, none⟩ (.int .i64 ((rd_T66 l0_3 x4_2).f1))).setCell ⟨gb470, 2, none⟩ (.int .i64 ((rd_T66 l0_3 x4_2).f2))).setCell ⟨gb470, 3, none⟩ (.int .i64 ((rd_T66 l0_3 x4_2).f3))).heap[gb470]? = some (.cells #[.int .i64 ((rd_T66 l0_3 x4_2).f0), .int .i64 ((rd_T66 l0_3 x4_2).f1), .int .i64 ((rd_T66 l0_3 x4_2).f2), .int .i64 ((rd_T66 l0_3 x4_2).f3)] 66 (0, 0))) := ⟨by (with_reducible repeat (first | refine blk_drewN ?_ _ | refine blk_drew ?_ | refine blk_alloc ?_ _)); refine blk_put (cs := #[.int .i64 ((rd_T66 l0_3 x4_2).f0), .int .i64 ((rd_T66 l0_3 x4_2).f1), .int .i64 ((rd_T66 l0_3 x4_2).f2), .int .i64 0]) ?_ 3 _ rfl; (with_reducible repeat (first | refine blk_drewN ?_ _ | refine blk_drew ?_ | refine blk_alloc ?_ _)); refine blk_put (cs := #[.int .i64 ((rd_T66 l0_3 x4_2).f0), .int .i64 ((rd_T66 l0_3 x4_2).f1), .int .i64 0, .int .i64 0]) ?_ 2 _ rfl; (with_reducible repeat (first | refine blk_drewN ?_ _ | refine blk_drew ?_ | refine blk_alloc ?_ _)); refine blk_put (cs := #[.int .i64 ((rd_T66 l0_3 x4_2).f0), .int .i64 0, .int .i64 0, .int .i64 0]) ?_ 1 _ rfl; (with_reducible repeat (first | refine blk_drewN ?_ _ | refine blk_drew ?_ | refine blk_alloc ?_ _)); refine blk_put (cs := #[.int .i64 0, .int .i64 0, .int .i64 0, .int .i64 0]) ?_ 0 _ rfl; (with_reducible repeat (first | refine blk_drewN ?_ _ | refine blk_drew ?_ | refine blk_alloc ?_ _)); exact BK470.out⟩
            have n2_ : Aside0 (Below w.heap.size w ((((w52.setCell ⟨gb470, 0, none⟩ (.int .i64 ((rd_T66 l0_3 x4_2).f0))).setCell ⟨gb470, 1, none⟩ (.int .i64 ((rd_T66 l0_3 x4_2).f1))).setCell ⟨gb470, 2, none⟩ (.int .i64 ((rd_T66 l0_3 x4_2).f2))).setCell ⟨gb470, 3, none⟩ (.int .i64 ((rd_T66 l0_3 x4_2).f3)))) := ⟨zb⟩
            (try clear BK463)
            (try clear BK470)
            (try clear HB)
            generalize ((((w52.setCell ⟨gb470, 0, none⟩ (.int .i64 ((rd_T66 l0_3 x4_2).f0))).setCell ⟨gb470, 1, none⟩ (.int .i64 ((rd_T66 l0_3 x4_2).f1))).setCell ⟨gb470, 2, none⟩ (.int .i64 ((rd_T66 l0_3 x4_2).f2))).setCell ⟨gb470, 3, none⟩ (.int .i64 ((rd_T66 l0_3 x4_2).f3))) = w55 at n0_ n1_ n2_ ⊢
            have BK463 := n0_
            have BK470 := n1_
            have HB := n2_
            clear n0_ n1_ n2_
            replace BK463 := zh (blk_drew BK463.out)
            replace BK470 := zh (blk_drew BK470.out)
            replace HB := zh (below_drew1 HB.out)
            refine start_ (n := 23) (S := fun w' => w'.cell? ⟨gb470, 0, none⟩ = some (.int .i64 ((rd_T66 l0_3 x4_2).f0)) ∧ w'.cell? ⟨gb470, 1, none⟩ = some (.int .i64 ((rd_T66 l0_3 x4_2).f1)) ∧ w'.cell? ⟨gb470, 2, none⟩ = some (.int .i64 ((rd_T66 l0_3 x4_2).f2)) ∧ w'.cell? ⟨gb470, 3, none⟩ = some (.int .i64 ((rd_T66 l0_3 x4_2).f3)) ∧ w'.cell? ⟨gb463, 0, none⟩ = some (.int .i64 a0_0) ∧ w'.cell? ⟨gb463, 1, none⟩ = some (.int .i64 a0_1) ∧ w'.cell? ⟨gb463, 2, none⟩ = some (.int .i64 a0_2) ∧ w'.cell? ⟨gb463, 3, none⟩ = some (.slice (some ad469) l0_3.length c0_3)) (ds := []) (Array.replicate 23 false) zk rfl rfl ⟨vb BK470 0, vb BK470 1, vb BK470 2, vb BK470 3, vb BK463 0, vb BK463 1, vb BK463 2, vb BK463 3⟩ (fun hHeld => ?_); refine with_tabW saronlaw06_sound.tab6 saronlaw06_sound.bits6 (fun HT_ HW_ => ?_)
            generalize w55.drew = w56 at BK463 BK470 HB hHeld ⊢
            refine zu 0 ?_
            refine zt 1 ?_
            refine zo 2 (fun K hK => ?_)
            refine goes_ Tryd.func45 zk rfl #[.int .i64 ((rd_T66 l0_3 x4_2).f0), .int .i64 0, .int .i64 4] (by rfl) rfl rfl zm ?_
            with_reducible refine (saronref00_Sits.calls ((rd_T66 l0_3 x4_2).f0) 0 4 true _ A37.out).mono ?_
            rintro e w' ⟨rfl, ⟨nd, rfl⟩⟩
            refine ⟨_, rfl, ?_⟩
            refine hK.out _ _ ⟨vb BK470 0, vb BK470 1, vb BK470 2, vb BK470 3, vb BK463 0, vb BK463 1, vb BK463 2, vb BK463 3⟩ (fun hHeld => ?_)
            clear hK K
            refine zr 53 _ ?_
            refine zu 3 ?_
            refine zu 4 ?_
            refine zu 6 ?_
            refine zu 9 ?_
            refine zu 11 ?_
            refine zt 5 ?_
            refine zt 7 ?_
            refine zt 10 ?_
            refine zt 12 ?_
            refine zu 13 ?_
            refine zu 14 ?_
            refine zo 8 (fun K hK => ?_)
            refine goes_ Tryd.func61 zk rfl #[.int .i64 ((rd_T66 l0_3 x4_2).f1), .int .i64 ((rd_T66 l0_3 x4_2).f2)] (by rfl) rfl rfl zm ?_
            with_reducible refine (saronref00_Band.calls ((rd_T66 l0_3 x4_2).f1) ((rd_T66 l0_3 x4_2).f2) t472 t473 _ A39.out).mono ?_
            rintro e w57 ⟨rfl, hb⟩
            refine ⟨_, rfl, ?_⟩
            replace BK463 := zh (blk_below (g := gb463) (o := .cells #[.int .i64 a0_0, .int .i64 a0_1, .int .i64 a0_2, .slice (some ad469) l0_3.length c0_3] 24 (0, 0)) (zc BK463) hb)
            replace BK470 := zh (blk_below (g := gb470) (o := .cells #[.int .i64 ((rd_T66 l0_3 x4_2).f0), .int .i64 ((rd_T66 l0_3 x4_2).f1), .int .i64 ((rd_T66 l0_3 x4_2).f2), .int .i64 ((rd_T66 l0_3 x4_2).f3)] 66 (0, 0)) (zc BK470) hb)
            replace HB := zh (below_step zb hb)
            (try clear hb)
            (try clear hb2)
            (try clear hk)
            (try clear hi)
            refine hK.out _ _ ⟨vb BK470 0, vb BK470 1, vb BK470 2, vb BK470 3, vb BK463 0, vb BK463 1, vb BK463 2, vb BK463 3⟩ (fun hHeld => ?_)
            clear hK K
            refine zr 59 _ ?_
            refine zo 15 (fun K hK => ?_)
            refine goes_ Tryd.func60 zk rfl #[.agg #[.int .i64 t472, .int .i64 t473], .int .i64 0, .int .i64 (wrap64 ((wrap64 (a0_0 * a0_1)) - 1))] (by rfl) rfl rfl zm ?_
            with_reducible refine (saronref00_Good.calls t472 t473 0 (wrap64 ((wrap64 (a0_0 * a0_1)) - 1)) false _ A40.out).mono ?_
            rintro e w58 ⟨rfl, hb⟩
            refine ⟨_, rfl, ?_⟩
            replace BK463 := zh (blk_below (g := gb463) (o := .cells #[.int .i64 a0_0, .int .i64 a0_1, .int .i64 a0_2, .slice (some ad469) l0_3.length c0_3] 24 (0, 0)) (zc BK463) hb)
            replace BK470 := zh (blk_below (g := gb470) (o := .cells #[.int .i64 ((rd_T66 l0_3 x4_2).f0), .int .i64 ((rd_T66 l0_3 x4_2).f1), .int .i64 ((rd_T66 l0_3 x4_2).f2), .int .i64 ((rd_T66 l0_3 x4_2).f3)] 66 (0, 0)) (zc BK470) hb)
            replace HB := zh (below_step zb hb)
            (try clear hb)
            (try clear hb2)
            (try clear hk)
            (try clear hi)
            refine hK.out _ _ ⟨vb BK470 0, vb BK470 1, vb BK470 2, vb BK470 3, vb BK463 0, vb BK463 1, vb BK463 2, vb BK463 3⟩ (fun hHeld => ?_)
            clear hK K
            refine zr 66 _ ?_
            refine zu 16 ?_
            refine zu 17 ?_
            refine zn 18 ?_
            refine zn 19 ?_
            refine zn 20 ?_
            refine zu 21 ?_
            refine zu 22 ?_
            refine zd ?_
            try go_wp2
            go_roundg kj30
            case measure => have := HJ1.out; have := HK2.out; have := HJ30.out; omega
            case rel => exact ⟨(false), (wrap64 (x4_2 + 1)), ze, ze, H', ⟨by have := HJ1.out; have := HK2.out; have := HJ30.out; omega⟩, ⟨zc BK463⟩, ⟨zb⟩⟩
          ·replace c38 := Bool.eq_false_iff.mpr c38
           subst c38
           have H1 : (saronlaw06_sound.l0 kj30 false (wrap64 (x4_2 + 1)) a0_0 a0_1 a0_2 l0_3) = some r := by rw [if_neg (show ¬ (false = true) by decide)] at H; exact H
           clear H
           have H := H1
           clear H1
           have H' := zh H
           clear H
           have hcz59_0 : wc.cell? ⟨gb463, 0, none⟩ = some (.int .i64 a0_0) := vb BK463 0
           have hcz59_1 : wc.cell? ⟨gb463, 1, none⟩ = some (.int .i64 a0_1) := vb BK463 1
           have hcz59_2 : wc.cell? ⟨gb463, 2, none⟩ = some (.int .i64 a0_2) := vb BK463 2
           have hcz59_3 : wc.cell? ⟨gb463, 3, none⟩ = some (.slice A0_3 l0_3.length c0_3) := vb BK463 3
           have hfz59_0 := blk_frozen BK463.out 0
           have hfz59_1 := blk_frozen BK463.out 1
           have hfz59_2 := blk_frozen BK463.out 2
           have hfz59_3 := blk_frozen BK463.out 3
           have p469 : 0 ≤ (x4_2 : Int) := of_decide_eq_true zs
           have q469 : x4_2 < (l0_3.length : Int) := of_decide_eq_true zs
           obtain ⟨ad469, e469, hx469_0, hx469_1, hx469_2, hx469_3⟩ := at_T66 HR0_3.out x4_2 p469 q469
           cases e469
           replace hx469_0 := ve HB.out hx469_0
           replace hx469_1 := ve HB.out hx469_1
           replace hx469_2 := ve HB.out hx469_2
           replace hx469_3 := ve HB.out hx469_3
           replace p469 := eq_true p469
           replace q469 := eq_true q469
           try go_wp2_with (first | ((with_reducible refine gate_dst (N := 5) rfl ?_); (try (refine gate_guard (by rfl) ?_; dsimp only)); refine box_event ?hg (N := 5) ?hd (cs := #[.int .i64 0, .int .i64 0, .int .i64 0, .int .i64 0]) (t := 66) ?hr ?_; (case hd => rfl); (case hg => rfl); (case hr => first | (go_simp; done) | (go_simp; rfl)); intro gb470 hg w60 hbox hb; have n0_ := zh (blk_below (g := gb463) (o := .cells #[.int .i64 a0_0, .int .i64 a0_1, .int .i64 a0_2, .slice (some ad469) l0_3.length c0_3] 24 (0, 0)) (zc BK463) hb); have n1_ := zh (below_step zb hb); have n2_ := zh (hbox); have n3_ := zh ((by rw [hg]; exact (below_size zb) : w.heap.size ≤ gb470)); have n4_ := zh ((by rw [hg]; exact (below_size zb) : w.heap.size ≤ gb470)); have n5_ := zh ((by rw [hg]; exact Nat.ne_of_lt (blk_lt (g := gb463) (o := .cells #[.int .i64 a0_0, .int .i64 a0_1, .int .i64 a0_2, .slice (some ad469) l0_3.length c0_3] 24 (0, 0)) (zc BK463)) : gb463 ≠ gb470)); have n6_ := zh ((by rw [hg]; exact Nat.ne_of_gt (blk_lt (g := gb463) (o := .cells #[.int .i64 a0_0, .int .i64 a0_1, .int .i64 a0_2, .slice (some ad469) l0_3.length c0_3] 24 (0, 0)) (zc BK463)) : gb470 ≠ gb463)); clear BK463; clear HB; have BK463 := n0_; have HB := n1_; have BK470 := n2_; have GW470 := n3_; have GE470 := n4_; have NB463_470 := n5_; have NB470_463 := n6_; clear n0_ n1_ n2_ n3_ n4_ n5_ n6_; clear hb hbox hg; have hnb61 := NB470_463.out; have hnc61 := NB463_470.out; have hcz62_0 : w60.cell? ⟨gb470, 0, none⟩ = some (.int .i64 0) := vb BK470 0; have hcz62_1 : w60.cell? ⟨gb470, 1, none⟩ = some (.int .i64 0) := vb BK470 1; have hcz62_2 : w60.cell? ⟨gb470, 2, none⟩ = some (.int .i64 0) := vb BK470 2; have hcz62_3 : w60.cell? ⟨gb470, 3, none⟩ = some (.int .i64 0) := vb BK470 3; have hfz62_0 := blk_frozen BK470.out 0; have hfz62_1 := blk_frozen BK470.out 1; have hfz62_2 := blk_frozen BK470.out 2; have hfz62_3 := blk_frozen BK470.out 3))
           have n0_ : Aside0 (((((w60.setCell ⟨gb470, 0, none⟩ (.int .i64 ((rd_T66 l0_3 x4_2).f0))).setCell ⟨gb470, 1, none⟩ (.int .i64 ((rd_T66 l0_3 x4_2).f1))).setCell ⟨gb470, 2, none⟩ (.int .i64 ((rd_T66 l0_3 x4_2).f2))).setCell ⟨gb470, 3, none⟩ (.int .i64 ((rd_T66 l0_3 x4_2).f3))).heap[gb463]? = some (.cells #[.int .i64 a0_0, .int .i64 a0_1, .int .i64 a0_2, .slice (some ad469) l0_3.length c0_3] 24 (0, 0))) := ⟨by (with_reducible repeat (first | refine blk_drewN ?_ _ | refine blk_drew ?_ | refine blk_alloc ?_ _)); refine blk_far ?_ NB463_470.out _; (with_reducible repeat (first | refine blk_drewN ?_ _ | refine blk_drew ?_ | refine blk_alloc ?_ _)); refine blk_far ?_ NB463_470.out _; (with_reducible repeat (first | refine blk_drewN ?_ _ | refine blk_drew ?_ | refine blk_alloc ?_ _)); refine blk_far ?_ NB463_470.out _; (with_reducible repeat (first | refine blk_drewN ?_ _ | refine blk_drew ?_ | refine blk_alloc ?_ _)); refine blk_far ?_ NB463_470.out _; (with_reducible repeat (first | refine blk_drewN ?_ _ | refine blk_drew ?_ | refine blk_alloc ?_ _)); exact BK463.out⟩
           have n1_ : Aside0 (((((w60.setCell ⟨gb470, 0, none⟩ (.int .i64 ((rd_T66 l0_3 x4_2).f0))).setCell ⟨gb470, 1, none⟩ (.int .i64 ((rd_T66 l0_3 x4_2).f1))).setCell ⟨gb470, 2, none⟩ (.int .i64 ((rd_T66 l0_3 x4_2).f2))).setCell ⟨gb470, 3, none⟩ (.int .i64 ((rd_T66 l0_3 x4_2).f3))).heap[gb470]? = some (.cells #[.int .i64 ((rd_T66 l0_3 x4_2).f0), .int .i64 ((rd_T66 l0_3 x4_2).f1), .int .i64 ((rd_T66 l0_3 x4_2).f2), .int .i64 ((rd_T66 l0_3 x4_2).f3)] 66 (0, 0))) := ⟨by (with_reducible repeat (first | refine blk_drewN ?_ _ | refine blk_drew ?_ | refine blk_alloc ?_ _)); refine blk_put (cs := #[.int .i64 ((rd_T66 l0_3 x4_2).f0), .int .i64 ((rd_T66 l0_3 x4_2).f1), .int .i64 ((rd_T66 l0_3 x4_2).f2), .int .i64 0]) ?_ 3 _ rfl; (with_reducible repeat (first | refine blk_drewN ?_ _ | refine blk_drew ?_ | refine blk_alloc ?_ _)); refine blk_put (cs := #[.int .i64 ((rd_T66 l0_3 x4_2).f0), .int .i64 ((rd_T66 l0_3 x4_2).f1), .int .i64 0, .int .i64 0]) ?_ 2 _ rfl; (with_reducible repeat (first | refine blk_drewN ?_ _ | refine blk_drew ?_ | refine blk_alloc ?_ _)); refine blk_put (cs := #[.int .i64 ((rd_T66 l0_3 x4_2).f0), .int .i64 0, .int .i64 0, .int .i64 0]) ?_ 1 _ rfl; (with_reducible repeat (first | refine blk_drewN ?_ _ | refine blk_drew ?_ | refine blk_alloc ?_ _)); refine blk_put (cs := #[.int .i64 0, .int .i64 0, .int .i64 0, .int .i64 0]) ?_ 0 _ rfl; (with_reducible repeat (first | refine blk_drewN ?_ _ | refine blk_drew ?_ | refine blk_alloc ?_ _)); exact BK470.out⟩
           have n2_ : Aside0 (Below w.heap.size w ((((w60.setCell ⟨gb470, 0, none⟩ (.int .i64 ((rd_T66 l0_3 x4_2).f0))).setCell ⟨gb470, 1, none⟩ (.int .i64 ((rd_T66 l0_3 x4_2).f1))).setCell ⟨gb470, 2, none⟩ (.int .i64 ((rd_T66 l0_3 x4_2).f2))).setCell ⟨gb470, 3, none⟩ (.int .i64 ((rd_T66 l0_3 x4_2).f3)))) := ⟨zb⟩
           (try clear BK463)
           (try clear BK470)
           (try clear HB)
           generalize ((((w60.setCell ⟨gb470, 0, none⟩ (.int .i64 ((rd_T66 l0_3 x4_2).f0))).setCell ⟨gb470, 1, none⟩ (.int .i64 ((rd_T66 l0_3 x4_2).f1))).setCell ⟨gb470, 2, none⟩ (.int .i64 ((rd_T66 l0_3 x4_2).f2))).setCell ⟨gb470, 3, none⟩ (.int .i64 ((rd_T66 l0_3 x4_2).f3))) = w63 at n0_ n1_ n2_ ⊢
           have BK463 := n0_
           have BK470 := n1_
           have HB := n2_
           clear n0_ n1_ n2_
           replace BK463 := zh (blk_drew BK463.out)
           replace BK470 := zh (blk_drew BK470.out)
           replace HB := zh (below_drew1 HB.out)
           refine start_ (n := 23) (S := fun w' => w'.cell? ⟨gb470, 0, none⟩ = some (.int .i64 ((rd_T66 l0_3 x4_2).f0)) ∧ w'.cell? ⟨gb470, 1, none⟩ = some (.int .i64 ((rd_T66 l0_3 x4_2).f1)) ∧ w'.cell? ⟨gb470, 2, none⟩ = some (.int .i64 ((rd_T66 l0_3 x4_2).f2)) ∧ w'.cell? ⟨gb470, 3, none⟩ = some (.int .i64 ((rd_T66 l0_3 x4_2).f3))) (ds := []) (Array.replicate 23 false) zk rfl rfl ⟨vb BK470 0, vb BK470 1, vb BK470 2, vb BK470 3⟩ (fun hHeld => ?_); refine with_tabW saronlaw06_sound.tab6 saronlaw06_sound.bits6 (fun HT_ HW_ => ?_)
           generalize w63.drew = w64 at BK463 BK470 HB hHeld ⊢
           refine zu 0 ?_
           refine zt 1 ?_
           refine zo 2 (fun K hK => ?_)
           refine goes_ Tryd.func45 zk rfl #[.int .i64 ((rd_T66 l0_3 x4_2).f0), .int .i64 0, .int .i64 4] (by rfl) rfl rfl zm ?_
           with_reducible refine (saronref00_Sits.calls ((rd_T66 l0_3 x4_2).f0) 0 4 false _ A37.out).mono ?_
           rintro e w' ⟨rfl, ⟨nd, rfl⟩⟩
           refine ⟨_, rfl, ?_⟩
           refine hK.out _ _ ⟨vb BK470 0, vb BK470 1, vb BK470 2, vb BK470 3⟩ (fun hHeld => ?_)
           clear hK K
           refine zr 53 _ ?_
           refine zu 3 ?_
           refine zn 4 ?_
           refine zn 5 ?_
           refine zn 6 ?_
           refine zn 7 ?_
           refine zn 8 ?_
           refine zn 9 ?_
           refine zn 10 ?_
           refine zn 11 ?_
           refine zn 12 ?_
           refine zn 13 ?_
           refine zn 14 ?_
           refine zn 15 ?_
           refine zu 16 ?_
           refine zu 17 ?_
           refine zn 18 ?_
           refine zn 19 ?_
           refine zn 20 ?_
           refine zu 21 ?_
           refine zu 22 ?_
           refine zd ?_
           try go_wp2
           go_roundg kj30
           case measure => have := HJ1.out; have := HK2.out; have := HJ30.out; omega
           case rel => exact ⟨(false), (wrap64 (x4_2 + 1)), ze, ze, H', ⟨by have := HJ1.out; have := HK2.out; have := HJ30.out; omega⟩, ⟨zc BK463⟩, ⟨zb⟩⟩
         ·rw [if_neg c36] at H
          exact absurd H (by simp)
        ·rw [if_neg c35] at H
         exact absurd H (by simp)
       ·replace c34 := Bool.eq_false_iff.mpr c34
        subst c34
        have H1 : (some x3_2) = some r := by rw [if_neg (show ¬ (false = true) by decide)] at H; exact H
        clear H
        have H := H1
        clear H1
        obtain rfl := Option.some.inj H
        go_wp2
        go_ret
        exact ⟨zf, zb⟩
end Go.Proofs.YtagkfkdoibnhfaaDoor.H
end
section
namespace Go.Proofs.YtagkfkdoibnhfaaDoor.K
open Go.RowKit Go.Proofs.YtagkfkdoibnhfaaDoorW.PrintWords Go.Proofs.YtagkfkdoibnhfaaDoorW.PrintMore Go.Proofs.YtagkfkdoibnhfaaDoor.H
namespace O
theorem sits_f (a b c : Int) : saronref00_Sits.f a b c = some (decide (b ≤ a) && decide (a ≤ c)) := by
 unfold saronref00_Sits.f
 by_cases h : b ≤ a <;> simp [h]
theorem good_f (x y a b : Int) : saronref00_Good.f x y a b = some (decide (a ≤ x) && decide (x ≤ y) && decide (y ≤ b)) := by
 unfold saronref00_Good.f
 by_cases h : a ≤ x <;> by_cases h' : x ≤ y <;> simp [h, h']
theorem up1 (i : Nat) (h : (i : Int) < 9223372036854775807) : wrap64 ((i : Int) + 1) = ((i + 1 : Nat) : Int) := by rw [w64 (by omega) (by omega)]; simp
theorem okScale_get {T O L : Int} {R : List S66} (h : okScale T O L R = true) (i : Nat) (hi : i < R.length) : okReg (T * O) R[i] = true := by
 unfold okScale at h
 simp only [Bool.and_eq_true, List.all_eq_true] at h
 exact h.2 _ (List.getElem_mem hi)
theorem sound_false (T O L : Int) (R : List S66) (k : Nat) (i : Int) (hk : 2 ≤ k) : saronlaw06_sound.l0 k false i T O L R = some false := by
 obtain ⟨k, rfl⟩ : ∃ z, k = z + 2 := ⟨k - 2, by omega⟩
 simp [saronlaw06_sound.l0, saronlaw06_sound.j2]
theorem sound_l0 (T O L : Int) (R : List S66) (hS : okScale T O L R = true) (d : Nat) : ∀ (k i : Nat), R.length - i = d → i ≤ R.length → 2 * d + 2 ≤ k → saronlaw06_sound.l0 k true (i : Int) T O L R = some true := by
 obtain ⟨t1, t2, t3, t4, t5, t6, t7, t8, t9, hok⟩ := okScale_regs hS
 have mr := mul_range t1 t2 t3 t4
 induction d with
 | zero =>
  intro k i hd hi hk
  obtain ⟨k, rfl⟩ : ∃ z, k = z + 2 := ⟨k - 2, by omega⟩
  have hdec : decide ((i : Int) < (R.length : Int)) = false := decide_eq_false (by omega)
  simp only [saronlaw06_sound.l0, saronlaw06_sound.j2, hdec, if_true]
  rw [if_neg (by simp)]
 | succ d ih =>
  intro k i hd hi hk
  obtain ⟨k, rfl⟩ : ∃ z, k = z + 2 := ⟨k - 2, by omega⟩
  have hlt : i < R.length := by omega
  have hdec : decide ((i : Int) < (R.length : Int)) = true := decide_eq_true (by omega)
  have e : regAt R (i : Int) = R[i] := by unfold regAt; simp [hlt]
  have hr := okScale_get hS i hlt
  simp only [okReg, Bool.and_eq_true, decide_eq_true_eq] at hr
  obtain ⟨⟨⟨⟨⟨⟨⟨r1, r2⟩, r3⟩, r4⟩, r5⟩, r6⟩, r7⟩, r8⟩ := hr
  simp only [saronlaw06_sound.l0, saronlaw06_sound.j2, hdec, if_true]
  rw [if_pos (by omega), if_pos (by omega), rd66 R i hlt, sits_f, Option.bind_some, if_pos (by rw [decide_eq_true r1, decide_eq_true r2]; rfl)]
  simp only [saronref00_Band.f, Option.bind_some]
  rw [good_f, Option.bind_some, w64 (n := T * O) (by omega) (by omega), w64 (by omega) (by omega), if_pos (by rw [decide_eq_true r3, decide_eq_true r4, decide_eq_true r6]; rfl), sits_f, Option.bind_some, decide_eq_true r7, decide_eq_true r8, up1 i (by omega)]
  exact ih k (i + 1) (by omega) (by omega) (by omega)
theorem sound_f (T O L : Int) (R : List S66) (hR : R.length ≤ 9223372036854775807) (k : Nat) (hk : 2 * R.length + 10 ≤ k) : saronlaw06_sound.f k T O L R = some (okScale T O L R) := by
 unfold saronlaw06_sound.f
 rw [check_f T O L R hR k (by omega), Option.bind_some]
 obtain ⟨k, rfl⟩ : ∃ z, k = z + 1 := ⟨k - 1, by omega⟩
 cases hS : okScale T O L R
 ·rw [if_neg (by simp)]
  simp only [saronlaw06_sound.j0]
  exact sound_false _ _ _ _ _ _ (by omega)
 ·obtain ⟨t1, t2, t3, t4, t5, t6, t7, t8, t9, hok⟩ := okScale_regs hS
  rw [if_pos rfl, if_pos rfl, sits_f, Option.bind_some, if_pos (by rw [decide_eq_true t1, decide_eq_true t2]; rfl), sits_f, Option.bind_some, if_pos (by rw [decide_eq_true t3, decide_eq_true t4]; rfl), sits_f, Option.bind_some, if_pos (by rw [decide_eq_true t5, decide_eq_true t6]; rfl), if_pos ((tmod_zero _ _).2 t7), sits_f, Option.bind_some, decide_eq_true (by omega : (1 : Int) ≤ (R.length : Int)), decide_eq_true (by omega : (R.length : Int) ≤ 5)]
  simp only [saronlaw06_sound.j0]
  exact sound_l0 T O L R hS R.length k 0 (Nat.sub_zero _) (Nat.zero_le _) (by omega)
end O
end Go.Proofs.YtagkfkdoibnhfaaDoor.K
end
section
namespace Go.Proofs.YtagkfkdoibnhfaaDoor.H
open Go.RowKit Go.Proofs.YtagkfkdoibnhfaaDoorW.PrintWords Go.Proofs.YtagkfkdoibnhfaaDoorW.PrintLast Go.Proofs.YtagkfkdoibnhfaaDoorW.PrintMore
attribute [local go_sem] max2_int min2_int max_two min_two max_three min_three max_four min_four   -- for this text's walks alone
set_option linter.unusedVariables false
set_option linter.unusedSimpArgs false
open Go.Proofs.YtagkfkdoibnhfaaDoor.K
mutual
def saronlaw06_KernelOne.j0 : Nat → List (S60) → Int → Int → List Int → Int → List (List Int) → Int → Bool → Int → Int → Int → List (S66) → Option (Bool)
 | 0, _, _, _, _, _, _, _, _, _, _, _, _ => none
 | k + 1, x1, x5, x6, x7, x8, x9, x10, x42, x815000, x815001, x815002, x815003 => if x42 = true then (if x8 = x6 then (if x10 = x6 then (if x6 = 60 then (if x5 = 0 then (if (wrap64 ((x7.length : Int) + (x9.length : Int))) = 0 then ((saronlaw06_works.f).bind fun t826 => (some t826)) else (some false)) else (some false)) else (if x6 = 61 then (if x5 = 0 then (if (wrap64 ((x7.length : Int) + (x9.length : Int))) = 0 then ((saronlaw06_works.f).bind fun t827 => (some t827)) else (some false)) else (some false)) else (some false))) else (some false)) else (some false)) else (if x5 = 0 then (if x8 = 62 then (if x10 = x8 then (if (wrap64 ((x7.length : Int) + (x9.length : Int))) = 0 then ((saronlaw06_works.f).bind fun t828 => (some t828)) else (some false)) else (some false)) else (some false)) else (if x5 < 0 then (saronlaw06_KernelOne.j1 k x1 x5 x7 x9 true x815000 x815001 x815002 x815003) else (if x10 = 0 then (if ((x8 == 0) != (x5 == 1)) = true then (saronlaw06_KernelOne.j1 k x1 x5 x7 x9 true x815000 x815001 x815002 x815003) else (if x5 > 1 then (if x8 = 63 then (if (x7.length : Int) = 0 then (saronlaw06_KernelOne.j1 k x1 x5 x7 x9 ((x9.length : Int) != (x1.length : Int)) x815000 x815001 x815002 x815003) else (saronlaw06_KernelOne.j1 k x1 x5 x7 x9 true x815000 x815001 x815002 x815003)) else (saronlaw06_KernelOne.j1 k x1 x5 x7 x9 true x815000 x815001 x815002 x815003)) else (saronlaw06_KernelOne.j1 k x1 x5 x7 x9 ((x9.length : Int) != (x1.length : Int)) x815000 x815001 x815002 x815003))) else (saronlaw06_KernelOne.j1 k x1 x5 x7 x9 true x815000 x815001 x815002 x815003))))
def saronlaw06_KernelOne.j1 : Nat → List (S60) → Int → List Int → List (List Int) → Bool → Int → Int → Int → List (S66) → Option (Bool)
 | 0, _, _, _, _, _, _, _, _, _ => none
 | k + 1, x1, x5, x7, x9, x126, x815000, x815001, x815002, x815003 => if x126 = true then (some false) else (saronlaw06_KernelOne.l0 k x1 x5 x7 x9 false 0 x815000 x815001 x815002 x815003)
def saronlaw06_KernelOne.l0 : Nat → List (S60) → Int → List Int → List (List Int) → Bool → Int → Int → Int → Int → List (S66) → Option (Bool)
 | 0, _, _, _, _, _, _, _, _, _, _ => none
 | k + 1, x1, x5, x7, x9, x11, x12, x815000, x815001, x815002, x815003 => if x12 < x815002 then ((kernel_Can.f x815000 x815001 x815002 x815003 x1 x12).bind fun bt829 => (if bt829.2 = 0 then (if (bt829.1.length : Int) = 0 then (some false) else (if x5 = 1 then (if (bt829.1.length : Int) = 1 then (if (x7.length : Int) = x815002 then (if 0 < (bt829.1.length : Int) then (if 0 ≤ x12 then (if x12 < (x7.length : Int) then (if (rd bt829.1 0) = (rd x7 x12) then (if x11 = true then (saronlaw06_KernelOne.l0 k x1 x5 x7 x9 true (wrap64 (x12 + 1)) x815000 x815001 x815002 x815003) else (saronlaw06_KernelOne.l0 k x1 x5 x7 x9 (decide ((bt829.1.length : Int) > 1)) (wrap64 (x12 + 1)) x815000 x815001 x815002 x815003)) else (some false)) else (none)) else (none)) else (none)) else (some false)) else (some false)) else (if x11 = true then (saronlaw06_KernelOne.l0 k x1 x5 x7 x9 true (wrap64 (x12 + 1)) x815000 x815001 x815002 x815003) else (saronlaw06_KernelOne.l0 k x1 x5 x7 x9 (decide ((bt829.1.length : Int) > 1)) (wrap64 (x12 + 1)) x815000 x815001 x815002 x815003)))) else (some false))) else (saronlaw06_KernelOne.l1 k x1 x5 x7 x9 x11 0 x815000 x815001 x815002 x815003)
def saronlaw06_KernelOne.l1 : Nat → List (S60) → Int → List Int → List (List Int) → Bool → Int → Int → Int → Int → List (S66) → Option (Bool)
 | 0, _, _, _, _, _, _, _, _, _, _ => none
 | k + 1, x1, x5, x7, x9, x11, x15, x815000, x815001, x815002, x815003 => if x5 = 1 then (saronlaw06_KernelOne.j4 k x1 x5 x7 x9 x11 x15 (decide (x15 < (x9.length : Int))) x815000 x815001 x815002 x815003) else (saronlaw06_KernelOne.j4 k x1 x5 x7 x9 x11 x15 false x815000 x815001 x815002 x815003)
def saronlaw06_KernelOne.j4 : Nat → List (S60) → Int → List Int → List (List Int) → Bool → Int → Bool → Int → Int → Int → List (S66) → Option (Bool)
 | 0, _, _, _, _, _, _, _, _, _, _, _ => none
 | k + 1, x1, x5, x7, x9, x11, x15, x186, x815000, x815001, x815002, x815003 => if x186 = true then (if 0 ≤ x15 then (if x15 < (x1.length : Int) then ((kernel_Part.f x815000 x815001 x815002 x815003 x7 ((rd_T60 x1 x15).f0)).bind fun bt837 => (if bt837.2 = 0 then (if x15 < (x9.length : Int) then ((saronref00_Equal.f k bt837.1 (rd_L4 x9 x15)).bind fun t842 => (if t842 = true then (saronlaw06_KernelOne.l1 k x1 x5 x7 x9 x11 (wrap64 (x15 + 1)) x815000 x815001 x815002 x815003) else (some false))) else (none)) else (some false))) else (none)) else (none)) else (if (x11 == (decide (x5 > 1))) = true then ((saronlaw06_works.f).bind fun t835 => (some t835)) else (some false))
end
def saronlaw06_KernelOne.f (k : Nat) (a0_0 : Int) (a0_1 : Int) (a0_2 : Int) (l0_3 : List (S66)) (l1 : List (S60)) : Option (Bool) := (kernel_Many.f a0_0 a0_1 a0_2 l0_3 l1).bind fun bt815 => ((kernel_Won.f a0_0 a0_1 a0_2 l0_3 l1).bind fun bt817 => ((kernel_Filled.f a0_0 a0_1 a0_2 l0_3 l1).bind fun bt821 => (if bt815.2 = 0 then ((saronlaw06_sound.f k a0_0 a0_1 a0_2 l0_3).bind fun t825 => (saronlaw06_KernelOne.j0 k l1 bt815.1 bt815.2 bt817.1 bt817.2 bt821.1 bt821.2 (!t825) a0_0 a0_1 a0_2 l0_3)) else (saronlaw06_KernelOne.j0 k l1 bt815.1 bt815.2 bt817.1 bt817.2 bt821.1 bt821.2 true a0_0 a0_1 a0_2 l0_3))))
end Go.Proofs.YtagkfkdoibnhfaaDoor.H
end
section
namespace Go.Proofs.YtagkfkdoibnhfaaDoor.K
open Go.RowKit Go.Proofs.YtagkfkdoibnhfaaDoorW.PrintWords Go.Proofs.YtagkfkdoibnhfaaDoorW.PrintMore Go.Proofs.YtagkfkdoibnhfaaDoor.H
namespace O
theorem equal_self_l0 (l : List Int) (hl : l.length ≤ 9223372036854775807) : ∀ (d k i : Nat), l.length - i = d → i ≤ l.length → d + 1 ≤ k → saronref00_Equal.l0 k l l true (i : Int) = some true
 | 0, k, i, hd, hi, hk => by
  obtain ⟨k, rfl⟩ : ∃ m, k = m + 1 := ⟨k - 1, by omega⟩
  simp only [saronref00_Equal.l0, if_true]
  rw [if_neg (by omega)]
 | d + 1, k, i, hd, hi, hk => by
  obtain ⟨k, rfl⟩ : ∃ m, k = m + 1 := ⟨k - 1, by omega⟩
  simp only [saronref00_Equal.l0, if_true]
  rw [if_pos (by omega), if_pos (by omega), if_pos (by omega), up1 i (by omega), beq_self_eq_true]
  exact equal_self_l0 l hl d k (i + 1) (by omega) (by omega) (by omega)
theorem equal_self' (l : List Int) (hl : l.length ≤ 9223372036854775807) (k : Nat) (hk : l.length + 1 ≤ k) : saronref00_Equal.f k l l = some true := by
 unfold saronref00_Equal.f
 rw [beq_self_eq_true]
 exact equal_self_l0 l hl l.length k 0 rfl (by omega) (by omega)
theorem min_mul (n l : Int) (hn : 1 ≤ n) (hl : 1 ≤ l) : 1 ≤ min 1000000 (n * l) ∧ (1 < min 1000000 (n * l) ↔ 1 < n ∨ 1 < l) := by
 by_cases h : l = 1
 ·subst h
  rw [Int.mul_one]
  omega
 ·have h1 : 1 * 2 ≤ n * l := Int.mul_le_mul hn (by omega) (by omega) (by omega)
  omega
theorem many_fold (f : Int → Nat) : ∀ (ps : List Int) (n : Int), 1 ≤ n → (∀ p ∈ ps, 1 ≤ f p) → 1 ≤ ps.foldl (fun n p => min 1000000 (n * (f p : Int))) n ∧ (1 < ps.foldl (fun n p => min 1000000 (n * (f p : Int))) n ↔ 1 < n ∨ (ps.any fun p => decide (1 < f p)) = true)
 | [], n, hn, h => by simp [hn]
 | p :: ps, n, hn, h => by
  have h1 := h p (by simp)
  obtain ⟨a, b⟩ := min_mul n (f p : Int) hn (by omega)
  obtain ⟨c, d⟩ := many_fold f ps _ a (fun q hq => h q (by simp [hq]))
  rw [List.foldl_cons]
  refine ⟨c, d.trans ?_⟩
  rw [b, List.any_cons, Bool.or_eq_true, decide_eq_true_eq, or_assoc]
  have : (1 : Int) < (f p : Int) ↔ 1 < f p := by omega
  rw [this]
def several (T O L : Int) (R : List S66) (hs : List S60) : Bool := (irange 0 (L / 2 - 1)).any (severalAt T O R hs)
theorem many_one {T O L : Int} {R : List S66} {hs : List S60} (h : canAll T O L R hs = true) : 1 ≤ manyOf T O L R hs ∧ (1 < manyOf T O L R hs ↔ several T O L R hs = true) := by
 obtain ⟨a, b⟩ := many_fold (fun p => (choices T O R hs p).length) (irange 0 (L / 2 - 1)) 1 (Int.le_refl _) (fun p hp => by
  obtain ⟨h0, h1⟩ := irange_mem_iff.1 hp
  obtain ⟨q, hq⟩ := canAll_pos h p h0 h1
  exact List.length_pos_of_mem hq)
 refine ⟨a, b.trans ?_⟩
 rw [show ((1 : Int) < 1) = False from by simp, false_or]
 rfl
theorem choices_nodup (T O : Int) (R : List S66) (hs : List S60) (p : Int) : (choices T O R hs p).Nodup := by
 unfold choices
 exact (pairs_nodup _).filter _
theorem single_of {T O L : Int} {R : List S66} {hs : List S60} (h : canAll T O L R hs = true) (h1 : several T O L R hs = false) : Single T O L R hs (fun p => ((choices T O R hs p).head?).getD (0, 0)) := by
 intro p hp0 hp1
 obtain ⟨q, hq⟩ := canAll_pos h p hp0 hp1
 have hl : ¬ 1 < (choices T O R hs p).length := by
  intro hl
  have : several T O L R hs = true := by
   unfold several
   rw [List.any_eq_true]
   exact ⟨p, irange_mem_iff.2 ⟨hp0, hp1⟩, by unfold severalAt; exact decide_eq_true hl⟩
  rw [this] at h1
  cases h1
 match hc : choices T O R hs p, hl, hq with
 | [], _, hq => simp at hq
 | [x], _, _ => show [x] = [((choices T O R hs p).head?).getD (0, 0)]; rw [hc]; rfl
 | _ :: _ :: _, hl, _ => simp at hl
def moreFrom (T O L : Int) (R : List S66) (hs : List S60) (i : Nat) : Bool := (irange (i : Int) (L - 1)).any fun x => decide (1 < (canOf T O R hs x).length)
theorem moreFrom_cons (T O L : Int) (R : List S66) (hs : List S60) (i : Nat) (h : (i : Int) < L) : moreFrom T O L R hs i = (decide (1 < (canOf T O R hs (i : Int)).length) || moreFrom T O L R hs (i + 1)) := by
 unfold moreFrom
 rw [irange_cons (lo := (i : Int)) (hi := L - 1) (by omega), List.any_cons]
 rfl
theorem more_several {T O L : Int} {R : List S66} {hs : List S60} (hS : okScale T O L R = true) (hC : canAll T O L R hs = true) : moreFrom T O L R hs 0 = several T O L R hs := by
 obtain ⟨t1, t2, t3, t4, t5, t6, t7, t8, t9, hok⟩ := okScale_regs hS
 cases h1 : several T O L R hs
 ·have hs1 := single_of hC h1
  unfold moreFrom
  rw [List.any_eq_false]
  intro x hx
  obtain ⟨h0, h1⟩ := irange_mem_iff.1 hx
  rw [canOf_one (hs1 (x / 2) (by omega) (by omega))]
  simp
 ·unfold several at h1
  rw [List.any_eq_true] at h1
  obtain ⟨p, hp, h2⟩ := h1
  obtain ⟨h0, h1⟩ := irange_mem_iff.1 hp
  unfold severalAt at h2
  have h3 := of_decide_eq_true h2
  unfold moreFrom
  rw [List.any_eq_true]
  have hn := choices_nodup T O R hs p
  match hc : choices T O R hs p, h3, hn with
  | a :: b :: r, _, hn =>
   have hne : a ≠ b := by
    rintro rfl
    simp at hn
   rcases two_sides h0 (show a ∈ choices T O R hs p by rw [hc]; simp) (show b ∈ choices T O R hs p by rw [hc]; simp) hne with h | h
   ·exact ⟨2 * p, irange_mem_iff.2 ⟨by omega, by omega⟩, decide_eq_true h⟩
   ·exact ⟨2 * p + 1, irange_mem_iff.2 ⟨by omega, by omega⟩, decide_eq_true h⟩
theorem Can_ok {T O L : Int} {R : List S66} {hs : List S60} (hS : okScale T O L R = true) (hH : okHeard L R hs = true) (hC : canAll T O L R hs = true) (i : Int) (h0 : 0 ≤ i) (h1 : i < L) : Can T O L R hs i = (canOf T O R hs i, 0) := by
 unfold Can askedErr
 rw [if_pos hS, if_pos hH, if_pos hC, decide_eq_true h0, decide_eq_true h1]
 rfl
section
variable (T O L : Int) (R : List S66) (hs : List S60) (hS : okScale T O L R = true) (hH : okHeard L R hs = true) (hC : canAll T O L R hs = true)
include hS hH hC
theorem one_l1 (many : Int) (won : List Int) (fl : List (List Int)) (flag : Bool) (hfl : fl = hs.map (fillOf T O R hs)) (hone : many = 1 → (∀ x ∈ hs, Part T O L R won x.f0 = (fillOf T O R hs x, 0))) (hlens : ∀ x ∈ hs, (fillOf T O R hs x).length ≤ 100) (hflag : flag = decide (1 < many)) (d : Nat) :
  ∀ (k i : Nat), hs.length - i = d → i ≤ hs.length → 2 * d + 300 ≤ k → saronlaw06_KernelOne.l1 k hs many won fl flag (i : Int) T O L R = some true := by
 obtain ⟨hh5, hh⟩ := okHeard_get hH
 have hlen : fl.length = hs.length := by rw [hfl, List.length_map]
 have fin : ∀ (k i : Nat), 1 ≤ k → saronlaw06_KernelOne.j4 k hs many won fl flag (i : Int) false T O L R = some true := fun k i hk => by
  obtain ⟨k, rfl⟩ : ∃ z, k = z + 1 := ⟨k - 1, by omega⟩
  simp only [saronlaw06_KernelOne.j4]
  rw [if_neg (by simp), if_pos (by rw [hflag]; exact beq_self_eq_true _)]
  rfl
 induction d with
 | zero =>
  intro k i hd hi hk
  obtain ⟨k, rfl⟩ : ∃ z, k = z + 1 := ⟨k - 1, by omega⟩
  have hdec : decide ((i : Int) < (fl.length : Int)) = false := decide_eq_false (by omega)
  simp only [saronlaw06_KernelOne.l1, hdec]
  split <;> exact fin k i (by omega)
 | succ d ih =>
  intro k i hd hi hk
  obtain ⟨k, rfl⟩ : ∃ z, k = z + 2 := ⟨k - 2, by omega⟩
  have hlt : i < hs.length := by omega
  have hdec : decide ((i : Int) < (fl.length : Int)) = true := decide_eq_true (by omega)
  simp only [saronlaw06_KernelOne.l1, hdec]
  by_cases h1 : many = 1
  ·have hp := hone h1 hs[i] (List.getElem_mem hlt)
   have hle := hlens hs[i] (List.getElem_mem hlt)
   have eg : rd_L4 fl (i : Int) = fillOf T O R hs hs[i] := by
    unfold rd_L4
    rw [hfl]
    simp [hlt]
   have e60 : rd_T60 hs (i : Int) = hs[i] := by
    unfold rd_T60
    simp [hlt]
   rw [if_pos h1]
   simp only [saronlaw06_KernelOne.j4, if_true, kernel_Part.f, Option.bind_some]
   rw [if_pos (by omega), if_pos (by omega), e60, hp, if_pos rfl, if_pos (by omega), eg, equal_self' (fillOf T O R hs hs[i]) (Nat.le_trans hle (by omega)) k (Nat.le_trans (Nat.succ_le_succ hle) (by omega)), Option.bind_some, if_pos rfl, up1 i (by omega)]
   exact ih k (i + 1) (by omega) (by omega) (by omega)
  ·rw [if_neg h1]
   exact fin (k + 1) i (by omega)
theorem one_l0 (many : Int) (won : List Int) (fl : List (List Int)) (hfl : fl = hs.map (fillOf T O R hs)) (hm : many = 1 ∨ 1 < many) (hsev : decide (1 < many) = several T O L R hs) (hwon : many = 1 → won = wonOf T O L R hs) (d : Nat) :
  ∀ (k i : Nat) (flag : Bool), L.toNat - i = d → (i : Int) ≤ L → (flag || moreFrom T O L R hs i) = several T O L R hs → d + 400 ≤ k → saronlaw06_KernelOne.l0 k hs many won fl flag (i : Int) T O L R = some true := by
 obtain ⟨t1, t2, t3, t4, t5, t6, t7, t8, t9, hok⟩ := okScale_regs hS
 obtain ⟨hh5, hh⟩ := okHeard_get hH
 have hns : many = 1 → several T O L R hs = false := fun h => by rw [← hsev, h]; rfl
 induction d with
 | zero =>
  intro k i flag hd hi hf hk
  obtain ⟨k, rfl⟩ : ∃ z, k = z + 1 := ⟨k - 1, by omega⟩
  simp only [saronlaw06_KernelOne.l0]
  rw [if_neg (by omega)]
  have e : moreFrom T O L R hs i = false := by
   unfold moreFrom
   rw [irange_nil (by omega)]
   rfl
  rw [e, Bool.or_false] at hf
  refine one_l1 T O L R hs hS hH hC many won fl flag hfl (fun h x hx => ?_) (fun x hx => ?_) (by rw [hf, hsev]) hs.length k 0 (Nat.sub_zero _) (Nat.zero_le _) (by omega)
  ·have hsg := single_of hC (hns h)
   obtain ⟨j, hj, rfl⟩ := List.getElem_of_mem hx
   obtain ⟨g1, g2, g3, g4⟩ := hh j hj
   unfold Part
   rw [if_pos hS, hwon h, if_pos (won_ok hS hsg _ g1 g2), fill_part hS hH hsg _ hx]
  ·obtain ⟨j, hj, rfl⟩ := List.getElem_of_mem hx
   obtain ⟨g1, g2, g3, g4⟩ := hh j hj
   have hwl := width_le (regAt R hs[j].f0)
   have : L / 2 * (width (regAt R hs[j].f0) : Int) ≤ 8 * 4 := Int.mul_le_mul (by omega) (by omega) (by omega) (by omega)
   unfold fillOf
   rw [List.length_map, List.length_range]
   omega
 | succ d ih =>
  intro k i flag hd hi hf hk
  obtain ⟨k, rfl⟩ : ∃ z, k = z + 1 := ⟨k - 1, by omega⟩
  have hil : (i : Int) < L := by omega
  obtain ⟨q, hq⟩ := canAll_pos hC ((i : Int) / 2) (by omega) (by omega)
  have hpos : 1 ≤ (canOf T O R hs (i : Int)).length := List.length_pos_of_mem (canOf_mem.2 ⟨q, hq, rfl⟩)
  rw [moreFrom_cons T O L R hs i hil] at hf
  have ih' := fun flag hf => ih k (i + 1) flag (by omega) (by omega) hf (by omega)
  have next : (if flag = true then saronlaw06_KernelOne.l0 k hs many won fl true (wrap64 ((i : Int) + 1)) T O L R else saronlaw06_KernelOne.l0 k hs many won fl (decide (((canOf T O R hs (i : Int)).length : Int) > 1)) (wrap64 ((i : Int) + 1)) T O L R) = some true := by
   rw [up1 i (by omega)]
   cases flag
   ·rw [if_neg (by simp)]
    refine ih' _ ?_
    rw [← hf, Bool.false_or]
    congr 1
    rw [decide_eq_decide]
    omega
   ·rw [if_pos rfl]
    exact ih' _ (by rw [← hf]; rfl)
  simp only [saronlaw06_KernelOne.l0, kernel_Can.f, Option.bind_some]
  rw [if_pos hil, Can_ok hS hH hC (i : Int) (by omega) hil, if_pos rfl, if_neg (by show ¬ ((canOf T O R hs (i : Int)).length : Int) = 0; omega)]
  by_cases h1 : many = 1
  ·have hsg := single_of hC (hns h1)
   have hc1 := canOf_one (hsg ((i : Int) / 2) (by omega) (by omega))
   have hwl := won_len hS hsg
   have hw := won_get hS hsg i hil
   rw [if_pos h1]
   show (if ((canOf T O R hs (i : Int)).length : Int) = 1 then _ else _) = _
   rw [if_pos (by rw [hc1]; rfl), hwon h1, if_pos hwl]
   show (if 0 < ((canOf T O R hs (i : Int)).length : Int) then _ else _) = _
   rw [if_pos (by omega), if_pos (by omega), if_pos (by omega)]
   have e1 : rd (canOf T O R hs (i : Int)) 0 = rd (wonOf T O L R hs) (i : Int) := by
    rw [hc1]
    unfold rd
    rw [Int.toNat_natCast, hw]
    rfl
   show (if rd (canOf T O R hs (i : Int)) 0 = rd (wonOf T O L R hs) (i : Int) then _ else _) = _
   rw [if_pos e1, ← hwon h1]
   exact next
  ·rw [if_neg h1]
   exact next
end
end O
end Go.Proofs.YtagkfkdoibnhfaaDoor.K
end
section
namespace Go.Proofs.YtagkfkdoibnhfaaDoor.K
open Go.RowKit Go.Proofs.YtagkfkdoibnhfaaDoorW.PrintWords Go.Proofs.YtagkfkdoibnhfaaDoorW.PrintMore Go.Proofs.YtagkfkdoibnhfaaDoor.H
namespace O
theorem one_bad (x : Int) (hx : x = 60 ∨ x = 61) (T O L : Int) (R : List S66) (hs : List S60) (k : Nat) (hk : 1 ≤ k) : saronlaw06_KernelOne.j0 k hs 0 x [] x [] x true T O L R = some true := by
 obtain ⟨k, rfl⟩ : ∃ z, k = z + 1 := ⟨k - 1, by omega⟩
 simp only [saronlaw06_KernelOne.j0, if_true]
 rcases hx with rfl | rfl
 ·rw [if_pos rfl, if_pos (by simp [wrap64])]
  rfl
 ·rw [if_neg (by decide), if_pos rfl, if_pos (by simp [wrap64])]
  rfl
theorem one_law (T O L : Int) (R : List S66) (hs : List S60) (hR : R.length ≤ 9223372036854775807) (k : Nat) (hk : 2 * R.length + 600 ≤ k) : saronlaw06_KernelOne.f k T O L R hs = some true := by
 unfold saronlaw06_KernelOne.f kernel_Many.f kernel_Won.f kernel_Filled.f
 rw [Option.bind_some, Option.bind_some, Option.bind_some]
 cases hS : okScale T O L R
 ·have e1 : Many T O L R hs = (0, 60) := by unfold Many; rw [hS]; rfl
  have e2 : Won T O L R hs = ([], 60) := by unfold Won askedErr; rw [hS]; rfl
  have e3 : Filled T O L R hs = ([], 60) := by unfold Filled askedErr; rw [hS]; rfl
  rw [e1, e2, e3, if_neg (by decide)]
  exact one_bad 60 (.inl rfl) T O L R hs k (by omega)
 cases hH : okHeard L R hs
 ·have e1 : Many T O L R hs = (0, 61) := by unfold Many; rw [hS, hH]; rfl
  have e2 : Won T O L R hs = ([], 61) := by unfold Won askedErr; rw [hS, hH]; rfl
  have e3 : Filled T O L R hs = ([], 61) := by unfold Filled askedErr; rw [hS, hH]; rfl
  rw [e1, e2, e3, if_neg (by decide)]
  exact one_bad 61 (.inr rfl) T O L R hs k (by omega)
 obtain ⟨t1, t2, t3, t4, t5, t6, t7, t8, t9, hok⟩ := okScale_regs hS
 obtain ⟨hh5, hh⟩ := okHeard_get hH
 cases hC : canAll T O L R hs
 ·have e1 : Many T O L R hs = (0, 0) := by unfold Many; rw [hS, hH, hC]; rfl
  have e2 : Won T O L R hs = ([], 62) := by unfold Won askedErr; rw [hS, hH, hC]; rfl
  have e3 : Filled T O L R hs = ([], 62) := by unfold Filled askedErr; rw [hS, hH, hC]; rfl
  rw [e1, e2, e3, if_pos rfl, sound_f T O L R hR k (by omega), Option.bind_some, hS]
  obtain ⟨k, rfl⟩ : ∃ z, k = z + 1 := ⟨k - 1, by omega⟩
  simp only [saronlaw06_KernelOne.j0, Bool.not_true]
  rw [if_neg (by simp), if_pos trivial, if_pos trivial, if_pos trivial, if_pos (by simp [wrap64])]
  rfl
 obtain ⟨m1, m2⟩ := many_one hC
 have ea : askedErr T O L R hs true = 0 := by unfold askedErr; rw [hS, hH, hC]; rfl
 have e1 : Many T O L R hs = (manyOf T O L R hs, 0) := by unfold Many; rw [hS, hH, hC]; rfl
 have e3 : Filled T O L R hs = (hs.map (fillOf T O R hs), 0) := by unfold Filled; rw [ea]; rfl
 have hsev : decide (1 < manyOf T O L R hs) = several T O L R hs := by
  cases h : several T O L R hs
  ·exact decide_eq_false (fun h2 => by rw [m2.1 h2] at h; cases h)
  ·exact decide_eq_true (m2.2 h)
 have hmore := more_several hS hC
 obtain ⟨k, rfl⟩ : ∃ z, k = z + 2 := ⟨k - 2, by omega⟩
 have go : ∀ won, (manyOf T O L R hs = 1 → won = wonOf T O L R hs) → saronlaw06_KernelOne.j1 (k + 1) hs (manyOf T O L R hs) won (hs.map (fillOf T O R hs)) (((hs.map (fillOf T O R hs)).length : Int) != (hs.length : Int)) T O L R = some true := fun won hwon => by
  simp only [saronlaw06_KernelOne.j1]
  rw [if_neg (by simp)]
  exact one_l0 T O L R hs hS hH hC _ _ _ rfl (by omega) hsev hwon L.toNat k 0 false (Nat.sub_zero _) (by omega) (by rw [Bool.false_or]; exact hmore) (by omega)
 rw [e1, e3, if_pos rfl, sound_f T O L R hR (k + 2) (by omega), Option.bind_some, hS]
 by_cases h1 : 1 < manyOf T O L R hs
 ·have e2 : Won T O L R hs = ([], 63) := by
   unfold Won
   rw [if_pos ea, if_pos (show (irange 0 (L / 2 - 1)).any (severalAt T O R hs) = true from m2.1 h1)]
  rw [e2]
  simp only [saronlaw06_KernelOne.j0, Bool.not_true]
  rw [if_neg (by simp), if_neg (by omega), if_neg (by omega), if_pos trivial, if_neg (by
   have : (manyOf T O L R hs == 1) = false := beq_eq_false_iff_ne.2 (by omega)
   rw [this]
   decide), if_pos h1, if_pos trivial, if_pos (by simp)]
  exact go [] (fun h => by omega)
 ·have e2 : Won T O L R hs = (wonOf T O L R hs, 0) := by
   unfold Won
   rw [if_pos ea, if_neg (show ¬ (irange 0 (L / 2 - 1)).any (severalAt T O R hs) = true from fun h => h1 (m2.2 h))]
  rw [e2]
  simp only [saronlaw06_KernelOne.j0, Bool.not_true]
  rw [if_neg (by simp), if_neg (by omega), if_neg (by omega), if_pos trivial, if_neg (by
   have : (manyOf T O L R hs == 1) = true := beq_iff_eq.2 (by omega)
   rw [this]
   decide), if_neg h1]
  exact go _ (fun _ => rfl)
end O
end Go.Proofs.YtagkfkdoibnhfaaDoor.K
end
section
namespace Go.Proofs.YtagkfkdoibnhfaaDoor.H
open Go.RowKit Go.Proofs.YtagkfkdoibnhfaaDoorW.PrintWords Go.Proofs.YtagkfkdoibnhfaaDoorW.PrintLast Go.Proofs.YtagkfkdoibnhfaaDoorW.PrintMore
attribute [local go_sem] max2_int min2_int max_two min_two max_three min_three max_four min_four   -- for this text's walks alone
set_option linter.unusedVariables false
set_option linter.unusedSimpArgs false
open Go.Proofs.YtagkfkdoibnhfaaDoor.K
def saronlaw06_KernelOne.T15 : Bool × List (List Nat × List Nat) := (true, [([], []), ([0], [0]), ([1], [1]), ([2], [2]), ([3, 2], [2, 3]), ([4, 2], [2, 4]), ([2, 5], [2, 5]), ([6, 2], [6]), ([7], [7]), ([8, 7], [7, 8]), ([9, 7, 7], [7, 9]), ([10], [10]), ([11, 10], [10, 11]), ([12, 10], [10, 12]), ([13, 10, 10], [10, 13]), ([14], [14]), ([15, 14], [14, 15]), ([14], [14]), ([17, 14], [14, 17]), ([16, 18, 14], [14, 16, 18]), ([14, 19, 10], [10, 14, 19]), ([20, 14, 10], [10, 20]), ([21], [21]), ([22, 21], [21, 22]), ([23, 21], [21, 23]), ([21], [21]), ([21], [21]), ([25, 26, 21], [21, 25, 26]), ([27, 21], [21, 27]), ([24, 28, 21], [21, 24, 28]), ([21, 29, 10], [10, 21, 29]), ([10, 30, 7], [7, 10, 30]), ([7, 31], [7, 31])])
def saronlaw06_KernelOne.B15 : List Nat := [0, 1, 3, 7, 15, 31, 63, 127, 255, 511, 1023, 2047, 4095, 8191, 16383, 32767, 65535, 32767, 163839, 524287, 1048575, 2097151, 4194303, 8388607, 16777215, 4194303, 4194303, 104857599, 239075327, 536870911, 1073741823, 2147483647, 4294967295]
theorem saronlaw06_KernelOne.tab15 : rtab .any (opsOf Tryd.f13 15) = saronlaw06_KernelOne.T15 := by kernel_rfl
theorem saronlaw06_KernelOne.bits15 : waitsOk saronlaw06_KernelOne.T15.2 saronlaw06_KernelOne.B15 = true := by kernel_rfl
def saronlaw06_KernelOne.T21 : Bool × List (List Nat × List Nat) := (true, [([], []), ([], []), ([], []), ([], []), ([2, 3], [2, 3]), ([4], [4]), ([5], [5]), ([0, 1, 6], [0, 1, 6]), ([7], [7]), ([8], [8]), ([8], [8]), ([9, 7, 0, 1, 2, 3, 4, 5, 6, 7, 8, 9], [9]), ([10, 11, 0, 1, 2, 3, 4, 5, 6, 7, 8, 9, 10, 11], [10])])
def saronlaw06_KernelOne.B21 : List Nat := [0, 0, 0, 0, 12, 28, 60, 127, 255, 511, 511, 1023, 4095]
theorem saronlaw06_KernelOne.tab21 : rtab .any (opsOf Tryd.f13 21) = saronlaw06_KernelOne.T21 := by kernel_rfl
theorem saronlaw06_KernelOne.bits21 : waitsOk saronlaw06_KernelOne.T21.2 saronlaw06_KernelOne.B21 = true := by kernel_rfl
set_option maxHeartbeats 8000000 in
set_option maxRecDepth 100000 in
theorem saronlaw06_KernelOne.calls (k : Nat) (a0_0 : Int) (a0_1 : Int) (a0_2 : Int) (A0_3 : Option Addr) (c0_3 : Nat) (l0_3 : List (S66)) (A1 : Option Addr) (c1 : Nat) (l1 : List (S60)) (r : Bool) (w : World) (hr0_3 : Kd.C k66 w A0_3 l0_3.length l0_3) (hc0_3 : l0_3.length ≤ c0_3) (hr1 : Kd.C k60 w A1 l1.length l1) (hc1 : l1.length ≤ c1) (hG : Glob w) (h : saronlaw06_KernelOne.f k a0_0 a0_1 a0_2 l0_3 l1 = some r) :
  Calls Tryd.prog 13 #[.agg #[.int .i64 a0_0, .int .i64 a0_1, .int .i64 a0_2, .slice A0_3 l0_3.length c0_3], .slice A1 l1.length c1] w fun e w' => e = .returned (.bool r) ∧ Below w.heap.size w w' := by
 have hu24 := Tryd.underlying24
 have HG := zh hG
 clear hG
 have HR0_3 := zh hr0_3
 have HC0_3 := zh hc0_3
 clear hr0_3 hc0_3
 have HR1 := zh hr1
 have HC1 := zh hc1
 clear hr1 hc1
 have HB := zh (Below.refl w.heap.size w)
 have H : ((kernel_Many.f a0_0 a0_1 a0_2 l0_3 l1).bind fun bt815 => ((kernel_Won.f a0_0 a0_1 a0_2 l0_3 l1).bind fun bt817 => ((kernel_Filled.f a0_0 a0_1 a0_2 l0_3 l1).bind fun bt821 => (if bt815.2 = 0 then ((saronlaw06_sound.f k a0_0 a0_1 a0_2 l0_3).bind fun t825 => (saronlaw06_KernelOne.j0 k l1 bt815.1 bt815.2 bt817.1 bt817.2 bt821.1 bt821.2 (!t825) a0_0 a0_1 a0_2 l0_3)) else (saronlaw06_KernelOne.j0 k l1 bt815.1 bt815.2 bt817.1 bt817.2 bt821.1 bt821.2 true a0_0 a0_1 a0_2 l0_3))))) = some r := h
 clear h
 replace H := Option.bind_eq_some_iff.mp H
 obtain ⟨⟨t815, t816⟩, A30, H⟩ := H
 replace H : ((kernel_Won.f a0_0 a0_1 a0_2 l0_3 l1).bind fun bt817 => ((kernel_Filled.f a0_0 a0_1 a0_2 l0_3 l1).bind fun bt821 => (if t816 = 0 then ((saronlaw06_sound.f k a0_0 a0_1 a0_2 l0_3).bind fun t825 => (saronlaw06_KernelOne.j0 k l1 t815 t816 bt817.1 bt817.2 bt821.1 bt821.2 (!t825) a0_0 a0_1 a0_2 l0_3)) else (saronlaw06_KernelOne.j0 k l1 t815 t816 bt817.1 bt817.2 bt821.1 bt821.2 true a0_0 a0_1 a0_2 l0_3)))) = some r := H
 have A3 := zh A30
 clear A30
 replace H := Option.bind_eq_some_iff.mp H
 obtain ⟨⟨t817, t820⟩, A40, H⟩ := H
 replace H : ((kernel_Filled.f a0_0 a0_1 a0_2 l0_3 l1).bind fun bt821 => (if t816 = 0 then ((saronlaw06_sound.f k a0_0 a0_1 a0_2 l0_3).bind fun t825 => (saronlaw06_KernelOne.j0 k l1 t815 t816 t817 t820 bt821.1 bt821.2 (!t825) a0_0 a0_1 a0_2 l0_3)) else (saronlaw06_KernelOne.j0 k l1 t815 t816 t817 t820 bt821.1 bt821.2 true a0_0 a0_1 a0_2 l0_3))) = some r := H
 have A4 := zh A40
 clear A40
 replace H := Option.bind_eq_some_iff.mp H
 obtain ⟨⟨t821, t824⟩, A50, H⟩ := H
 replace H : (if t816 = 0 then ((saronlaw06_sound.f k a0_0 a0_1 a0_2 l0_3).bind fun t825 => (saronlaw06_KernelOne.j0 k l1 t815 t816 t817 t820 t821 t824 (!t825) a0_0 a0_1 a0_2 l0_3)) else (saronlaw06_KernelOne.j0 k l1 t815 t816 t817 t820 t821 t824 true a0_0 a0_1 a0_2 l0_3)) = some r := H
 have A5 := zh A50
 clear A50
 have HC6 := zh H
 clear H
 go_enter Tryd.func13, Tryd.ntmps13
 go_upto_region 4 with (first | ((with_reducible refine gate_dst (N := 2) rfl ?_); (try (refine gate_guard (by rfl) ?_; dsimp only)); refine box_event ?hg (N := 2) ?hd (cs := #[.int .i64 a0_0, .int .i64 a0_1, .int .i64 a0_2, .slice A0_3 l0_3.length c0_3]) (t := 24) ?hr ?_; (case hd => rfl); (case hg => rfl); (case hr => first | (go_simp; done) | (go_simp; rfl)); intro gb814 hg w7 hbox hb; have n0_ := zh (below_step zb hb); have n1_ := zh (hbox); have n2_ := zh ((by rw [hg]; exact (below_size zb) : w.heap.size ≤ gb814)); have n3_ := zh ((by rw [hg]; exact (below_size zb) : w.heap.size ≤ gb814)); clear HB; have HB := n0_; have BK814 := n1_; have GW814 := n2_; have GE814 := n3_; clear n0_ n1_ n2_ n3_; clear hb hbox hg; have hcz8_0 : w7.cell? ⟨gb814, 0, none⟩ = some (.int .i64 a0_0) := vb BK814 0; have hcz8_1 : w7.cell? ⟨gb814, 1, none⟩ = some (.int .i64 a0_1) := vb BK814 1; have hcz8_2 : w7.cell? ⟨gb814, 2, none⟩ = some (.int .i64 a0_2) := vb BK814 2; have hcz8_3 : w7.cell? ⟨gb814, 3, none⟩ = some (.slice A0_3 l0_3.length c0_3) := vb BK814 3; have hfz8_0 := blk_frozen BK814.out 0; have hfz8_1 := blk_frozen BK814.out 1; have hfz8_2 := blk_frozen BK814.out 2; have hfz8_3 := blk_frozen BK814.out 3) | ((with_reducible refine gate_callee (f := 22) rfl ?_); refine goesL_ (some 21) rfl rfl Tryd.func22 zk rfl #[.agg #[.int .i64 a0_0, .int .i64 a0_1, .int .i64 a0_2, .slice A0_3 l0_3.length c0_3], .slice A1 l1.length c1] rfl zm ?_; (with_reducible refine (kernel_Many.calls a0_0 a0_1 a0_2 _ _ l0_3 _ _ l1 t815 t816 _ ?side1 ?side2 ?side3 ?side4 ?side5 A3.out).mono ?_); (case side1 => repeat (first | exact (Kd.C_below HR0_3.out HB.out) | (with_reducible refine Kd.C_alloc ?_ _) | (with_reducible refine Kd.C_drewN ?_ _) | (with_reducible refine Kd.C_drew ?_))); (case side2 => exact HC0_3.out); (case side3 => repeat (first | exact (Kd.C_below HR1.out HB.out) | (with_reducible refine Kd.C_alloc ?_ _) | (with_reducible refine Kd.C_drewN ?_ _) | (with_reducible refine Kd.C_drew ?_))); (case side4 => exact HC1.out); (case side5 => exact Glob.below HG.out zb); rintro e w9 ⟨rfl, hb⟩; refine ⟨_, rfl, ?_⟩; have n0_ := zh (blk_below (g := gb814) (o := .cells #[.int .i64 a0_0, .int .i64 a0_1, .int .i64 a0_2, .slice A0_3 l0_3.length c0_3] 24 (0, 0)) (zc BK814) hb); have n1_ := zh (below_step zb hb); clear BK814; clear HB; have BK814 := n0_; have HB := n1_; clear n0_ n1_; (try clear hb); (try clear hb2); (try clear hk); (try clear hi); have hcz10_0 : w9.cell? ⟨gb814, 0, none⟩ = some (.int .i64 a0_0) := vb BK814 0; have hcz10_1 : w9.cell? ⟨gb814, 1, none⟩ = some (.int .i64 a0_1) := vb BK814 1; have hcz10_2 : w9.cell? ⟨gb814, 2, none⟩ = some (.int .i64 a0_2) := vb BK814 2; have hcz10_3 : w9.cell? ⟨gb814, 3, none⟩ = some (.slice A0_3 l0_3.length c0_3) := vb BK814 3; have hfz10_0 := blk_frozen BK814.out 0; have hfz10_1 := blk_frozen BK814.out 1; have hfz10_2 := blk_frozen BK814.out 2; have hfz10_3 := blk_frozen BK814.out 3) | ((with_reducible refine gate_callee (f := 26) rfl ?_); refine goesL_ (some 27) rfl rfl Tryd.func26 zk rfl #[.agg #[.int .i64 a0_0, .int .i64 a0_1, .int .i64 a0_2, .slice A0_3 l0_3.length c0_3], .slice A1 l1.length c1] rfl zm ?_; (with_reducible refine (kernel_Won.calls a0_0 a0_1 a0_2 _ _ l0_3 _ _ l1 t817 t820 _ ?side1 ?side2 ?side3 ?side4 ?side5 A4.out).mono ?_); (case side1 => repeat (first | exact (Kd.C_below HR0_3.out HB.out) | (with_reducible refine Kd.C_alloc ?_ _) | (with_reducible refine Kd.C_drewN ?_ _) | (with_reducible refine Kd.C_drew ?_))); (case side2 => exact HC0_3.out); (case side3 => repeat (first | exact (Kd.C_below HR1.out HB.out) | (with_reducible refine Kd.C_alloc ?_ _) | (with_reducible refine Kd.C_drewN ?_ _) | (with_reducible refine Kd.C_drew ?_))); (case side4 => exact HC1.out); (case side5 => exact Glob.below HG.out zb); rintro e w11 ⟨v818, rfl, ho0, hb⟩; refine ⟨_, rfl, ?_⟩; have n0_ := zh (Kd.V_lower (Kd.V_mono (ok' := fun k_ => k_ ≠ gb814) ho0 (fun k_ hk_ => (Kd.freshB (g := gb814) (o := .cells #[.int .i64 a0_0, .int .i64 a0_1, .int .i64 a0_2, .slice A0_3 l0_3.length c0_3] 24 (0, 0)) (zc BK814) k_ hk_))) (below_size zb)); have n1_ := zh (blk_below (g := gb814) (o := .cells #[.int .i64 a0_0, .int .i64 a0_1, .int .i64 a0_2, .slice A0_3 l0_3.length c0_3] 24 (0, 0)) (zc BK814) hb); have n2_ := zh (below_step zb hb); clear BK814; clear HB; have HO819 := n0_; have BK814 := n1_; have HB := n2_; clear n0_ n1_ n2_; (try clear hb); (try clear hb2); (try clear hk); (try clear hi); (try clear ho0); have hcz12_0 : w11.cell? ⟨gb814, 0, none⟩ = some (.int .i64 a0_0) := vb BK814 0; have hcz12_1 : w11.cell? ⟨gb814, 1, none⟩ = some (.int .i64 a0_1) := vb BK814 1; have hcz12_2 : w11.cell? ⟨gb814, 2, none⟩ = some (.int .i64 a0_2) := vb BK814 2; have hcz12_3 : w11.cell? ⟨gb814, 3, none⟩ = some (.slice A0_3 l0_3.length c0_3) := vb BK814 3; have hfz12_0 := blk_frozen BK814.out 0; have hfz12_1 := blk_frozen BK814.out 1; have hfz12_2 := blk_frozen BK814.out 2; have hfz12_3 := blk_frozen BK814.out 3) | ((with_reducible refine gate_callee (f := 28) rfl ?_); refine goesL_ (some 33) rfl rfl Tryd.func28 zk rfl #[.agg #[.int .i64 a0_0, .int .i64 a0_1, .int .i64 a0_2, .slice A0_3 l0_3.length c0_3], .slice A1 l1.length c1] rfl zm ?_; (with_reducible refine (kernel_Filled.calls a0_0 a0_1 a0_2 _ _ l0_3 _ _ l1 t821 t824 _ ?side1 ?side2 ?side3 ?side4 ?side5 A5.out).mono ?_); (case side1 => repeat (first | exact (Kd.C_below HR0_3.out HB.out) | (with_reducible refine Kd.C_alloc ?_ _) | (with_reducible refine Kd.C_drewN ?_ _) | (with_reducible refine Kd.C_drew ?_))); (case side2 => exact HC0_3.out); (case side3 => repeat (first | exact (Kd.C_below HR1.out HB.out) | (with_reducible refine Kd.C_alloc ?_ _) | (with_reducible refine Kd.C_drewN ?_ _) | (with_reducible refine Kd.C_drew ?_))); (case side4 => exact HC1.out); (case side5 => exact Glob.below HG.out zb); rintro e w13 ⟨v822, rfl, ho0, hb⟩; refine ⟨_, rfl, ?_⟩; have n0_ := zh (Kd.V_below (zV HO819) hb); have n1_ := zh (Kd.V_lower (Kd.V_mono (ok' := fun k_ => k_ ≠ gb814) ho0 (fun k_ hk_ => (Kd.freshB (g := gb814) (o := .cells #[.int .i64 a0_0, .int .i64 a0_1, .int .i64 a0_2, .slice A0_3 l0_3.length c0_3] 24 (0, 0)) (zc BK814) k_ hk_))) (below_size zb)); have n2_ := zh (blk_below (g := gb814) (o := .cells #[.int .i64 a0_0, .int .i64 a0_1, .int .i64 a0_2, .slice A0_3 l0_3.length c0_3] 24 (0, 0)) (zc BK814) hb); have n3_ := zh (below_step zb hb); clear HO819; clear BK814; clear HB; have HO819 := n0_; have HO823 := n1_; have BK814 := n2_; have HB := n3_; clear n0_ n1_ n2_ n3_; (try clear hb); (try clear hb2); (try clear hk); (try clear hi); (try clear ho0)))
 (try simp only [Act.put, List.setIfInBounds_toArray, List.set_cons_zero, List.set_cons_succ])
 go_cut [42] (fun v42 wc => ∃ (kq : Nat) (x42_5 : Bool), v42 = .bool x42_5 ∧ Aside0 (saronlaw06_KernelOne.j0 kq l1 t815 t816 t817 t820 t821 t824 x42_5 a0_0 a0_1 a0_2 l0_3 = some r) ∧ Aside0 (kq ≤ k) ∧ Aside0 (Kd.V (Kd.int .i64) 3 wc w.heap.size (fun k_ => k_ ≠ gb814) v818 t817) ∧ Aside0 (Kd.V (Kd.slice 3 (Kd.int .i64)) 25 wc w.heap.size (fun k_ => k_ ≠ gb814) v822 t821) ∧ Aside0 (wc.heap[gb814]? = some (.cells #[.int .i64 a0_0, .int .i64 a0_1, .int .i64 a0_2, (.slice A0_3 l0_3.length c0_3)] 24 (0, 0))) ∧ Aside0 (Below w.heap.size w wc))
 case first =>
  have H := HC6.out
  clear HC6
  by_cases c14 : t816 = 0
  ·rw [if_pos c14] at H
   have c14b0 : (t816 == 0) = true := beq_iff_eq.mpr c14
   have c14b1 : (t816 != 0) = false := bne_eq_false_iff_eq.mpr c14
   clear c14
   (first | rw [c14b0] | (simp only [i64_w, i32_w]; rw [c14b0]) | skip)
   replace H := Option.bind_eq_some_iff.mp H
   obtain ⟨t825, A150, H⟩ := H
   replace H : (saronlaw06_KernelOne.j0 k l1 t815 t816 t817 t820 t821 t824 (!t825) a0_0 a0_1 a0_2 l0_3) = some r := H
   have A15 := zh A150
   clear A150
   have H' := zh H
   clear H
   have hcz16_0 : w13.cell? ⟨gb814, 0, none⟩ = some (.int .i64 a0_0) := vb BK814 0
   have hcz16_1 : w13.cell? ⟨gb814, 1, none⟩ = some (.int .i64 a0_1) := vb BK814 1
   have hcz16_2 : w13.cell? ⟨gb814, 2, none⟩ = some (.int .i64 a0_2) := vb BK814 2
   have hcz16_3 : w13.cell? ⟨gb814, 3, none⟩ = some (.slice A0_3 l0_3.length c0_3) := vb BK814 3
   have hfz16_0 := blk_frozen BK814.out 0
   have hfz16_1 := blk_frozen BK814.out 1
   have hfz16_2 := blk_frozen BK814.out 2
   have hfz16_3 := blk_frozen BK814.out 3
   go_wp2_with (first | (go_at_call 39; (with_reducible refine (saronlaw06_sound.calls k a0_0 a0_1 a0_2 _ _ l0_3 t825 _ ?side1 ?side2 A15.out).mono ?_); (case side1 => repeat (first | exact (Kd.C_below HR0_3.out HB.out) | (with_reducible refine Kd.C_alloc ?_ _) | (with_reducible refine Kd.C_drewN ?_ _) | (with_reducible refine Kd.C_drew ?_))); (case side2 => exact HC0_3.out); rintro e w17 ⟨rfl, hb⟩; have n0_ := zh (Kd.V_below (zV HO819) hb); have n1_ := zh (Kd.V_below (zV HO823) hb); have n2_ := zh (blk_below (g := gb814) (o := .cells #[.int .i64 a0_0, .int .i64 a0_1, .int .i64 a0_2, .slice A0_3 l0_3.length c0_3] 24 (0, 0)) (zc BK814) hb); have n3_ := zh (below_step zb hb); clear HO819; clear HO823; clear BK814; clear HB; have HO819 := n0_; have HO823 := n1_; have BK814 := n2_; have HB := n3_; clear n0_ n1_ n2_ n3_; (try clear hb); (try clear hb2); (try clear hk); (try clear hi)))
   go_meet
   case rel => exact ⟨_, (!t825), ze, H', ⟨zo1⟩, ⟨zV HO819⟩, ⟨zV HO823⟩, ⟨zc BK814⟩, ⟨zb⟩⟩
  ·rw [if_neg c14] at H
   have c14b0 : (t816 == 0) = false := beq_eq_false_iff_ne.mpr c14
   have c14b1 : (t816 != 0) = true := bne_iff_ne.mpr c14
   (first | rw [c14b0] | (simp only [i64_w, i32_w]; rw [c14b0]) | skip)
   have H' := zh H
   clear H
   go_wp2
   go_meet
   case rel => exact ⟨_, (true), ze, H', ⟨zo1⟩, ⟨zV HO819⟩, ⟨zV HO823⟩, ⟨zc BK814⟩, ⟨zb⟩⟩
 case rest =>
  as_aux_lemma =>
   clear HC6
   try clear c1
   try clear c2
   try clear p2
   try clear c13
   try clear c14
   try clear c14b0
   try clear c14b1
   try clear hcz10_0
   try clear hcz10_1
   try clear hcz10_2
   try clear hcz10_3
   try clear hcz12_0
   try clear hcz12_1
   try clear hcz12_2
   try clear hcz12_3
   try clear hcz16_0
   try clear hcz16_1
   try clear hcz16_2
   try clear hcz16_3
   try clear hcz8_0
   try clear hcz8_1
   try clear hcz8_2
   try clear hcz8_3
   try clear hfz10_0
   try clear hfz10_1
   try clear hfz10_2
   try clear hfz10_3
   try clear hfz12_0
   try clear hfz12_1
   try clear hfz12_2
   try clear hfz12_3
   try clear hfz16_0
   try clear hfz16_1
   try clear hfz16_2
   try clear hfz16_3
   try clear hfz8_0
   try clear hfz8_1
   try clear hfz8_2
   try clear hfz8_3
   obtain ⟨kq, x42_5, rfl, HA, HJ5, HO_7, HO_9, BK814, HB⟩ := hcut
   cases kq with
   | zero => exact absurd HA.out (by simp [saronlaw06_KernelOne.j0])
   | succ kj5 =>
    have H := HA.out
    clear HA
    simp only [saronlaw06_KernelOne.j0] at H
    by_cases c18 : x42_5 = true
    ·subst c18
     have H1 : (if t820 = t816 then (if t824 = t816 then (if t816 = 60 then (if t815 = 0 then (if (wrap64 ((t817.length : Int) + (t821.length : Int))) = 0 then ((saronlaw06_works.f).bind fun t826 => (some t826)) else (some false)) else (some false)) else (if t816 = 61 then (if t815 = 0 then (if (wrap64 ((t817.length : Int) + (t821.length : Int))) = 0 then ((saronlaw06_works.f).bind fun t827 => (some t827)) else (some false)) else (some false)) else (some false))) else (some false)) else (some false)) = some r := by rw [if_pos rfl] at H; exact H
     clear H
     have H := H1
     clear H1
     by_cases c19 : t820 = t816
     ·rw [if_pos c19] at H
      have c19b0 : (t820 == t816) = true := beq_iff_eq.mpr c19
      have c19b1 : (t820 != t816) = false := bne_eq_false_iff_eq.mpr c19
      clear c19
      by_cases c20 : t824 = t816
      ·rw [if_pos c20] at H
       have c20b0 : (t824 == t816) = true := beq_iff_eq.mpr c20
       have c20b1 : (t824 != t816) = false := bne_eq_false_iff_eq.mpr c20
       clear c20
       by_cases c21 : t816 = 60
       ·rw [if_pos c21] at H
        have c21b0 : (t816 == 60) = true := beq_iff_eq.mpr c21
        have c21b1 : (t816 != 60) = false := bne_eq_false_iff_eq.mpr c21
        clear c21
        by_cases c22 : t815 = 0
        ·rw [if_pos c22] at H
         have c22b0 : (t815 == 0) = true := beq_iff_eq.mpr c22
         have c22b1 : (t815 != 0) = false := bne_eq_false_iff_eq.mpr c22
         clear c22
         by_cases c23 : (wrap64 ((t817.length : Int) + (t821.length : Int))) = 0
         ·rw [if_pos c23] at H
          have c23b0 : ((wrap64 ((t817.length : Int) + (t821.length : Int))) == 0) = true := beq_iff_eq.mpr c23
          have c23b1 : ((wrap64 ((t817.length : Int) + (t821.length : Int))) != 0) = false := bne_eq_false_iff_eq.mpr c23
          clear c23
          replace H := Option.bind_eq_some_iff.mp H
          obtain ⟨t826, A240, H⟩ := H
          replace H : (some t826) = some r := H
          have A24 := zh A240
          clear A240
          obtain rfl := Option.some.inj H
          obtain ⟨Ao25, co25, eo25⟩ := Kd.V_slice HO_7.out
          subst eo25
          obtain ⟨Ao26, co26, eo26⟩ := Kd.V_slice HO_9.out
          subst eo26
          go_wp2_with (first | (go_at_call 21; (with_reducible refine (saronlaw06_works.calls  t826 _ ?side1 A24.out).mono ?_); (case side1 => exact Glob.below HG.out zb); rintro e w27 ⟨rfl, hb⟩; have n0_ := zh (Kd.V_below (zV HO_7) hb); have n1_ := zh (Kd.V_below (zV HO_9) hb); have n2_ := zh (blk_below (g := gb814) (o := .cells #[.int .i64 a0_0, .int .i64 a0_1, .int .i64 a0_2, .slice A0_3 l0_3.length c0_3] 24 (0, 0)) (zc BK814) hb); have n3_ := zh (below_step zb hb); clear HO_7; clear HO_9; clear BK814; clear HB; have HO_7 := n0_; have HO_9 := n1_; have BK814 := n2_; have HB := n3_; clear n0_ n1_ n2_ n3_; (try clear hb); (try clear hb2); (try clear hk); (try clear hi)))
          go_ret
          exact ⟨zf, zb⟩
         ·rw [if_neg c23] at H
          have c23b0 : ((wrap64 ((t817.length : Int) + (t821.length : Int))) == 0) = false := beq_eq_false_iff_ne.mpr c23
          have c23b1 : ((wrap64 ((t817.length : Int) + (t821.length : Int))) != 0) = true := bne_iff_ne.mpr c23
          obtain rfl := Option.some.inj H
          obtain ⟨Ao28, co28, eo28⟩ := Kd.V_slice HO_7.out
          subst eo28
          obtain ⟨Ao29, co29, eo29⟩ := Kd.V_slice HO_9.out
          subst eo29
          go_wp2
          go_ret
          exact ⟨zf, zb⟩
        ·rw [if_neg c22] at H
         have c22b0 : (t815 == 0) = false := beq_eq_false_iff_ne.mpr c22
         have c22b1 : (t815 != 0) = true := bne_iff_ne.mpr c22
         obtain rfl := Option.some.inj H
         go_wp2
         go_ret
         exact ⟨zf, zb⟩
       ·rw [if_neg c21] at H
        have c21b0 : (t816 == 60) = false := beq_eq_false_iff_ne.mpr c21
        have c21b1 : (t816 != 60) = true := bne_iff_ne.mpr c21
        by_cases c30 : t816 = 61
        ·rw [if_pos c30] at H
         have c30b0 : (t816 == 61) = true := beq_iff_eq.mpr c30
         have c30b1 : (t816 != 61) = false := bne_eq_false_iff_eq.mpr c30
         clear c30
         by_cases c31 : t815 = 0
         ·rw [if_pos c31] at H
          have c31b0 : (t815 == 0) = true := beq_iff_eq.mpr c31
          have c31b1 : (t815 != 0) = false := bne_eq_false_iff_eq.mpr c31
          clear c31
          by_cases c32 : (wrap64 ((t817.length : Int) + (t821.length : Int))) = 0
          ·rw [if_pos c32] at H
           have c32b0 : ((wrap64 ((t817.length : Int) + (t821.length : Int))) == 0) = true := beq_iff_eq.mpr c32
           have c32b1 : ((wrap64 ((t817.length : Int) + (t821.length : Int))) != 0) = false := bne_eq_false_iff_eq.mpr c32
           clear c32
           replace H := Option.bind_eq_some_iff.mp H
           obtain ⟨t827, A330, H⟩ := H
           replace H : (some t827) = some r := H
           have A33 := zh A330
           clear A330
           obtain rfl := Option.some.inj H
           obtain ⟨Ao34, co34, eo34⟩ := Kd.V_slice HO_7.out
           subst eo34
           obtain ⟨Ao35, co35, eo35⟩ := Kd.V_slice HO_9.out
           subst eo35
           go_wp2_with (first | (go_at_call 21; (with_reducible refine (saronlaw06_works.calls  t827 _ ?side1 A33.out).mono ?_); (case side1 => exact Glob.below HG.out zb); rintro e w36 ⟨rfl, hb⟩; have n0_ := zh (Kd.V_below (zV HO_7) hb); have n1_ := zh (Kd.V_below (zV HO_9) hb); have n2_ := zh (blk_below (g := gb814) (o := .cells #[.int .i64 a0_0, .int .i64 a0_1, .int .i64 a0_2, .slice A0_3 l0_3.length c0_3] 24 (0, 0)) (zc BK814) hb); have n3_ := zh (below_step zb hb); clear HO_7; clear HO_9; clear BK814; clear HB; have HO_7 := n0_; have HO_9 := n1_; have BK814 := n2_; have HB := n3_; clear n0_ n1_ n2_ n3_; (try clear hb); (try clear hb2); (try clear hk); (try clear hi)))
           go_ret
           exact ⟨zf, zb⟩
          ·rw [if_neg c32] at H
           have c32b0 : ((wrap64 ((t817.length : Int) + (t821.length : Int))) == 0) = false := beq_eq_false_iff_ne.mpr c32
           have c32b1 : ((wrap64 ((t817.length : Int) + (t821.length : Int))) != 0) = true := bne_iff_ne.mpr c32
           obtain rfl := Option.some.inj H
           obtain ⟨Ao37, co37, eo37⟩ := Kd.V_slice HO_7.out
           subst eo37
           obtain ⟨Ao38, co38, eo38⟩ := Kd.V_slice HO_9.out
           subst eo38
           go_wp2
           go_ret
           exact ⟨zf, zb⟩
         ·rw [if_neg c31] at H
          have c31b0 : (t815 == 0) = false := beq_eq_false_iff_ne.mpr c31
          have c31b1 : (t815 != 0) = true := bne_iff_ne.mpr c31
          obtain rfl := Option.some.inj H
          go_wp2
          go_ret
          exact ⟨zf, zb⟩
        ·rw [if_neg c30] at H
         have c30b0 : (t816 == 61) = false := beq_eq_false_iff_ne.mpr c30
         have c30b1 : (t816 != 61) = true := bne_iff_ne.mpr c30
         obtain rfl := Option.some.inj H
         go_wp2
         go_ret
         exact ⟨zf, zb⟩
      ·rw [if_neg c20] at H
       have c20b0 : (t824 == t816) = false := beq_eq_false_iff_ne.mpr c20
       have c20b1 : (t824 != t816) = true := bne_iff_ne.mpr c20
       obtain rfl := Option.some.inj H
       go_wp2
       go_ret
       exact ⟨zf, zb⟩
     ·rw [if_neg c19] at H
      have c19b0 : (t820 == t816) = false := beq_eq_false_iff_ne.mpr c19
      have c19b1 : (t820 != t816) = true := bne_iff_ne.mpr c19
      obtain rfl := Option.some.inj H
      go_wp2
      go_ret
      exact ⟨zf, zb⟩
    ·replace c18 := Bool.eq_false_iff.mpr c18
     subst c18
     have H1 : (if t815 = 0 then (if t820 = 62 then (if t824 = t820 then (if (wrap64 ((t817.length : Int) + (t821.length : Int))) = 0 then ((saronlaw06_works.f).bind fun t828 => (some t828)) else (some false)) else (some false)) else (some false)) else (if t815 < 0 then (saronlaw06_KernelOne.j1 kj5 l1 t815 t817 t821 true a0_0 a0_1 a0_2 l0_3) else (if t824 = 0 then (if ((t820 == 0) != (t815 == 1)) = true then (saronlaw06_KernelOne.j1 kj5 l1 t815 t817 t821 true a0_0 a0_1 a0_2 l0_3) else (if t815 > 1 then (if t820 = 63 then (if (t817.length : Int) = 0 then (saronlaw06_KernelOne.j1 kj5 l1 t815 t817 t821 ((t821.length : Int) != (l1.length : Int)) a0_0 a0_1 a0_2 l0_3) else (saronlaw06_KernelOne.j1 kj5 l1 t815 t817 t821 true a0_0 a0_1 a0_2 l0_3)) else (saronlaw06_KernelOne.j1 kj5 l1 t815 t817 t821 true a0_0 a0_1 a0_2 l0_3)) else (saronlaw06_KernelOne.j1 kj5 l1 t815 t817 t821 ((t821.length : Int) != (l1.length : Int)) a0_0 a0_1 a0_2 l0_3))) else (saronlaw06_KernelOne.j1 kj5 l1 t815 t817 t821 true a0_0 a0_1 a0_2 l0_3)))) = some r := by rw [if_neg (show ¬ (false = true) by decide)] at H; exact H
     clear H
     have H := H1
     clear H1
     by_cases c39 : t815 = 0
     ·rw [if_pos c39] at H
      have c39b0 : (t815 == 0) = true := beq_iff_eq.mpr c39
      have c39b1 : (t815 != 0) = false := bne_eq_false_iff_eq.mpr c39
      clear c39
      by_cases c40 : t820 = 62
      ·rw [if_pos c40] at H
       have c40b0 : (t820 == 62) = true := beq_iff_eq.mpr c40
       have c40b1 : (t820 != 62) = false := bne_eq_false_iff_eq.mpr c40
       clear c40
       by_cases c41 : t824 = t820
       ·rw [if_pos c41] at H
        have c41b0 : (t824 == t820) = true := beq_iff_eq.mpr c41
        have c41b1 : (t824 != t820) = false := bne_eq_false_iff_eq.mpr c41
        clear c41
        by_cases c42 : (wrap64 ((t817.length : Int) + (t821.length : Int))) = 0
        ·rw [if_pos c42] at H
         have c42b0 : ((wrap64 ((t817.length : Int) + (t821.length : Int))) == 0) = true := beq_iff_eq.mpr c42
         have c42b1 : ((wrap64 ((t817.length : Int) + (t821.length : Int))) != 0) = false := bne_eq_false_iff_eq.mpr c42
         clear c42
         replace H := Option.bind_eq_some_iff.mp H
         obtain ⟨t828, A430, H⟩ := H
         replace H : (some t828) = some r := H
         have A43 := zh A430
         clear A430
         obtain rfl := Option.some.inj H
         obtain ⟨Ao44, co44, eo44⟩ := Kd.V_slice HO_7.out
         subst eo44
         obtain ⟨Ao45, co45, eo45⟩ := Kd.V_slice HO_9.out
         subst eo45
         go_wp2_with (first | (go_at_call 21; (with_reducible refine (saronlaw06_works.calls  t828 _ ?side1 A43.out).mono ?_); (case side1 => exact Glob.below HG.out zb); rintro e w46 ⟨rfl, hb⟩; have n0_ := zh (Kd.V_below (zV HO_7) hb); have n1_ := zh (Kd.V_below (zV HO_9) hb); have n2_ := zh (blk_below (g := gb814) (o := .cells #[.int .i64 a0_0, .int .i64 a0_1, .int .i64 a0_2, .slice A0_3 l0_3.length c0_3] 24 (0, 0)) (zc BK814) hb); have n3_ := zh (below_step zb hb); clear HO_7; clear HO_9; clear BK814; clear HB; have HO_7 := n0_; have HO_9 := n1_; have BK814 := n2_; have HB := n3_; clear n0_ n1_ n2_ n3_; (try clear hb); (try clear hb2); (try clear hk); (try clear hi)))
         go_ret
         exact ⟨zf, zb⟩
        ·rw [if_neg c42] at H
         have c42b0 : ((wrap64 ((t817.length : Int) + (t821.length : Int))) == 0) = false := beq_eq_false_iff_ne.mpr c42
         have c42b1 : ((wrap64 ((t817.length : Int) + (t821.length : Int))) != 0) = true := bne_iff_ne.mpr c42
         obtain rfl := Option.some.inj H
         obtain ⟨Ao47, co47, eo47⟩ := Kd.V_slice HO_7.out
         subst eo47
         obtain ⟨Ao48, co48, eo48⟩ := Kd.V_slice HO_9.out
         subst eo48
         go_wp2
         go_ret
         exact ⟨zf, zb⟩
       ·rw [if_neg c41] at H
        have c41b0 : (t824 == t820) = false := beq_eq_false_iff_ne.mpr c41
        have c41b1 : (t824 != t820) = true := bne_iff_ne.mpr c41
        obtain rfl := Option.some.inj H
        go_wp2
        go_ret
        exact ⟨zf, zb⟩
      ·rw [if_neg c40] at H
       have c40b0 : (t820 == 62) = false := beq_eq_false_iff_ne.mpr c40
       have c40b1 : (t820 != 62) = true := bne_iff_ne.mpr c40
       obtain rfl := Option.some.inj H
       go_wp2
       go_ret
       exact ⟨zf, zb⟩
     ·rw [if_neg c39] at H
      have c39b0 : (t815 == 0) = false := beq_eq_false_iff_ne.mpr c39
      have c39b1 : (t815 != 0) = true := bne_iff_ne.mpr c39
      have HC49 := zh H
      clear H
      go_upto_region 8 with (fail)
      go_cut [126] (fun v126 wc => ∃ (kq : Nat) (x126_48 : Bool), v126 = .bool x126_48 ∧ Aside0 (saronlaw06_KernelOne.j1 kq l1 t815 t817 t821 x126_48 a0_0 a0_1 a0_2 l0_3 = some r) ∧ Aside0 (kq ≤ kj5) ∧ Aside0 (Kd.V (Kd.int .i64) 3 wc w.heap.size (fun k_ => k_ ≠ gb814) v818 t817) ∧ Aside0 (Kd.V (Kd.slice 3 (Kd.int .i64)) 25 wc w.heap.size (fun k_ => k_ ≠ gb814) v822 t821) ∧ Aside0 (wc.heap[gb814]? = some (.cells #[.int .i64 a0_0, .int .i64 a0_1, .int .i64 a0_2, (.slice A0_3 l0_3.length c0_3)] 24 (0, 0))) ∧ Aside0 (Below w.heap.size w wc))
      case first =>
       as_aux_lemma =>
        have H := HC49.out
        clear HC49
        by_cases c50 : t815 < 0
        ·rw [if_pos c50] at H
         have c50b0 : decide (t815 < 0) = true := decide_eq_true c50
         clear c50
         (first | rw [c50b0] | (simp only [i64_w, i32_w]; rw [c50b0]) | skip)
         have H' := zh H
         clear H
         go_wp2
         go_meet
         case rel => exact ⟨_, (true), ze, H', ⟨by have := HJ5.out; first | omega | exact Nat.le_refl _⟩, ⟨zV HO_7⟩, ⟨zV HO_9⟩, ⟨zc BK814⟩, ⟨zb⟩⟩
        ·rw [if_neg c50] at H
         have c50b0 : decide (t815 < 0) = false := decide_eq_false c50
         clear c50
         (first | rw [c50b0] | (simp only [i64_w, i32_w]; rw [c50b0]) | skip)
         by_cases c51 : t824 = 0
         ·rw [if_pos c51] at H
          have c51b0 : (t824 == 0) = true := beq_iff_eq.mpr c51
          have c51b1 : (t824 != 0) = false := bne_eq_false_iff_eq.mpr c51
          clear c51
          by_cases c52 : ((t820 == 0) != (t815 == 1)) = true
          ·rw [if_pos c52] at H
           have c52b0 : ((t820 == 0) != (t815 == 1)) = true := c52
           (try (have c52b1 : decide ((t820 == 0) = (t815 == 1)) = false := by simpa using c52))
           (try (have c52b2 : ((t820 == 0) == (t815 == 1)) = false := by simpa using c52))
           (try (have c52b3 : ¬ ((t820 == 0) = (t815 == 1)) := by simpa using c52))
           clear c52
           have H' := zh H
           clear H
           go_wp2
           go_meet
           case rel => exact ⟨_, (true), ze, H', ⟨by have := HJ5.out; first | omega | exact Nat.le_refl _⟩, ⟨zV HO_7⟩, ⟨zV HO_9⟩, ⟨zc BK814⟩, ⟨zb⟩⟩
          ·rw [if_neg c52] at H
           have c52b0 : ((t820 == 0) != (t815 == 1)) = false := by simpa using c52
           (try (have c52b1 : decide ((t820 == 0) = (t815 == 1)) = true := by simpa using c52))
           (try (have c52b2 : ((t820 == 0) == (t815 == 1)) = true := by simpa using c52))
           clear c52
           by_cases c53 : t815 > 1
           ·rw [if_pos c53] at H
            have c53b0 : decide (1 < t815) = true := decide_eq_true c53
            clear c53
            by_cases c54 : t820 = 63
            ·rw [if_pos c54] at H
             have c54b0 : (t820 == 63) = true := beq_iff_eq.mpr c54
             have c54b1 : (t820 != 63) = false := bne_eq_false_iff_eq.mpr c54
             clear c54
             by_cases c55 : (t817.length : Int) = 0
             ·rw [if_pos c55] at H
              have c55b0 : ((t817.length : Int) == 0) = true := beq_iff_eq.mpr c55
              have c55b1 : ((t817.length : Int) != 0) = false := bne_eq_false_iff_eq.mpr c55
              clear c55
              have H' := zh H
              clear H
              obtain ⟨Ao56, co56, eo56⟩ := Kd.V_slice HO_7.out
              subst eo56
              obtain ⟨Ao57, co57, eo57⟩ := Kd.V_slice HO_9.out
              subst eo57
              go_wp2
              go_meet
              case rel => exact ⟨_, (((t821.length : Int) != (l1.length : Int))), ze, H', ⟨by have := HJ5.out; first | omega | exact Nat.le_refl _⟩, ⟨zV HO_7⟩, ⟨zV HO_9⟩, ⟨zc BK814⟩, ⟨zb⟩⟩
             ·rw [if_neg c55] at H
              have c55b0 : ((t817.length : Int) == 0) = false := beq_eq_false_iff_ne.mpr c55
              have c55b1 : ((t817.length : Int) != 0) = true := bne_iff_ne.mpr c55
              have c55b2 : ¬ (t817 = []) := fun h_ => c55 (by rw [h_]; rfl)
              have H' := zh H
              clear H
              obtain ⟨Ao58, co58, eo58⟩ := Kd.V_slice HO_7.out
              subst eo58
              go_wp2
              go_meet
              case rel => exact ⟨_, (true), ze, H', ⟨by have := HJ5.out; first | omega | exact Nat.le_refl _⟩, ⟨zV HO_7⟩, ⟨zV HO_9⟩, ⟨zc BK814⟩, ⟨zb⟩⟩
            ·rw [if_neg c54] at H
             have c54b0 : (t820 == 63) = false := beq_eq_false_iff_ne.mpr c54
             have c54b1 : (t820 != 63) = true := bne_iff_ne.mpr c54
             have H' := zh H
             clear H
             go_wp2
             go_meet
             case rel => exact ⟨_, (true), ze, H', ⟨by have := HJ5.out; first | omega | exact Nat.le_refl _⟩, ⟨zV HO_7⟩, ⟨zV HO_9⟩, ⟨zc BK814⟩, ⟨zb⟩⟩
           ·rw [if_neg c53] at H
            have c53b0 : decide (1 < t815) = false := decide_eq_false c53
            clear c53
            have H' := zh H
            clear H
            obtain ⟨Ao59, co59, eo59⟩ := Kd.V_slice HO_9.out
            subst eo59
            go_wp2
            go_meet
            case rel => exact ⟨_, (((t821.length : Int) != (l1.length : Int))), ze, H', ⟨by have := HJ5.out; first | omega | exact Nat.le_refl _⟩, ⟨zV HO_7⟩, ⟨zV HO_9⟩, ⟨zc BK814⟩, ⟨zb⟩⟩
         ·rw [if_neg c51] at H
          have c51b0 : (t824 == 0) = false := beq_eq_false_iff_ne.mpr c51
          have c51b1 : (t824 != 0) = true := bne_iff_ne.mpr c51
          have H' := zh H
          clear H
          go_wp2
          go_meet
          case rel => exact ⟨_, (true), ze, H', ⟨by have := HJ5.out; first | omega | exact Nat.le_refl _⟩, ⟨zV HO_7⟩, ⟨zV HO_9⟩, ⟨zc BK814⟩, ⟨zb⟩⟩
      case rest =>
       as_aux_lemma =>
        clear HC49
        try clear c1
        try clear c2
        try clear p2
        try clear c3
        try clear c4
        try clear c5
        try clear p6
        try clear c13
        try clear c14
        try clear c14b0
        try clear c14b1
        try clear c18
        try clear c19
        try clear c19b0
        try clear c19b1
        try clear c20
        try clear c20b0
        try clear c20b1
        try clear c21
        try clear c21b0
        try clear c21b1
        try clear c22
        try clear c22b0
        try clear c22b1
        try clear c23
        try clear c23b0
        try clear c23b1
        try clear c26
        try clear c28
        try clear c30
        try clear c30b0
        try clear c30b1
        try clear c31
        try clear c31b0
        try clear c31b1
        try clear c32
        try clear c32b0
        try clear c32b1
        try clear c39
        try clear c39b0
        try clear c39b1
        try clear c40
        try clear c40b0
        try clear c40b1
        try clear c41
        try clear c41b0
        try clear c41b1
        try clear c42
        try clear c42b0
        try clear c42b1
        try clear c50
        try clear c50b0
        try clear c51
        try clear c51b0
        try clear c51b1
        try clear c52
        try clear c52b0
        try clear c52b1
        try clear c52b2
        try clear c53
        try clear c53b0
        try clear c54
        try clear c54b0
        try clear c54b1
        try clear c55
        try clear c55b0
        try clear c55b1
        try clear c55b2
        try clear hcz10_0
        try clear hcz10_1
        try clear hcz10_2
        try clear hcz10_3
        try clear hcz12_0
        try clear hcz12_1
        try clear hcz12_2
        try clear hcz12_3
        try clear hcz16_0
        try clear hcz16_1
        try clear hcz16_2
        try clear hcz16_3
        try clear hcz8_0
        try clear hcz8_1
        try clear hcz8_2
        try clear hcz8_3
        try clear hfz10_0
        try clear hfz10_1
        try clear hfz10_2
        try clear hfz10_3
        try clear hfz12_0
        try clear hfz12_1
        try clear hfz12_2
        try clear hfz12_3
        try clear hfz16_0
        try clear hfz16_1
        try clear hfz16_2
        try clear hfz16_3
        try clear hfz8_0
        try clear hfz8_1
        try clear hfz8_2
        try clear hfz8_3
        try clear p2
        obtain ⟨kq, x126_48, rfl, HA, HJ48, HO_7, HO_9, BK814, HB⟩ := hcut
        cases kq with
        | zero => exact absurd HA.out (by simp [saronlaw06_KernelOne.j1])
        | succ kj48 =>
         have H := HA.out
         clear HA
         simp only [saronlaw06_KernelOne.j1] at H
         by_cases c60 : x126_48 = true
         ·subst c60
          have H1 : (some false) = some r := by rw [if_pos rfl] at H; exact H
          clear H
          have H := H1
          clear H1
          obtain rfl := Option.some.inj H
          go_wp2
          go_ret
          exact ⟨zf, zb⟩
         ·replace c60 := Bool.eq_false_iff.mpr c60
          subst c60
          have H1 : (saronlaw06_KernelOne.l0 kj48 l1 t815 t817 t821 false 0 a0_0 a0_1 a0_2 l0_3) = some r := by rw [if_neg (show ¬ (false = true) by decide)] at H; exact H
          clear H
          have H := H1
          clear H1
          have H' := zh H
          clear H
          go_wp2
          go_loopg [11, 12] kj48 (fun kq v11 v12 w' => ∃ (x11_3 : Bool) (x12_3 : Int), v11 = .bool x11_3 ∧ v12 = .int .i64 x12_3 ∧ Aside0 (saronlaw06_KernelOne.l0 kq l1 t815 t817 t821 x11_3 x12_3 a0_0 a0_1 a0_2 l0_3 = some r) ∧ Aside0 (kq ≤ kj48) ∧ Aside0 (Kd.V (Kd.int .i64) 3 w' w.heap.size (fun k_ => k_ ≠ gb814) v818 t817) ∧ Aside0 (Kd.V (Kd.slice 3 (Kd.int .i64)) 25 w' w.heap.size (fun k_ => k_ ≠ gb814) v822 t821) ∧ Aside0 (w'.heap[gb814]? = some (.cells #[.int .i64 a0_0, .int .i64 a0_1, .int .i64 a0_2, (.slice A0_3 l0_3.length c0_3)] 24 (0, 0))) ∧ Aside0 (Below w.heap.size w w'))
          case atStart => exact ⟨(false), (0), ze, ze, H', ⟨Nat.le_refl _⟩, ⟨zV HO_7⟩, ⟨zV HO_9⟩, ⟨zc BK814⟩, ⟨zb⟩⟩
          case round =>
           as_aux_lemma =>
            clear H'
            try clear c1
            try clear c2
            try clear p2
            try clear c3
            try clear c4
            try clear c5
            try clear c6
            try clear p6
            try clear c13
            try clear c14
            try clear c14b0
            try clear c14b1
            try clear c18
            try clear c19
            try clear c19b0
            try clear c19b1
            try clear c20
            try clear c20b0
            try clear c20b1
            try clear c21
            try clear c21b0
            try clear c21b1
            try clear c22
            try clear c22b0
            try clear c22b1
            try clear c23
            try clear c23b0
            try clear c23b1
            try clear c26
            try clear c28
            try clear c30
            try clear c30b0
            try clear c30b1
            try clear c31
            try clear c31b0
            try clear c31b1
            try clear c32
            try clear c32b0
            try clear c32b1
            try clear c39
            try clear c39b0
            try clear c39b1
            try clear c40
            try clear c40b0
            try clear c40b1
            try clear c41
            try clear c41b0
            try clear c41b1
            try clear c42
            try clear c42b0
            try clear c42b1
            try clear c50
            try clear c50b0
            try clear c51
            try clear c51b0
            try clear c51b1
            try clear c52
            try clear c52b0
            try clear c52b1
            try clear c52b2
            try clear c53
            try clear c53b0
            try clear c54
            try clear c54b0
            try clear c54b1
            try clear c55
            try clear c55b0
            try clear c55b1
            try clear c55b2
            try clear c60
            try clear hcz10_0
            try clear hcz10_1
            try clear hcz10_2
            try clear hcz10_3
            try clear hcz12_0
            try clear hcz12_1
            try clear hcz12_2
            try clear hcz12_3
            try clear hcz16_0
            try clear hcz16_1
            try clear hcz16_2
            try clear hcz16_3
            try clear hcz8_0
            try clear hcz8_1
            try clear hcz8_2
            try clear hcz8_3
            try clear hfz10_0
            try clear hfz10_1
            try clear hfz10_2
            try clear hfz10_3
            try clear hfz12_0
            try clear hfz12_1
            try clear hfz12_2
            try clear hfz12_3
            try clear hfz16_0
            try clear hfz16_1
            try clear hfz16_2
            try clear hfz16_3
            try clear hfz8_0
            try clear hfz8_1
            try clear hfz8_2
            try clear hfz8_3
            try clear p2
            try clear p6
            obtain ⟨x11_3, x12_3, rfl, rfl, HA, HK3, HO_7, HO_9, BK814, HB⟩ := hrel
            cases gk with
            | zero => exact absurd HA.out (by simp [saronlaw06_KernelOne.l0])
            | succ k3 =>
             have H := HA.out
             clear HA
             simp only [saronlaw06_KernelOne.l0] at H
             by_cases c61 : x12_3 < a0_2
             ·rw [if_pos c61] at H
              have c61b0 : decide (x12_3 < a0_2) = true := decide_eq_true c61
              clear c61
              replace H := Option.bind_eq_some_iff.mp H
              obtain ⟨⟨t829, t832⟩, A620, H⟩ := H
              replace H : (if t832 = 0 then (if (t829.length : Int) = 0 then (some false) else (if t815 = 1 then (if (t829.length : Int) = 1 then (if (t817.length : Int) = a0_2 then (if 0 < (t829.length : Int) then (if 0 ≤ x12_3 then (if x12_3 < (t817.length : Int) then (if (rd t829 0) = (rd t817 x12_3) then (if x11_3 = true then (saronlaw06_KernelOne.l0 k3 l1 t815 t817 t821 true (wrap64 (x12_3 + 1)) a0_0 a0_1 a0_2 l0_3) else (saronlaw06_KernelOne.l0 k3 l1 t815 t817 t821 (decide ((t829.length : Int) > 1)) (wrap64 (x12_3 + 1)) a0_0 a0_1 a0_2 l0_3)) else (some false)) else (none)) else (none)) else (none)) else (some false)) else (some false)) else (if x11_3 = true then (saronlaw06_KernelOne.l0 k3 l1 t815 t817 t821 true (wrap64 (x12_3 + 1)) a0_0 a0_1 a0_2 l0_3) else (saronlaw06_KernelOne.l0 k3 l1 t815 t817 t821 (decide ((t829.length : Int) > 1)) (wrap64 (x12_3 + 1)) a0_0 a0_1 a0_2 l0_3)))) else (some false)) = some r := H
              have A62 := zh A620
              clear A620
              by_cases c63 : t832 = 0
              ·rw [if_pos c63] at H
               have c63b0 : (t832 == 0) = true := beq_iff_eq.mpr c63
               have c63b1 : (t832 != 0) = false := bne_eq_false_iff_eq.mpr c63
               clear c63
               by_cases c64 : (t829.length : Int) = 0
               ·rw [if_pos c64] at H
                have c64b0 : ((t829.length : Int) == 0) = true := beq_iff_eq.mpr c64
                have c64b1 : ((t829.length : Int) != 0) = false := bne_eq_false_iff_eq.mpr c64
                clear c64
                obtain rfl := Option.some.inj H
                have hcz65_0 : wr.cell? ⟨gb814, 0, none⟩ = some (.int .i64 a0_0) := vb BK814 0
                have hcz65_1 : wr.cell? ⟨gb814, 1, none⟩ = some (.int .i64 a0_1) := vb BK814 1
                have hcz65_2 : wr.cell? ⟨gb814, 2, none⟩ = some (.int .i64 a0_2) := vb BK814 2
                have hcz65_3 : wr.cell? ⟨gb814, 3, none⟩ = some (.slice A0_3 l0_3.length c0_3) := vb BK814 3
                have hfz65_0 := blk_frozen BK814.out 0
                have hfz65_1 := blk_frozen BK814.out 1
                have hfz65_2 := blk_frozen BK814.out 2
                have hfz65_3 := blk_frozen BK814.out 3
                try go_wp2_with (first | ((with_reducible refine gate_callee (f := 24) rfl ?_); refine goesL_ (some 137) rfl rfl Tryd.func24 zk rfl #[.agg #[.int .i64 a0_0, .int .i64 a0_1, .int .i64 a0_2, .slice A0_3 l0_3.length c0_3], .slice A1 l1.length c1, .int .i64 x12_3] rfl zm ?_; (with_reducible refine (kernel_Can.calls a0_0 a0_1 a0_2 _ _ l0_3 _ _ l1 x12_3 t829 t832 _ ?side1 ?side2 ?side3 ?side4 ?side5 A62.out).mono ?_); (case side1 => repeat (first | exact (Kd.C_below HR0_3.out HB.out) | (with_reducible refine Kd.C_alloc ?_ _) | (with_reducible refine Kd.C_drewN ?_ _) | (with_reducible refine Kd.C_drew ?_))); (case side2 => exact HC0_3.out); (case side3 => repeat (first | exact (Kd.C_below HR1.out HB.out) | (with_reducible refine Kd.C_alloc ?_ _) | (with_reducible refine Kd.C_drewN ?_ _) | (with_reducible refine Kd.C_drew ?_))); (case side4 => exact HC1.out); (case side5 => exact Glob.below HG.out zb); rintro e w66 ⟨v830, rfl, ho0, hb⟩; refine ⟨_, rfl, ?_⟩; have n0_ := zh (Kd.V_below (zV HO_7) hb); have n1_ := zh (Kd.V_below (zV HO_9) hb); have n2_ := zh (Kd.V_lower (Kd.V_mono (ok' := fun k_ => k_ ≠ gb814) ho0 (fun k_ hk_ => (Kd.freshB (g := gb814) (o := .cells #[.int .i64 a0_0, .int .i64 a0_1, .int .i64 a0_2, .slice A0_3 l0_3.length c0_3] 24 (0, 0)) (zc BK814) k_ hk_))) (below_size zb)); have n3_ := zh (blk_below (g := gb814) (o := .cells #[.int .i64 a0_0, .int .i64 a0_1, .int .i64 a0_2, .slice A0_3 l0_3.length c0_3] 24 (0, 0)) (zc BK814) hb); have n4_ := zh (below_step zb hb); clear HO_7; clear HO_9; clear BK814; clear HB; have HO_7 := n0_; have HO_9 := n1_; have HO831 := n2_; have BK814 := n3_; have HB := n4_; clear n0_ n1_ n2_ n3_ n4_; (try clear hb); (try clear hb2); (try clear hk); (try clear hi); (try clear ho0)))
                replace HO_7 := zh (Kd.V_drew HO_7.out)
                replace HO_9 := zh (Kd.V_drew HO_9.out)
                replace HO831 := zh (Kd.V_drew HO831.out)
                replace BK814 := zh (blk_drew BK814.out)
                replace HB := zh (below_drew1 HB.out)
                obtain ⟨Ao68, co68, eo68⟩ := Kd.V_slice HO831.out
                (first | subst eo68 | (injection eo68 with f1_ f2_ f3_; have f4_ := f1_.symm; have f5_ := f3_.symm; clear f1_ f2_ f3_; subst f4_; subst f5_))
                refine start_ (n := 33) (S := fun w' => True) (ds := []) (Array.replicate 33 false) zk rfl rfl trivial (fun hHeld => ?_); refine with_tabW saronlaw06_KernelOne.tab15 saronlaw06_KernelOne.bits15 (fun HT_ HW_ => ?_)
                generalize w66.drew = w67 at HO_7 HO_9 HO831 BK814 HB hHeld ⊢
                refine zu 0 ?_
                refine zu 1 ?_
                refine zu 2 ?_
                refine zu 3 ?_
                refine zu 4 ?_
                refine zu 5 ?_
                refine zu 6 ?_
                refine zu 7 ?_
                refine zn 8 ?_
                refine zn 9 ?_
                refine zn 10 ?_
                refine zn 11 ?_
                refine zn 12 ?_
                refine zn 13 ?_
                refine zn 14 ?_
                refine zn 15 ?_
                refine zn 16 ?_
                refine zn 17 ?_
                refine zn 18 ?_
                refine zn 19 ?_
                refine zn 20 ?_
                refine zn 21 ?_
                refine zn 22 ?_
                refine zn 23 ?_
                refine zn 24 ?_
                refine zn 25 ?_
                refine zn 26 ?_
                refine zn 27 ?_
                refine zn 28 ?_
                refine zn 29 ?_
                refine zn 30 ?_
                refine zn 31 ?_
                refine zu 32 ?_
                refine zd ?_
                try go_wp2
                go_ret
                exact ⟨zf, zb⟩
               ·rw [if_neg c64] at H
                have c64b0 : ((t829.length : Int) == 0) = false := beq_eq_false_iff_ne.mpr c64
                have c64b1 : ((t829.length : Int) != 0) = true := bne_iff_ne.mpr c64
                have c64b2 : ¬ (t829 = []) := fun h_ => c64 (by rw [h_]; rfl)
                by_cases c69 : t815 = 1
                ·rw [if_pos c69] at H
                 have c69b0 : (t815 == 1) = true := beq_iff_eq.mpr c69
                 have c69b1 : (t815 != 1) = false := bne_eq_false_iff_eq.mpr c69
                 clear c69
                 by_cases c70 : (t829.length : Int) = 1
                 ·rw [if_pos c70] at H
                  have c70b0 : ((t829.length : Int) == 1) = true := beq_iff_eq.mpr c70
                  have c70b1 : ((t829.length : Int) != 1) = false := bne_eq_false_iff_eq.mpr c70
                  clear c70
                  by_cases c71 : (t817.length : Int) = a0_2
                  ·rw [if_pos c71] at H
                   have c71b0 : ((t817.length : Int) == a0_2) = true := beq_iff_eq.mpr c71
                   have c71b1 : ((t817.length : Int) != a0_2) = false := bne_eq_false_iff_eq.mpr c71
                   clear c71
                   by_cases c72 : 0 < (t829.length : Int)
                   ·rw [if_pos c72] at H
                    have c72b0 : decide (0 < (t829.length : Int)) = true := decide_eq_true c72
                    have c72b1 : decide (0 < t829.length) = true := decide_eq_true (by omega)
                    clear c72
                    by_cases c73 : 0 ≤ x12_3
                    ·rw [if_pos c73] at H
                     have c73b0 : decide (0 ≤ x12_3) = true := decide_eq_true c73
                     clear c73
                     by_cases c74 : x12_3 < (t817.length : Int)
                     ·rw [if_pos c74] at H
                      have c74b0 : decide (x12_3 < (t817.length : Int)) = true := decide_eq_true c74
                      clear c74
                      by_cases c75 : (rd t829 0) = (rd t817 x12_3)
                      ·rw [if_pos c75] at H
                       have c75b0 : ((rd t829 0) == (rd t817 x12_3)) = true := beq_iff_eq.mpr c75
                       have c75b1 : ((rd t829 0) != (rd t817 x12_3)) = false := bne_eq_false_iff_eq.mpr c75
                       clear c75
                       by_cases c76 : x11_3 = true
                       ·subst c76
                        have H1 : (saronlaw06_KernelOne.l0 k3 l1 t815 t817 t821 true (wrap64 (x12_3 + 1)) a0_0 a0_1 a0_2 l0_3) = some r := by rw [if_pos rfl] at H; exact H
                        clear H
                        have H := H1
                        clear H1
                        have H' := zh H
                        clear H
                        have hcz77_0 : wr.cell? ⟨gb814, 0, none⟩ = some (.int .i64 a0_0) := vb BK814 0
                        have hcz77_1 : wr.cell? ⟨gb814, 1, none⟩ = some (.int .i64 a0_1) := vb BK814 1
                        have hcz77_2 : wr.cell? ⟨gb814, 2, none⟩ = some (.int .i64 a0_2) := vb BK814 2
                        have hcz77_3 : wr.cell? ⟨gb814, 3, none⟩ = some (.slice A0_3 l0_3.length c0_3) := vb BK814 3
                        have hfz77_0 := blk_frozen BK814.out 0
                        have hfz77_1 := blk_frozen BK814.out 1
                        have hfz77_2 := blk_frozen BK814.out 2
                        have hfz77_3 := blk_frozen BK814.out 3
                        try go_wp2_with (first | ((with_reducible refine gate_callee (f := 24) rfl ?_); refine goesL_ (some 137) rfl rfl Tryd.func24 zk rfl #[.agg #[.int .i64 a0_0, .int .i64 a0_1, .int .i64 a0_2, .slice A0_3 l0_3.length c0_3], .slice A1 l1.length c1, .int .i64 x12_3] rfl zm ?_; (with_reducible refine (kernel_Can.calls a0_0 a0_1 a0_2 _ _ l0_3 _ _ l1 x12_3 t829 t832 _ ?side1 ?side2 ?side3 ?side4 ?side5 A62.out).mono ?_); (case side1 => repeat (first | exact (Kd.C_below HR0_3.out HB.out) | (with_reducible refine Kd.C_alloc ?_ _) | (with_reducible refine Kd.C_drewN ?_ _) | (with_reducible refine Kd.C_drew ?_))); (case side2 => exact HC0_3.out); (case side3 => repeat (first | exact (Kd.C_below HR1.out HB.out) | (with_reducible refine Kd.C_alloc ?_ _) | (with_reducible refine Kd.C_drewN ?_ _) | (with_reducible refine Kd.C_drew ?_))); (case side4 => exact HC1.out); (case side5 => exact Glob.below HG.out zb); rintro e w78 ⟨v830, rfl, ho0, hb⟩; refine ⟨_, rfl, ?_⟩; have n0_ := zh (Kd.V_below (zV HO_7) hb); have n1_ := zh (Kd.V_below (zV HO_9) hb); have n2_ := zh (Kd.V_lower (Kd.V_mono (ok' := fun k_ => k_ ≠ gb814) ho0 (fun k_ hk_ => (Kd.freshB (g := gb814) (o := .cells #[.int .i64 a0_0, .int .i64 a0_1, .int .i64 a0_2, .slice A0_3 l0_3.length c0_3] 24 (0, 0)) (zc BK814) k_ hk_))) (below_size zb)); have n3_ := zh (blk_below (g := gb814) (o := .cells #[.int .i64 a0_0, .int .i64 a0_1, .int .i64 a0_2, .slice A0_3 l0_3.length c0_3] 24 (0, 0)) (zc BK814) hb); have n4_ := zh (below_step zb hb); clear HO_7; clear HO_9; clear BK814; clear HB; have HO_7 := n0_; have HO_9 := n1_; have HO831 := n2_; have BK814 := n3_; have HB := n4_; clear n0_ n1_ n2_ n3_ n4_; (try clear hb); (try clear hb2); (try clear hk); (try clear hi); (try clear ho0)))
                        replace HO_7 := zh (Kd.V_drew HO_7.out)
                        replace HO_9 := zh (Kd.V_drew HO_9.out)
                        replace HO831 := zh (Kd.V_drew HO831.out)
                        replace BK814 := zh (blk_drew BK814.out)
                        replace HB := zh (below_drew1 HB.out)
                        obtain ⟨Ao80, co80, eo80⟩ := Kd.V_slice HO831.out
                        (first | subst eo80 | (injection eo80 with f1_ f2_ f3_; have f4_ := f1_.symm; have f5_ := f3_.symm; clear f1_ f2_ f3_; subst f4_; subst f5_))
                        obtain ⟨Ao81, co81, eo81⟩ := Kd.V_slice HO_7.out
                        (first | subst eo81 | (injection eo81 with f1_ f2_ f3_; have f4_ := f1_.symm; have f5_ := f3_.symm; clear f1_ f2_ f3_; subst f4_; subst f5_))
                        have p833 : 0 ≤ (0 : Int) := (by omega)
                        have q833 : 0 < (t829.length : Int) := of_decide_eq_true zs
                        obtain ⟨ad833, e833, hx833_0⟩ := Kd.at_int (Kd.V_reads' HO831.out).2.2 0 p833 q833
                        cases e833
                        have qi833 : (0 < t829.length) = True := eq_true (by omega)
                        (try rw [show ((0 : Int)).toNat = 0 from rfl] at hx833_0)
                        (try rw [Addr.add_zero'] at hx833_0)
                        replace p833 := eq_true p833
                        replace q833 := eq_true q833
                        have p834 : 0 ≤ (x12_3 : Int) := of_decide_eq_true zs
                        have q834 : x12_3 < (t817.length : Int) := of_decide_eq_true zs
                        obtain ⟨ad834, e834, hx834_0⟩ := Kd.at_int (Kd.V_reads' HO_7.out).2.2 x12_3 p834 q834
                        cases e834
                        replace p834 := eq_true p834
                        replace q834 := eq_true q834
                        refine start_ (n := 33) (S := fun w' => w'.cell? ⟨gb814, 0, none⟩ = some (.int .i64 a0_0) ∧ w'.cell? ⟨gb814, 1, none⟩ = some (.int .i64 a0_1) ∧ w'.cell? ⟨gb814, 2, none⟩ = some (.int .i64 a0_2) ∧ w'.cell? ⟨gb814, 3, none⟩ = some (.slice A0_3 l0_3.length c0_3) ∧ w'.cell? ad833 = some (.int .i64 (rd t829 0)) ∧ w'.cell? (ad834.add (x12_3).toNat) = some (.int .i64 (rd t817 x12_3))) (ds := []) (Array.replicate 33 false) zk rfl rfl ⟨vb BK814 0, vb BK814 1, vb BK814 2, vb BK814 3, hx833_0, hx834_0⟩ (fun hHeld => ?_); refine with_tabW saronlaw06_KernelOne.tab15 saronlaw06_KernelOne.bits15 (fun HT_ HW_ => ?_)
                        generalize w78.drew = w79 at HO_7 HO_9 HO831 BK814 HB hx833_0 hx834_0 hHeld ⊢
                        refine zu 0 ?_
                        refine zu 1 ?_
                        refine zu 2 ?_
                        refine zu 3 ?_
                        refine zu 4 ?_
                        refine zu 5 ?_
                        refine zu 6 ?_
                        refine zu 7 ?_
                        refine zu 8 ?_
                        refine zu 9 ?_
                        refine zu 10 ?_
                        refine zu 11 ?_
                        refine zu 12 ?_
                        refine zu 13 ?_
                        refine zu 14 ?_
                        refine zu 15 ?_
                        refine zu 16 ?_
                        refine zu 17 ?_
                        refine zt 18 ?_
                        refine zu 19 ?_
                        refine zu 20 ?_
                        refine zu 21 ?_
                        refine zu 22 ?_
                        refine zu 23 ?_
                        refine zu 25 ?_
                        refine zu 26 ?_
                        refine zu 27 ?_
                        refine zt 24 ?_
                        refine zt 28 ?_
                        refine zu 29 ?_
                        refine zu 30 ?_
                        refine zu 31 ?_
                        refine zu 32 ?_
                        refine zd ?_
                        try go_wp2
                        go_roundg k3
                        case measure => have := HJ5.out; have := HJ48.out; have := HK3.out; omega
                        case rel => exact ⟨(true), (wrap64 (x12_3 + 1)), ze, ze, H', ⟨by have := HJ5.out; have := HJ48.out; have := HK3.out; omega⟩, ⟨zV HO_7⟩, ⟨zV HO_9⟩, ⟨zc BK814⟩, ⟨zb⟩⟩
                       ·replace c76 := Bool.eq_false_iff.mpr c76
                        subst c76
                        have H1 : (saronlaw06_KernelOne.l0 k3 l1 t815 t817 t821 (decide ((t829.length : Int) > 1)) (wrap64 (x12_3 + 1)) a0_0 a0_1 a0_2 l0_3) = some r := by rw [if_neg (show ¬ (false = true) by decide)] at H; exact H
                        clear H
                        have H := H1
                        clear H1
                        have H' := zh H
                        clear H
                        have hcz82_0 : wr.cell? ⟨gb814, 0, none⟩ = some (.int .i64 a0_0) := vb BK814 0
                        have hcz82_1 : wr.cell? ⟨gb814, 1, none⟩ = some (.int .i64 a0_1) := vb BK814 1
                        have hcz82_2 : wr.cell? ⟨gb814, 2, none⟩ = some (.int .i64 a0_2) := vb BK814 2
                        have hcz82_3 : wr.cell? ⟨gb814, 3, none⟩ = some (.slice A0_3 l0_3.length c0_3) := vb BK814 3
                        have hfz82_0 := blk_frozen BK814.out 0
                        have hfz82_1 := blk_frozen BK814.out 1
                        have hfz82_2 := blk_frozen BK814.out 2
                        have hfz82_3 := blk_frozen BK814.out 3
                        try go_wp2_with (first | ((with_reducible refine gate_callee (f := 24) rfl ?_); refine goesL_ (some 137) rfl rfl Tryd.func24 zk rfl #[.agg #[.int .i64 a0_0, .int .i64 a0_1, .int .i64 a0_2, .slice A0_3 l0_3.length c0_3], .slice A1 l1.length c1, .int .i64 x12_3] rfl zm ?_; (with_reducible refine (kernel_Can.calls a0_0 a0_1 a0_2 _ _ l0_3 _ _ l1 x12_3 t829 t832 _ ?side1 ?side2 ?side3 ?side4 ?side5 A62.out).mono ?_); (case side1 => repeat (first | exact (Kd.C_below HR0_3.out HB.out) | (with_reducible refine Kd.C_alloc ?_ _) | (with_reducible refine Kd.C_drewN ?_ _) | (with_reducible refine Kd.C_drew ?_))); (case side2 => exact HC0_3.out); (case side3 => repeat (first | exact (Kd.C_below HR1.out HB.out) | (with_reducible refine Kd.C_alloc ?_ _) | (with_reducible refine Kd.C_drewN ?_ _) | (with_reducible refine Kd.C_drew ?_))); (case side4 => exact HC1.out); (case side5 => exact Glob.below HG.out zb); rintro e w83 ⟨v830, rfl, ho0, hb⟩; refine ⟨_, rfl, ?_⟩; have n0_ := zh (Kd.V_below (zV HO_7) hb); have n1_ := zh (Kd.V_below (zV HO_9) hb); have n2_ := zh (Kd.V_lower (Kd.V_mono (ok' := fun k_ => k_ ≠ gb814) ho0 (fun k_ hk_ => (Kd.freshB (g := gb814) (o := .cells #[.int .i64 a0_0, .int .i64 a0_1, .int .i64 a0_2, .slice A0_3 l0_3.length c0_3] 24 (0, 0)) (zc BK814) k_ hk_))) (below_size zb)); have n3_ := zh (blk_below (g := gb814) (o := .cells #[.int .i64 a0_0, .int .i64 a0_1, .int .i64 a0_2, .slice A0_3 l0_3.length c0_3] 24 (0, 0)) (zc BK814) hb); have n4_ := zh (below_step zb hb); clear HO_7; clear HO_9; clear BK814; clear HB; have HO_7 := n0_; have HO_9 := n1_; have HO831 := n2_; have BK814 := n3_; have HB := n4_; clear n0_ n1_ n2_ n3_ n4_; (try clear hb); (try clear hb2); (try clear hk); (try clear hi); (try clear ho0)))
                        replace HO_7 := zh (Kd.V_drew HO_7.out)
                        replace HO_9 := zh (Kd.V_drew HO_9.out)
                        replace HO831 := zh (Kd.V_drew HO831.out)
                        replace BK814 := zh (blk_drew BK814.out)
                        replace HB := zh (below_drew1 HB.out)
                        obtain ⟨Ao85, co85, eo85⟩ := Kd.V_slice HO831.out
                        (first | subst eo85 | (injection eo85 with f1_ f2_ f3_; have f4_ := f1_.symm; have f5_ := f3_.symm; clear f1_ f2_ f3_; subst f4_; subst f5_))
                        obtain ⟨Ao86, co86, eo86⟩ := Kd.V_slice HO_7.out
                        (first | subst eo86 | (injection eo86 with f1_ f2_ f3_; have f4_ := f1_.symm; have f5_ := f3_.symm; clear f1_ f2_ f3_; subst f4_; subst f5_))
                        have p833 : 0 ≤ (0 : Int) := (by omega)
                        have q833 : 0 < (t829.length : Int) := of_decide_eq_true zs
                        obtain ⟨ad833, e833, hx833_0⟩ := Kd.at_int (Kd.V_reads' HO831.out).2.2 0 p833 q833
                        cases e833
                        have qi833 : (0 < t829.length) = True := eq_true (by omega)
                        (try rw [show ((0 : Int)).toNat = 0 from rfl] at hx833_0)
                        (try rw [Addr.add_zero'] at hx833_0)
                        replace p833 := eq_true p833
                        replace q833 := eq_true q833
                        have p834 : 0 ≤ (x12_3 : Int) := of_decide_eq_true zs
                        have q834 : x12_3 < (t817.length : Int) := of_decide_eq_true zs
                        obtain ⟨ad834, e834, hx834_0⟩ := Kd.at_int (Kd.V_reads' HO_7.out).2.2 x12_3 p834 q834
                        cases e834
                        replace p834 := eq_true p834
                        replace q834 := eq_true q834
                        refine start_ (n := 33) (S := fun w' => w'.cell? ⟨gb814, 0, none⟩ = some (.int .i64 a0_0) ∧ w'.cell? ⟨gb814, 1, none⟩ = some (.int .i64 a0_1) ∧ w'.cell? ⟨gb814, 2, none⟩ = some (.int .i64 a0_2) ∧ w'.cell? ⟨gb814, 3, none⟩ = some (.slice A0_3 l0_3.length c0_3) ∧ w'.cell? ad833 = some (.int .i64 (rd t829 0)) ∧ w'.cell? (ad834.add (x12_3).toNat) = some (.int .i64 (rd t817 x12_3))) (ds := []) (Array.replicate 33 false) zk rfl rfl ⟨vb BK814 0, vb BK814 1, vb BK814 2, vb BK814 3, hx833_0, hx834_0⟩ (fun hHeld => ?_); refine with_tabW saronlaw06_KernelOne.tab15 saronlaw06_KernelOne.bits15 (fun HT_ HW_ => ?_)
                        generalize w83.drew = w84 at HO_7 HO_9 HO831 BK814 HB hx833_0 hx834_0 hHeld ⊢
                        refine zu 0 ?_
                        refine zu 1 ?_
                        refine zu 2 ?_
                        refine zu 3 ?_
                        refine zu 4 ?_
                        refine zu 5 ?_
                        refine zu 6 ?_
                        refine zu 7 ?_
                        refine zu 8 ?_
                        refine zu 9 ?_
                        refine zu 10 ?_
                        refine zu 11 ?_
                        refine zu 12 ?_
                        refine zu 13 ?_
                        refine zu 14 ?_
                        refine zu 15 ?_
                        refine zu 16 ?_
                        refine zu 17 ?_
                        refine zt 18 ?_
                        refine zu 19 ?_
                        refine zu 20 ?_
                        refine zu 21 ?_
                        refine zu 22 ?_
                        refine zu 23 ?_
                        refine zu 25 ?_
                        refine zu 26 ?_
                        refine zu 27 ?_
                        refine zt 24 ?_
                        refine zt 28 ?_
                        refine zu 29 ?_
                        refine zu 30 ?_
                        refine zu 31 ?_
                        refine zu 32 ?_
                        refine zd ?_
                        try go_wp2
                        go_roundg k3
                        case measure => have := HJ5.out; have := HJ48.out; have := HK3.out; omega
                        case rel => exact ⟨(decide ((t829.length : Int) > 1)), (wrap64 (x12_3 + 1)), ze, ze, H', ⟨by have := HJ5.out; have := HJ48.out; have := HK3.out; omega⟩, ⟨zV HO_7⟩, ⟨zV HO_9⟩, ⟨zc BK814⟩, ⟨zb⟩⟩
                      ·rw [if_neg c75] at H
                       have c75b0 : ((rd t829 0) == (rd t817 x12_3)) = false := beq_eq_false_iff_ne.mpr c75
                       have c75b1 : ((rd t829 0) != (rd t817 x12_3)) = true := bne_iff_ne.mpr c75
                       obtain rfl := Option.some.inj H
                       have hcz87_0 : wr.cell? ⟨gb814, 0, none⟩ = some (.int .i64 a0_0) := vb BK814 0
                       have hcz87_1 : wr.cell? ⟨gb814, 1, none⟩ = some (.int .i64 a0_1) := vb BK814 1
                       have hcz87_2 : wr.cell? ⟨gb814, 2, none⟩ = some (.int .i64 a0_2) := vb BK814 2
                       have hcz87_3 : wr.cell? ⟨gb814, 3, none⟩ = some (.slice A0_3 l0_3.length c0_3) := vb BK814 3
                       have hfz87_0 := blk_frozen BK814.out 0
                       have hfz87_1 := blk_frozen BK814.out 1
                       have hfz87_2 := blk_frozen BK814.out 2
                       have hfz87_3 := blk_frozen BK814.out 3
                       try go_wp2_with (first | ((with_reducible refine gate_callee (f := 24) rfl ?_); refine goesL_ (some 137) rfl rfl Tryd.func24 zk rfl #[.agg #[.int .i64 a0_0, .int .i64 a0_1, .int .i64 a0_2, .slice A0_3 l0_3.length c0_3], .slice A1 l1.length c1, .int .i64 x12_3] rfl zm ?_; (with_reducible refine (kernel_Can.calls a0_0 a0_1 a0_2 _ _ l0_3 _ _ l1 x12_3 t829 t832 _ ?side1 ?side2 ?side3 ?side4 ?side5 A62.out).mono ?_); (case side1 => repeat (first | exact (Kd.C_below HR0_3.out HB.out) | (with_reducible refine Kd.C_alloc ?_ _) | (with_reducible refine Kd.C_drewN ?_ _) | (with_reducible refine Kd.C_drew ?_))); (case side2 => exact HC0_3.out); (case side3 => repeat (first | exact (Kd.C_below HR1.out HB.out) | (with_reducible refine Kd.C_alloc ?_ _) | (with_reducible refine Kd.C_drewN ?_ _) | (with_reducible refine Kd.C_drew ?_))); (case side4 => exact HC1.out); (case side5 => exact Glob.below HG.out zb); rintro e w88 ⟨v830, rfl, ho0, hb⟩; refine ⟨_, rfl, ?_⟩; have n0_ := zh (Kd.V_below (zV HO_7) hb); have n1_ := zh (Kd.V_below (zV HO_9) hb); have n2_ := zh (Kd.V_lower (Kd.V_mono (ok' := fun k_ => k_ ≠ gb814) ho0 (fun k_ hk_ => (Kd.freshB (g := gb814) (o := .cells #[.int .i64 a0_0, .int .i64 a0_1, .int .i64 a0_2, .slice A0_3 l0_3.length c0_3] 24 (0, 0)) (zc BK814) k_ hk_))) (below_size zb)); have n3_ := zh (blk_below (g := gb814) (o := .cells #[.int .i64 a0_0, .int .i64 a0_1, .int .i64 a0_2, .slice A0_3 l0_3.length c0_3] 24 (0, 0)) (zc BK814) hb); have n4_ := zh (below_step zb hb); clear HO_7; clear HO_9; clear BK814; clear HB; have HO_7 := n0_; have HO_9 := n1_; have HO831 := n2_; have BK814 := n3_; have HB := n4_; clear n0_ n1_ n2_ n3_ n4_; (try clear hb); (try clear hb2); (try clear hk); (try clear hi); (try clear ho0)))
                       replace HO_7 := zh (Kd.V_drew HO_7.out)
                       replace HO_9 := zh (Kd.V_drew HO_9.out)
                       replace HO831 := zh (Kd.V_drew HO831.out)
                       replace BK814 := zh (blk_drew BK814.out)
                       replace HB := zh (below_drew1 HB.out)
                       obtain ⟨Ao90, co90, eo90⟩ := Kd.V_slice HO831.out
                       (first | subst eo90 | (injection eo90 with f1_ f2_ f3_; have f4_ := f1_.symm; have f5_ := f3_.symm; clear f1_ f2_ f3_; subst f4_; subst f5_))
                       obtain ⟨Ao91, co91, eo91⟩ := Kd.V_slice HO_7.out
                       (first | subst eo91 | (injection eo91 with f1_ f2_ f3_; have f4_ := f1_.symm; have f5_ := f3_.symm; clear f1_ f2_ f3_; subst f4_; subst f5_))
                       have p833 : 0 ≤ (0 : Int) := (by omega)
                       have q833 : 0 < (t829.length : Int) := of_decide_eq_true zs
                       obtain ⟨ad833, e833, hx833_0⟩ := Kd.at_int (Kd.V_reads' HO831.out).2.2 0 p833 q833
                       cases e833
                       have qi833 : (0 < t829.length) = True := eq_true (by omega)
                       (try rw [show ((0 : Int)).toNat = 0 from rfl] at hx833_0)
                       (try rw [Addr.add_zero'] at hx833_0)
                       replace p833 := eq_true p833
                       replace q833 := eq_true q833
                       have p834 : 0 ≤ (x12_3 : Int) := of_decide_eq_true zs
                       have q834 : x12_3 < (t817.length : Int) := of_decide_eq_true zs
                       obtain ⟨ad834, e834, hx834_0⟩ := Kd.at_int (Kd.V_reads' HO_7.out).2.2 x12_3 p834 q834
                       cases e834
                       replace p834 := eq_true p834
                       replace q834 := eq_true q834
                       refine start_ (n := 33) (S := fun w' => w'.cell? ⟨gb814, 0, none⟩ = some (.int .i64 a0_0) ∧ w'.cell? ⟨gb814, 1, none⟩ = some (.int .i64 a0_1) ∧ w'.cell? ⟨gb814, 2, none⟩ = some (.int .i64 a0_2) ∧ w'.cell? ⟨gb814, 3, none⟩ = some (.slice A0_3 l0_3.length c0_3) ∧ w'.cell? ad833 = some (.int .i64 (rd t829 0)) ∧ w'.cell? (ad834.add (x12_3).toNat) = some (.int .i64 (rd t817 x12_3))) (ds := []) (Array.replicate 33 false) zk rfl rfl ⟨vb BK814 0, vb BK814 1, vb BK814 2, vb BK814 3, hx833_0, hx834_0⟩ (fun hHeld => ?_); refine with_tabW saronlaw06_KernelOne.tab15 saronlaw06_KernelOne.bits15 (fun HT_ HW_ => ?_)
                       generalize w88.drew = w89 at HO_7 HO_9 HO831 BK814 HB hx833_0 hx834_0 hHeld ⊢
                       refine zu 0 ?_
                       refine zu 1 ?_
                       refine zu 2 ?_
                       refine zu 3 ?_
                       refine zu 4 ?_
                       refine zu 5 ?_
                       refine zu 6 ?_
                       refine zu 7 ?_
                       refine zu 8 ?_
                       refine zu 9 ?_
                       refine zu 10 ?_
                       refine zu 11 ?_
                       refine zu 12 ?_
                       refine zu 13 ?_
                       refine zu 14 ?_
                       refine zu 15 ?_
                       refine zu 16 ?_
                       refine zu 17 ?_
                       refine zt 18 ?_
                       refine zu 19 ?_
                       refine zu 20 ?_
                       refine zu 21 ?_
                       refine zu 22 ?_
                       refine zu 23 ?_
                       refine zu 25 ?_
                       refine zu 26 ?_
                       refine zu 27 ?_
                       refine zt 24 ?_
                       refine zt 28 ?_
                       refine zu 29 ?_
                       refine zu 30 ?_
                       refine zu 31 ?_
                       refine zu 32 ?_
                       refine zd ?_
                       try go_wp2
                       go_ret
                       exact ⟨zf, zb⟩
                     ·rw [if_neg c74] at H
                      exact absurd H (by simp)
                    ·rw [if_neg c73] at H
                     exact absurd H (by simp)
                   ·rw [if_neg c72] at H
                    exact absurd H (by simp)
                  ·rw [if_neg c71] at H
                   have c71b0 : ((t817.length : Int) == a0_2) = false := beq_eq_false_iff_ne.mpr c71
                   have c71b1 : ((t817.length : Int) != a0_2) = true := bne_iff_ne.mpr c71
                   obtain rfl := Option.some.inj H
                   have hcz92_0 : wr.cell? ⟨gb814, 0, none⟩ = some (.int .i64 a0_0) := vb BK814 0
                   have hcz92_1 : wr.cell? ⟨gb814, 1, none⟩ = some (.int .i64 a0_1) := vb BK814 1
                   have hcz92_2 : wr.cell? ⟨gb814, 2, none⟩ = some (.int .i64 a0_2) := vb BK814 2
                   have hcz92_3 : wr.cell? ⟨gb814, 3, none⟩ = some (.slice A0_3 l0_3.length c0_3) := vb BK814 3
                   have hfz92_0 := blk_frozen BK814.out 0
                   have hfz92_1 := blk_frozen BK814.out 1
                   have hfz92_2 := blk_frozen BK814.out 2
                   have hfz92_3 := blk_frozen BK814.out 3
                   try go_wp2_with (first | ((with_reducible refine gate_callee (f := 24) rfl ?_); refine goesL_ (some 137) rfl rfl Tryd.func24 zk rfl #[.agg #[.int .i64 a0_0, .int .i64 a0_1, .int .i64 a0_2, .slice A0_3 l0_3.length c0_3], .slice A1 l1.length c1, .int .i64 x12_3] rfl zm ?_; (with_reducible refine (kernel_Can.calls a0_0 a0_1 a0_2 _ _ l0_3 _ _ l1 x12_3 t829 t832 _ ?side1 ?side2 ?side3 ?side4 ?side5 A62.out).mono ?_); (case side1 => repeat (first | exact (Kd.C_below HR0_3.out HB.out) | (with_reducible refine Kd.C_alloc ?_ _) | (with_reducible refine Kd.C_drewN ?_ _) | (with_reducible refine Kd.C_drew ?_))); (case side2 => exact HC0_3.out); (case side3 => repeat (first | exact (Kd.C_below HR1.out HB.out) | (with_reducible refine Kd.C_alloc ?_ _) | (with_reducible refine Kd.C_drewN ?_ _) | (with_reducible refine Kd.C_drew ?_))); (case side4 => exact HC1.out); (case side5 => exact Glob.below HG.out zb); rintro e w93 ⟨v830, rfl, ho0, hb⟩; refine ⟨_, rfl, ?_⟩; have n0_ := zh (Kd.V_below (zV HO_7) hb); have n1_ := zh (Kd.V_below (zV HO_9) hb); have n2_ := zh (Kd.V_lower (Kd.V_mono (ok' := fun k_ => k_ ≠ gb814) ho0 (fun k_ hk_ => (Kd.freshB (g := gb814) (o := .cells #[.int .i64 a0_0, .int .i64 a0_1, .int .i64 a0_2, .slice A0_3 l0_3.length c0_3] 24 (0, 0)) (zc BK814) k_ hk_))) (below_size zb)); have n3_ := zh (blk_below (g := gb814) (o := .cells #[.int .i64 a0_0, .int .i64 a0_1, .int .i64 a0_2, .slice A0_3 l0_3.length c0_3] 24 (0, 0)) (zc BK814) hb); have n4_ := zh (below_step zb hb); clear HO_7; clear HO_9; clear BK814; clear HB; have HO_7 := n0_; have HO_9 := n1_; have HO831 := n2_; have BK814 := n3_; have HB := n4_; clear n0_ n1_ n2_ n3_ n4_; (try clear hb); (try clear hb2); (try clear hk); (try clear hi); (try clear ho0)))
                   replace HO_7 := zh (Kd.V_drew HO_7.out)
                   replace HO_9 := zh (Kd.V_drew HO_9.out)
                   replace HO831 := zh (Kd.V_drew HO831.out)
                   replace BK814 := zh (blk_drew BK814.out)
                   replace HB := zh (below_drew1 HB.out)
                   obtain ⟨Ao95, co95, eo95⟩ := Kd.V_slice HO831.out
                   (first | subst eo95 | (injection eo95 with f1_ f2_ f3_; have f4_ := f1_.symm; have f5_ := f3_.symm; clear f1_ f2_ f3_; subst f4_; subst f5_))
                   obtain ⟨Ao96, co96, eo96⟩ := Kd.V_slice HO_7.out
                   (first | subst eo96 | (injection eo96 with f1_ f2_ f3_; have f4_ := f1_.symm; have f5_ := f3_.symm; clear f1_ f2_ f3_; subst f4_; subst f5_))
                   refine start_ (n := 33) (S := fun w' => w'.cell? ⟨gb814, 0, none⟩ = some (.int .i64 a0_0) ∧ w'.cell? ⟨gb814, 1, none⟩ = some (.int .i64 a0_1) ∧ w'.cell? ⟨gb814, 2, none⟩ = some (.int .i64 a0_2) ∧ w'.cell? ⟨gb814, 3, none⟩ = some (.slice A0_3 l0_3.length c0_3)) (ds := []) (Array.replicate 33 false) zk rfl rfl ⟨vb BK814 0, vb BK814 1, vb BK814 2, vb BK814 3⟩ (fun hHeld => ?_); refine with_tabW saronlaw06_KernelOne.tab15 saronlaw06_KernelOne.bits15 (fun HT_ HW_ => ?_)
                   generalize w93.drew = w94 at HO_7 HO_9 HO831 BK814 HB hHeld ⊢
                   refine zu 0 ?_
                   refine zu 1 ?_
                   refine zu 2 ?_
                   refine zu 3 ?_
                   refine zu 4 ?_
                   refine zu 5 ?_
                   refine zu 6 ?_
                   refine zu 7 ?_
                   refine zu 8 ?_
                   refine zu 9 ?_
                   refine zu 10 ?_
                   refine zu 11 ?_
                   refine zu 12 ?_
                   refine zu 13 ?_
                   refine zu 14 ?_
                   refine zu 15 ?_
                   refine zu 16 ?_
                   refine zu 17 ?_
                   refine zt 18 ?_
                   refine zu 19 ?_
                   refine zu 20 ?_
                   refine zu 21 ?_
                   refine zn 22 ?_
                   refine zn 23 ?_
                   refine zn 24 ?_
                   refine zn 25 ?_
                   refine zn 26 ?_
                   refine zn 27 ?_
                   refine zn 28 ?_
                   refine zn 29 ?_
                   refine zu 30 ?_
                   refine zu 31 ?_
                   refine zu 32 ?_
                   refine zd ?_
                   try go_wp2
                   go_ret
                   exact ⟨zf, zb⟩
                 ·rw [if_neg c70] at H
                  have c70b0 : ((t829.length : Int) == 1) = false := beq_eq_false_iff_ne.mpr c70
                  have c70b1 : ((t829.length : Int) != 1) = true := bne_iff_ne.mpr c70
                  obtain rfl := Option.some.inj H
                  have hcz97_0 : wr.cell? ⟨gb814, 0, none⟩ = some (.int .i64 a0_0) := vb BK814 0
                  have hcz97_1 : wr.cell? ⟨gb814, 1, none⟩ = some (.int .i64 a0_1) := vb BK814 1
                  have hcz97_2 : wr.cell? ⟨gb814, 2, none⟩ = some (.int .i64 a0_2) := vb BK814 2
                  have hcz97_3 : wr.cell? ⟨gb814, 3, none⟩ = some (.slice A0_3 l0_3.length c0_3) := vb BK814 3
                  have hfz97_0 := blk_frozen BK814.out 0
                  have hfz97_1 := blk_frozen BK814.out 1
                  have hfz97_2 := blk_frozen BK814.out 2
                  have hfz97_3 := blk_frozen BK814.out 3
                  try go_wp2_with (first | ((with_reducible refine gate_callee (f := 24) rfl ?_); refine goesL_ (some 137) rfl rfl Tryd.func24 zk rfl #[.agg #[.int .i64 a0_0, .int .i64 a0_1, .int .i64 a0_2, .slice A0_3 l0_3.length c0_3], .slice A1 l1.length c1, .int .i64 x12_3] rfl zm ?_; (with_reducible refine (kernel_Can.calls a0_0 a0_1 a0_2 _ _ l0_3 _ _ l1 x12_3 t829 t832 _ ?side1 ?side2 ?side3 ?side4 ?side5 A62.out).mono ?_); (case side1 => repeat (first | exact (Kd.C_below HR0_3.out HB.out) | (with_reducible refine Kd.C_alloc ?_ _) | (with_reducible refine Kd.C_drewN ?_ _) | (with_reducible refine Kd.C_drew ?_))); (case side2 => exact HC0_3.out); (case side3 => repeat (first | exact (Kd.C_below HR1.out HB.out) | (with_reducible refine Kd.C_alloc ?_ _) | (with_reducible refine Kd.C_drewN ?_ _) | (with_reducible refine Kd.C_drew ?_))); (case side4 => exact HC1.out); (case side5 => exact Glob.below HG.out zb); rintro e w98 ⟨v830, rfl, ho0, hb⟩; refine ⟨_, rfl, ?_⟩; have n0_ := zh (Kd.V_below (zV HO_7) hb); have n1_ := zh (Kd.V_below (zV HO_9) hb); have n2_ := zh (Kd.V_lower (Kd.V_mono (ok' := fun k_ => k_ ≠ gb814) ho0 (fun k_ hk_ => (Kd.freshB (g := gb814) (o := .cells #[.int .i64 a0_0, .int .i64 a0_1, .int .i64 a0_2, .slice A0_3 l0_3.length c0_3] 24 (0, 0)) (zc BK814) k_ hk_))) (below_size zb)); have n3_ := zh (blk_below (g := gb814) (o := .cells #[.int .i64 a0_0, .int .i64 a0_1, .int .i64 a0_2, .slice A0_3 l0_3.length c0_3] 24 (0, 0)) (zc BK814) hb); have n4_ := zh (below_step zb hb); clear HO_7; clear HO_9; clear BK814; clear HB; have HO_7 := n0_; have HO_9 := n1_; have HO831 := n2_; have BK814 := n3_; have HB := n4_; clear n0_ n1_ n2_ n3_ n4_; (try clear hb); (try clear hb2); (try clear hk); (try clear hi); (try clear ho0)))
                  replace HO_7 := zh (Kd.V_drew HO_7.out)
                  replace HO_9 := zh (Kd.V_drew HO_9.out)
                  replace HO831 := zh (Kd.V_drew HO831.out)
                  replace BK814 := zh (blk_drew BK814.out)
                  replace HB := zh (below_drew1 HB.out)
                  obtain ⟨Ao100, co100, eo100⟩ := Kd.V_slice HO831.out
                  (first | subst eo100 | (injection eo100 with f1_ f2_ f3_; have f4_ := f1_.symm; have f5_ := f3_.symm; clear f1_ f2_ f3_; subst f4_; subst f5_))
                  refine start_ (n := 33) (S := fun w' => True) (ds := []) (Array.replicate 33 false) zk rfl rfl trivial (fun hHeld => ?_); refine with_tabW saronlaw06_KernelOne.tab15 saronlaw06_KernelOne.bits15 (fun HT_ HW_ => ?_)
                  generalize w98.drew = w99 at HO_7 HO_9 HO831 BK814 HB hHeld ⊢
                  refine zu 0 ?_
                  refine zu 1 ?_
                  refine zu 2 ?_
                  refine zu 3 ?_
                  refine zu 4 ?_
                  refine zu 5 ?_
                  refine zu 6 ?_
                  refine zu 7 ?_
                  refine zu 8 ?_
                  refine zu 9 ?_
                  refine zu 10 ?_
                  refine zu 11 ?_
                  refine zu 12 ?_
                  refine zu 13 ?_
                  refine zu 14 ?_
                  refine zn 15 ?_
                  refine zn 16 ?_
                  refine zn 17 ?_
                  refine zn 18 ?_
                  refine zn 19 ?_
                  refine zu 20 ?_
                  refine zu 21 ?_
                  refine zn 22 ?_
                  refine zn 23 ?_
                  refine zn 24 ?_
                  refine zn 25 ?_
                  refine zn 26 ?_
                  refine zn 27 ?_
                  refine zn 28 ?_
                  refine zn 29 ?_
                  refine zu 30 ?_
                  refine zu 31 ?_
                  refine zu 32 ?_
                  refine zd ?_
                  try go_wp2
                  go_ret
                  exact ⟨zf, zb⟩
                ·rw [if_neg c69] at H
                 have c69b0 : (t815 == 1) = false := beq_eq_false_iff_ne.mpr c69
                 have c69b1 : (t815 != 1) = true := bne_iff_ne.mpr c69
                 by_cases c101 : x11_3 = true
                 ·subst c101
                  have H1 : (saronlaw06_KernelOne.l0 k3 l1 t815 t817 t821 true (wrap64 (x12_3 + 1)) a0_0 a0_1 a0_2 l0_3) = some r := by rw [if_pos rfl] at H; exact H
                  clear H
                  have H := H1
                  clear H1
                  have H' := zh H
                  clear H
                  have hcz102_0 : wr.cell? ⟨gb814, 0, none⟩ = some (.int .i64 a0_0) := vb BK814 0
                  have hcz102_1 : wr.cell? ⟨gb814, 1, none⟩ = some (.int .i64 a0_1) := vb BK814 1
                  have hcz102_2 : wr.cell? ⟨gb814, 2, none⟩ = some (.int .i64 a0_2) := vb BK814 2
                  have hcz102_3 : wr.cell? ⟨gb814, 3, none⟩ = some (.slice A0_3 l0_3.length c0_3) := vb BK814 3
                  have hfz102_0 := blk_frozen BK814.out 0
                  have hfz102_1 := blk_frozen BK814.out 1
                  have hfz102_2 := blk_frozen BK814.out 2
                  have hfz102_3 := blk_frozen BK814.out 3
                  try go_wp2_with (first | ((with_reducible refine gate_callee (f := 24) rfl ?_); refine goesL_ (some 137) rfl rfl Tryd.func24 zk rfl #[.agg #[.int .i64 a0_0, .int .i64 a0_1, .int .i64 a0_2, .slice A0_3 l0_3.length c0_3], .slice A1 l1.length c1, .int .i64 x12_3] rfl zm ?_; (with_reducible refine (kernel_Can.calls a0_0 a0_1 a0_2 _ _ l0_3 _ _ l1 x12_3 t829 t832 _ ?side1 ?side2 ?side3 ?side4 ?side5 A62.out).mono ?_); (case side1 => repeat (first | exact (Kd.C_below HR0_3.out HB.out) | (with_reducible refine Kd.C_alloc ?_ _) | (with_reducible refine Kd.C_drewN ?_ _) | (with_reducible refine Kd.C_drew ?_))); (case side2 => exact HC0_3.out); (case side3 => repeat (first | exact (Kd.C_below HR1.out HB.out) | (with_reducible refine Kd.C_alloc ?_ _) | (with_reducible refine Kd.C_drewN ?_ _) | (with_reducible refine Kd.C_drew ?_))); (case side4 => exact HC1.out); (case side5 => exact Glob.below HG.out zb); rintro e w103 ⟨v830, rfl, ho0, hb⟩; refine ⟨_, rfl, ?_⟩; have n0_ := zh (Kd.V_below (zV HO_7) hb); have n1_ := zh (Kd.V_below (zV HO_9) hb); have n2_ := zh (Kd.V_lower (Kd.V_mono (ok' := fun k_ => k_ ≠ gb814) ho0 (fun k_ hk_ => (Kd.freshB (g := gb814) (o := .cells #[.int .i64 a0_0, .int .i64 a0_1, .int .i64 a0_2, .slice A0_3 l0_3.length c0_3] 24 (0, 0)) (zc BK814) k_ hk_))) (below_size zb)); have n3_ := zh (blk_below (g := gb814) (o := .cells #[.int .i64 a0_0, .int .i64 a0_1, .int .i64 a0_2, .slice A0_3 l0_3.length c0_3] 24 (0, 0)) (zc BK814) hb); have n4_ := zh (below_step zb hb); clear HO_7; clear HO_9; clear BK814; clear HB; have HO_7 := n0_; have HO_9 := n1_; have HO831 := n2_; have BK814 := n3_; have HB := n4_; clear n0_ n1_ n2_ n3_ n4_; (try clear hb); (try clear hb2); (try clear hk); (try clear hi); (try clear ho0)))
                  replace HO_7 := zh (Kd.V_drew HO_7.out)
                  replace HO_9 := zh (Kd.V_drew HO_9.out)
                  replace HO831 := zh (Kd.V_drew HO831.out)
                  replace BK814 := zh (blk_drew BK814.out)
                  replace HB := zh (below_drew1 HB.out)
                  obtain ⟨Ao105, co105, eo105⟩ := Kd.V_slice HO831.out
                  (first | subst eo105 | (injection eo105 with f1_ f2_ f3_; have f4_ := f1_.symm; have f5_ := f3_.symm; clear f1_ f2_ f3_; subst f4_; subst f5_))
                  refine start_ (n := 33) (S := fun w' => True) (ds := []) (Array.replicate 33 false) zk rfl rfl trivial (fun hHeld => ?_); refine with_tabW saronlaw06_KernelOne.tab15 saronlaw06_KernelOne.bits15 (fun HT_ HW_ => ?_)
                  generalize w103.drew = w104 at HO_7 HO_9 HO831 BK814 HB hHeld ⊢
                  refine zu 0 ?_
                  refine zu 1 ?_
                  refine zu 2 ?_
                  refine zu 3 ?_
                  refine zu 4 ?_
                  refine zu 5 ?_
                  refine zu 6 ?_
                  refine zu 7 ?_
                  refine zu 8 ?_
                  refine zu 9 ?_
                  refine zu 10 ?_
                  refine zn 11 ?_
                  refine zn 12 ?_
                  refine zn 13 ?_
                  refine zn 14 ?_
                  refine zn 15 ?_
                  refine zn 16 ?_
                  refine zn 17 ?_
                  refine zn 18 ?_
                  refine zn 19 ?_
                  refine zn 20 ?_
                  refine zn 21 ?_
                  refine zn 22 ?_
                  refine zn 23 ?_
                  refine zn 24 ?_
                  refine zn 25 ?_
                  refine zn 26 ?_
                  refine zn 27 ?_
                  refine zn 28 ?_
                  refine zn 29 ?_
                  refine zn 30 ?_
                  refine zu 31 ?_
                  refine zu 32 ?_
                  refine zd ?_
                  try go_wp2
                  go_roundg k3
                  case measure => have := HJ5.out; have := HJ48.out; have := HK3.out; omega
                  case rel => exact ⟨(true), (wrap64 (x12_3 + 1)), ze, ze, H', ⟨by have := HJ5.out; have := HJ48.out; have := HK3.out; omega⟩, ⟨zV HO_7⟩, ⟨zV HO_9⟩, ⟨zc BK814⟩, ⟨zb⟩⟩
                 ·replace c101 := Bool.eq_false_iff.mpr c101
                  subst c101
                  have H1 : (saronlaw06_KernelOne.l0 k3 l1 t815 t817 t821 (decide ((t829.length : Int) > 1)) (wrap64 (x12_3 + 1)) a0_0 a0_1 a0_2 l0_3) = some r := by rw [if_neg (show ¬ (false = true) by decide)] at H; exact H
                  clear H
                  have H := H1
                  clear H1
                  have H' := zh H
                  clear H
                  have hcz106_0 : wr.cell? ⟨gb814, 0, none⟩ = some (.int .i64 a0_0) := vb BK814 0
                  have hcz106_1 : wr.cell? ⟨gb814, 1, none⟩ = some (.int .i64 a0_1) := vb BK814 1
                  have hcz106_2 : wr.cell? ⟨gb814, 2, none⟩ = some (.int .i64 a0_2) := vb BK814 2
                  have hcz106_3 : wr.cell? ⟨gb814, 3, none⟩ = some (.slice A0_3 l0_3.length c0_3) := vb BK814 3
                  have hfz106_0 := blk_frozen BK814.out 0
                  have hfz106_1 := blk_frozen BK814.out 1
                  have hfz106_2 := blk_frozen BK814.out 2
                  have hfz106_3 := blk_frozen BK814.out 3
                  try go_wp2_with (first | ((with_reducible refine gate_callee (f := 24) rfl ?_); refine goesL_ (some 137) rfl rfl Tryd.func24 zk rfl #[.agg #[.int .i64 a0_0, .int .i64 a0_1, .int .i64 a0_2, .slice A0_3 l0_3.length c0_3], .slice A1 l1.length c1, .int .i64 x12_3] rfl zm ?_; (with_reducible refine (kernel_Can.calls a0_0 a0_1 a0_2 _ _ l0_3 _ _ l1 x12_3 t829 t832 _ ?side1 ?side2 ?side3 ?side4 ?side5 A62.out).mono ?_); (case side1 => repeat (first | exact (Kd.C_below HR0_3.out HB.out) | (with_reducible refine Kd.C_alloc ?_ _) | (with_reducible refine Kd.C_drewN ?_ _) | (with_reducible refine Kd.C_drew ?_))); (case side2 => exact HC0_3.out); (case side3 => repeat (first | exact (Kd.C_below HR1.out HB.out) | (with_reducible refine Kd.C_alloc ?_ _) | (with_reducible refine Kd.C_drewN ?_ _) | (with_reducible refine Kd.C_drew ?_))); (case side4 => exact HC1.out); (case side5 => exact Glob.below HG.out zb); rintro e w107 ⟨v830, rfl, ho0, hb⟩; refine ⟨_, rfl, ?_⟩; have n0_ := zh (Kd.V_below (zV HO_7) hb); have n1_ := zh (Kd.V_below (zV HO_9) hb); have n2_ := zh (Kd.V_lower (Kd.V_mono (ok' := fun k_ => k_ ≠ gb814) ho0 (fun k_ hk_ => (Kd.freshB (g := gb814) (o := .cells #[.int .i64 a0_0, .int .i64 a0_1, .int .i64 a0_2, .slice A0_3 l0_3.length c0_3] 24 (0, 0)) (zc BK814) k_ hk_))) (below_size zb)); have n3_ := zh (blk_below (g := gb814) (o := .cells #[.int .i64 a0_0, .int .i64 a0_1, .int .i64 a0_2, .slice A0_3 l0_3.length c0_3] 24 (0, 0)) (zc BK814) hb); have n4_ := zh (below_step zb hb); clear HO_7; clear HO_9; clear BK814; clear HB; have HO_7 := n0_; have HO_9 := n1_; have HO831 := n2_; have BK814 := n3_; have HB := n4_; clear n0_ n1_ n2_ n3_ n4_; (try clear hb); (try clear hb2); (try clear hk); (try clear hi); (try clear ho0)))
                  replace HO_7 := zh (Kd.V_drew HO_7.out)
                  replace HO_9 := zh (Kd.V_drew HO_9.out)
                  replace HO831 := zh (Kd.V_drew HO831.out)
                  replace BK814 := zh (blk_drew BK814.out)
                  replace HB := zh (below_drew1 HB.out)
                  obtain ⟨Ao109, co109, eo109⟩ := Kd.V_slice HO831.out
                  (first | subst eo109 | (injection eo109 with f1_ f2_ f3_; have f4_ := f1_.symm; have f5_ := f3_.symm; clear f1_ f2_ f3_; subst f4_; subst f5_))
                  refine start_ (n := 33) (S := fun w' => True) (ds := []) (Array.replicate 33 false) zk rfl rfl trivial (fun hHeld => ?_); refine with_tabW saronlaw06_KernelOne.tab15 saronlaw06_KernelOne.bits15 (fun HT_ HW_ => ?_)
                  generalize w107.drew = w108 at HO_7 HO_9 HO831 BK814 HB hHeld ⊢
                  refine zu 0 ?_
                  refine zu 1 ?_
                  refine zu 2 ?_
                  refine zu 3 ?_
                  refine zu 4 ?_
                  refine zu 5 ?_
                  refine zu 6 ?_
                  refine zu 7 ?_
                  refine zu 8 ?_
                  refine zu 9 ?_
                  refine zu 10 ?_
                  refine zn 11 ?_
                  refine zn 12 ?_
                  refine zn 13 ?_
                  refine zn 14 ?_
                  refine zn 15 ?_
                  refine zn 16 ?_
                  refine zn 17 ?_
                  refine zn 18 ?_
                  refine zn 19 ?_
                  refine zn 20 ?_
                  refine zn 21 ?_
                  refine zn 22 ?_
                  refine zn 23 ?_
                  refine zn 24 ?_
                  refine zn 25 ?_
                  refine zn 26 ?_
                  refine zn 27 ?_
                  refine zn 28 ?_
                  refine zn 29 ?_
                  refine zn 30 ?_
                  refine zu 31 ?_
                  refine zu 32 ?_
                  refine zd ?_
                  try go_wp2
                  go_roundg k3
                  case measure => have := HJ5.out; have := HJ48.out; have := HK3.out; omega
                  case rel => exact ⟨(decide ((t829.length : Int) > 1)), (wrap64 (x12_3 + 1)), ze, ze, H', ⟨by have := HJ5.out; have := HJ48.out; have := HK3.out; omega⟩, ⟨zV HO_7⟩, ⟨zV HO_9⟩, ⟨zc BK814⟩, ⟨zb⟩⟩
              ·rw [if_neg c63] at H
               have c63b0 : (t832 == 0) = false := beq_eq_false_iff_ne.mpr c63
               have c63b1 : (t832 != 0) = true := bne_iff_ne.mpr c63
               obtain rfl := Option.some.inj H
               have hcz110_0 : wr.cell? ⟨gb814, 0, none⟩ = some (.int .i64 a0_0) := vb BK814 0
               have hcz110_1 : wr.cell? ⟨gb814, 1, none⟩ = some (.int .i64 a0_1) := vb BK814 1
               have hcz110_2 : wr.cell? ⟨gb814, 2, none⟩ = some (.int .i64 a0_2) := vb BK814 2
               have hcz110_3 : wr.cell? ⟨gb814, 3, none⟩ = some (.slice A0_3 l0_3.length c0_3) := vb BK814 3
               have hfz110_0 := blk_frozen BK814.out 0
               have hfz110_1 := blk_frozen BK814.out 1
               have hfz110_2 := blk_frozen BK814.out 2
               have hfz110_3 := blk_frozen BK814.out 3
               try go_wp2_with (first | ((with_reducible refine gate_callee (f := 24) rfl ?_); refine goesL_ (some 137) rfl rfl Tryd.func24 zk rfl #[.agg #[.int .i64 a0_0, .int .i64 a0_1, .int .i64 a0_2, .slice A0_3 l0_3.length c0_3], .slice A1 l1.length c1, .int .i64 x12_3] rfl zm ?_; (with_reducible refine (kernel_Can.calls a0_0 a0_1 a0_2 _ _ l0_3 _ _ l1 x12_3 t829 t832 _ ?side1 ?side2 ?side3 ?side4 ?side5 A62.out).mono ?_); (case side1 => repeat (first | exact (Kd.C_below HR0_3.out HB.out) | (with_reducible refine Kd.C_alloc ?_ _) | (with_reducible refine Kd.C_drewN ?_ _) | (with_reducible refine Kd.C_drew ?_))); (case side2 => exact HC0_3.out); (case side3 => repeat (first | exact (Kd.C_below HR1.out HB.out) | (with_reducible refine Kd.C_alloc ?_ _) | (with_reducible refine Kd.C_drewN ?_ _) | (with_reducible refine Kd.C_drew ?_))); (case side4 => exact HC1.out); (case side5 => exact Glob.below HG.out zb); rintro e w111 ⟨v830, rfl, ho0, hb⟩; refine ⟨_, rfl, ?_⟩; have n0_ := zh (Kd.V_below (zV HO_7) hb); have n1_ := zh (Kd.V_below (zV HO_9) hb); have n2_ := zh (Kd.V_lower (Kd.V_mono (ok' := fun k_ => k_ ≠ gb814) ho0 (fun k_ hk_ => (Kd.freshB (g := gb814) (o := .cells #[.int .i64 a0_0, .int .i64 a0_1, .int .i64 a0_2, .slice A0_3 l0_3.length c0_3] 24 (0, 0)) (zc BK814) k_ hk_))) (below_size zb)); have n3_ := zh (blk_below (g := gb814) (o := .cells #[.int .i64 a0_0, .int .i64 a0_1, .int .i64 a0_2, .slice A0_3 l0_3.length c0_3] 24 (0, 0)) (zc BK814) hb); have n4_ := zh (below_step zb hb); clear HO_7; clear HO_9; clear BK814; clear HB; have HO_7 := n0_; have HO_9 := n1_; have HO831 := n2_; have BK814 := n3_; have HB := n4_; clear n0_ n1_ n2_ n3_ n4_; (try clear hb); (try clear hb2); (try clear hk); (try clear hi); (try clear ho0)))
               replace HO_7 := zh (Kd.V_drew HO_7.out)
               replace HO_9 := zh (Kd.V_drew HO_9.out)
               replace HO831 := zh (Kd.V_drew HO831.out)
               replace BK814 := zh (blk_drew BK814.out)
               replace HB := zh (below_drew1 HB.out)
               refine start_ (n := 33) (S := fun w' => True) (ds := []) (Array.replicate 33 false) zk rfl rfl trivial (fun hHeld => ?_); refine with_tabW saronlaw06_KernelOne.tab15 saronlaw06_KernelOne.bits15 (fun HT_ HW_ => ?_)
               generalize w111.drew = w112 at HO_7 HO_9 HO831 BK814 HB hHeld ⊢
               refine zu 0 ?_
               refine zu 1 ?_
               refine zu 2 ?_
               refine zn 3 ?_
               refine zn 4 ?_
               refine zn 5 ?_
               refine zu 6 ?_
               refine zu 7 ?_
               refine zn 8 ?_
               refine zn 9 ?_
               refine zn 10 ?_
               refine zn 11 ?_
               refine zn 12 ?_
               refine zn 13 ?_
               refine zn 14 ?_
               refine zn 15 ?_
               refine zn 16 ?_
               refine zn 17 ?_
               refine zn 18 ?_
               refine zn 19 ?_
               refine zn 20 ?_
               refine zn 21 ?_
               refine zn 22 ?_
               refine zn 23 ?_
               refine zn 24 ?_
               refine zn 25 ?_
               refine zn 26 ?_
               refine zn 27 ?_
               refine zn 28 ?_
               refine zn 29 ?_
               refine zn 30 ?_
               refine zn 31 ?_
               refine zu 32 ?_
               refine zd ?_
               try go_wp2
               go_ret
               exact ⟨zf, zb⟩
             ·rw [if_neg c61] at H
              have c61b0 : decide (x12_3 < a0_2) = false := decide_eq_false c61
              clear c61
              have H' := zh H
              clear H
              have hcz113_0 : wr.cell? ⟨gb814, 0, none⟩ = some (.int .i64 a0_0) := vb BK814 0
              have hcz113_1 : wr.cell? ⟨gb814, 1, none⟩ = some (.int .i64 a0_1) := vb BK814 1
              have hcz113_2 : wr.cell? ⟨gb814, 2, none⟩ = some (.int .i64 a0_2) := vb BK814 2
              have hcz113_3 : wr.cell? ⟨gb814, 3, none⟩ = some (.slice A0_3 l0_3.length c0_3) := vb BK814 3
              have hfz113_0 := blk_frozen BK814.out 0
              have hfz113_1 := blk_frozen BK814.out 1
              have hfz113_2 := blk_frozen BK814.out 2
              have hfz113_3 := blk_frozen BK814.out 3
              go_wp2
              go_loopg [15] k3 (fun kq v15 w' => ∃ (x15_4 : Int), v15 = .int .i64 x15_4 ∧ Aside0 (saronlaw06_KernelOne.l1 kq l1 t815 t817 t821 x11_3 x15_4 a0_0 a0_1 a0_2 l0_3 = some r) ∧ Aside0 (kq ≤ k3) ∧ Aside0 (Kd.V (Kd.int .i64) 3 w' w.heap.size (fun k_ => k_ ≠ gb814) v818 t817) ∧ Aside0 (Kd.V (Kd.slice 3 (Kd.int .i64)) 25 w' w.heap.size (fun k_ => k_ ≠ gb814) v822 t821) ∧ Aside0 (w'.heap[gb814]? = some (.cells #[.int .i64 a0_0, .int .i64 a0_1, .int .i64 a0_2, (.slice A0_3 l0_3.length c0_3)] 24 (0, 0))) ∧ Aside0 (Below w.heap.size w w'))
              case atStart => exact ⟨(0), ze, H', ⟨Nat.le_refl _⟩, ⟨zV HO_7⟩, ⟨zV HO_9⟩, ⟨zc BK814⟩, ⟨zb⟩⟩
              case round =>
               as_aux_lemma =>
                clear H'
                try clear c1
                try clear c2
                try clear p2
                try clear c6
                try clear p6
                try clear c10
                try clear c24
                try clear c61
                try clear c61b0
                try clear c63
                try clear c63b0
                try clear c63b1
                try clear p64
                try clear c101
                try clear hcz106_0
                try clear hcz106_1
                try clear hcz106_2
                try clear hcz106_3
                try clear hcz110_0
                try clear hcz110_1
                try clear hcz110_2
                try clear hcz110_3
                try clear hcz113_0
                try clear hcz113_1
                try clear hcz113_2
                try clear hcz113_3
                try clear hfz106_0
                try clear hfz106_1
                try clear hfz106_2
                try clear hfz106_3
                try clear hfz110_0
                try clear hfz110_1
                try clear hfz110_2
                try clear hfz110_3
                try clear hfz113_0
                try clear hfz113_1
                try clear hfz113_2
                try clear hfz113_3
                obtain ⟨x15_4, rfl, HA, HK4, HO_7, HO_9, BK814, HB⟩ := hrel
                cases gk with
                | zero => exact absurd HA.out (by simp [saronlaw06_KernelOne.l1])
                | succ k4 =>
                 have H := HA.out
                 clear HA
                 simp only [saronlaw06_KernelOne.l1] at H
                 have HC114 := zh H
                 clear H
                 go_upto_region 19 with (fail)
                 go_cut [186] (fun v186 wc => ∃ (kq : Nat) (x186_113 : Bool), v186 = .bool x186_113 ∧ Aside0 (saronlaw06_KernelOne.j4 kq l1 t815 t817 t821 x11_3 x15_4 x186_113 a0_0 a0_1 a0_2 l0_3 = some r) ∧ Aside0 (kq ≤ k4) ∧ Aside0 (Kd.V (Kd.int .i64) 3 wc w.heap.size (fun k_ => k_ ≠ gb814) v818 t817) ∧ Aside0 (Kd.V (Kd.slice 3 (Kd.int .i64)) 25 wc w.heap.size (fun k_ => k_ ≠ gb814) v822 t821) ∧ Aside0 (wc.heap[gb814]? = some (.cells #[.int .i64 a0_0, .int .i64 a0_1, .int .i64 a0_2, (.slice A0_3 l0_3.length c0_3)] 24 (0, 0))) ∧ Aside0 (Below w.heap.size w wc))
                 case first =>
                  have H := HC114.out
                  clear HC114
                  by_cases c115 : t815 = 1
                  ·rw [if_pos c115] at H
                   have c115b0 : (t815 == 1) = true := beq_iff_eq.mpr c115
                   have c115b1 : (t815 != 1) = false := bne_eq_false_iff_eq.mpr c115
                   clear c115
                   (first | rw [c115b0] | (simp only [i64_w, i32_w]; rw [c115b0]) | skip)
                   have H' := zh H
                   clear H
                   obtain ⟨Ao116, co116, eo116⟩ := Kd.V_slice HO_9.out
                   subst eo116
                   go_wp2
                   go_meet
                   case rel => exact ⟨_, (decide (x15_4 < (t821.length : Int))), ze, H', ⟨by have := HJ5.out; have := HJ48.out; have := HK3.out; have := HK4.out; first | omega | exact Nat.le_refl _⟩, ⟨zV HO_7⟩, ⟨zV HO_9⟩, ⟨zc BK814⟩, ⟨zb⟩⟩
                  ·rw [if_neg c115] at H
                   have c115b0 : (t815 == 1) = false := beq_eq_false_iff_ne.mpr c115
                   have c115b1 : (t815 != 1) = true := bne_iff_ne.mpr c115
                   (first | rw [c115b0] | (simp only [i64_w, i32_w]; rw [c115b0]) | skip)
                   have H' := zh H
                   clear H
                   go_wp2
                   go_meet
                   case rel => exact ⟨_, (false), ze, H', ⟨by have := HJ5.out; have := HJ48.out; have := HK3.out; have := HK4.out; first | omega | exact Nat.le_refl _⟩, ⟨zV HO_7⟩, ⟨zV HO_9⟩, ⟨zc BK814⟩, ⟨zb⟩⟩
                 case rest =>
                  as_aux_lemma =>
                   clear HC114
                   try clear c1
                   try clear c2
                   try clear p2
                   try clear c6
                   try clear p6
                   try clear c10
                   try clear c11
                   try clear c24
                   try clear c61
                   try clear c61b0
                   try clear c63
                   try clear c63b0
                   try clear c63b1
                   try clear p64
                   try clear c101
                   try clear c115
                   try clear c115b0
                   try clear c115b1
                   try clear hcz106_0
                   try clear hcz106_1
                   try clear hcz106_2
                   try clear hcz106_3
                   try clear hcz110_0
                   try clear hcz110_1
                   try clear hcz110_2
                   try clear hcz110_3
                   try clear hcz113_0
                   try clear hcz113_1
                   try clear hcz113_2
                   try clear hcz113_3
                   try clear hfz106_0
                   try clear hfz106_1
                   try clear hfz106_2
                   try clear hfz106_3
                   try clear hfz110_0
                   try clear hfz110_1
                   try clear hfz110_2
                   try clear hfz110_3
                   try clear hfz113_0
                   try clear hfz113_1
                   try clear hfz113_2
                   try clear hfz113_3
                   try clear p2
                   try clear p6
                   try clear p64
                   obtain ⟨kq, x186_113, rfl, HA, HJ113, HO_7, HO_9, BK814, HB⟩ := hcut
                   cases kq with
                   | zero => exact absurd HA.out (by simp [saronlaw06_KernelOne.j4])
                   | succ kj113 =>
                    have H := HA.out
                    clear HA
                    simp only [saronlaw06_KernelOne.j4] at H
                    by_cases c117 : x186_113 = true
                    ·subst c117
                     have H1 : (if 0 ≤ x15_4 then (if x15_4 < (l1.length : Int) then ((kernel_Part.f a0_0 a0_1 a0_2 l0_3 t817 ((rd_T60 l1 x15_4).f0)).bind fun bt837 => (if bt837.2 = 0 then (if x15_4 < (t821.length : Int) then ((saronref00_Equal.f kj113 bt837.1 (rd_L4 t821 x15_4)).bind fun t842 => (if t842 = true then (saronlaw06_KernelOne.l1 kj113 l1 t815 t817 t821 x11_3 (wrap64 (x15_4 + 1)) a0_0 a0_1 a0_2 l0_3) else (some false))) else (none)) else (some false))) else (none)) else (none)) = some r := by rw [if_pos rfl] at H; exact H
                     clear H
                     have H := H1
                     clear H1
                     by_cases c118 : 0 ≤ x15_4
                     ·rw [if_pos c118] at H
                      have c118b0 : decide (0 ≤ x15_4) = true := decide_eq_true c118
                      clear c118
                      by_cases c119 : x15_4 < (l1.length : Int)
                      ·rw [if_pos c119] at H
                       have c119b0 : decide (x15_4 < (l1.length : Int)) = true := decide_eq_true c119
                       clear c119
                       replace H := Option.bind_eq_some_iff.mp H
                       obtain ⟨⟨t837, t840⟩, A1200, H⟩ := H
                       replace H : (if t840 = 0 then (if x15_4 < (t821.length : Int) then ((saronref00_Equal.f kj113 t837 (rd_L4 t821 x15_4)).bind fun t842 => (if t842 = true then (saronlaw06_KernelOne.l1 kj113 l1 t815 t817 t821 x11_3 (wrap64 (x15_4 + 1)) a0_0 a0_1 a0_2 l0_3) else (some false))) else (none)) else (some false)) = some r := H
                       have A120 := zh A1200
                       clear A1200
                       by_cases c121 : t840 = 0
                       ·rw [if_pos c121] at H
                        have c121b0 : (t840 == 0) = true := beq_iff_eq.mpr c121
                        have c121b1 : (t840 != 0) = false := bne_eq_false_iff_eq.mpr c121
                        clear c121
                        by_cases c122 : x15_4 < (t821.length : Int)
                        ·rw [if_pos c122] at H
                         have c122b0 : decide (x15_4 < (t821.length : Int)) = true := decide_eq_true c122
                         clear c122
                         replace H := Option.bind_eq_some_iff.mp H
                         obtain ⟨t842, A1230, H⟩ := H
                         replace H : (if t842 = true then (saronlaw06_KernelOne.l1 kj113 l1 t815 t817 t821 x11_3 (wrap64 (x15_4 + 1)) a0_0 a0_1 a0_2 l0_3) else (some false)) = some r := H
                         have A123 := zh A1230
                         clear A1230
                         by_cases c124 : t842 = true
                         ·subst c124
                          have H1 : (saronlaw06_KernelOne.l1 kj113 l1 t815 t817 t821 x11_3 (wrap64 (x15_4 + 1)) a0_0 a0_1 a0_2 l0_3) = some r := by rw [if_pos rfl] at H; exact H
                          clear H
                          have H := H1
                          clear H1
                          have H' := zh H
                          clear H
                          try go_wp2
                          replace HO_7 := zh (Kd.V_drew HO_7.out)
                          replace HO_9 := zh (Kd.V_drew HO_9.out)
                          replace BK814 := zh (blk_drew BK814.out)
                          replace HB := zh (below_drew1 HB.out)
                          have p836 : 0 ≤ (x15_4 : Int) := of_decide_eq_true zs
                          have q836 : x15_4 < (l1.length : Int) := of_decide_eq_true zs
                          obtain ⟨ad836, A836_1, c836_1, e836, hx836_0, hx836_1, hl836_1, hi836_1⟩ := at_T60 HR1.out x15_4 p836 q836
                          have hw836_1 := hx836_1
                          have hw836_0 := hx836_0
                          cases e836
                          replace hx836_0 := ve HB.out hx836_0
                          replace hx836_1 := ve HB.out hx836_1
                          have HR836_1 := zh hi836_1
                          have HC836_1 := zh hl836_1
                          clear hi836_1 hl836_1
                          replace p836 := eq_true p836
                          replace q836 := eq_true q836
                          obtain ⟨Ao126, co126, eo126⟩ := Kd.V_slice HO_7.out
                          (first | subst eo126 | (injection eo126 with f1_ f2_ f3_; have f4_ := f1_.symm; have f5_ := f3_.symm; clear f1_ f2_ f3_; subst f4_; subst f5_))
                          refine start_ (n := 13) (S := fun w' => w'.cell? ⟨gb814, 0, none⟩ = some (.int .i64 a0_0) ∧ w'.cell? ⟨gb814, 1, none⟩ = some (.int .i64 a0_1) ∧ w'.cell? ⟨gb814, 2, none⟩ = some (.int .i64 a0_2) ∧ w'.cell? ⟨gb814, 3, none⟩ = some (.slice A0_3 l0_3.length c0_3) ∧ w'.cell? (ad836.add ((x15_4).toNat * 2)) = some (.int .i64 ((rd_T60 l1 x15_4).f0)) ∧ w'.cell? ⟨(ad836.add ((x15_4).toNat * 2)).block, (ad836.add ((x15_4).toNat * 2)).off + 1, none⟩ = some (.slice A836_1 ((rd_T60 l1 x15_4).f1).length c836_1)) (ds := []) (Array.replicate 13 false) zk rfl rfl ⟨vb BK814 0, vb BK814 1, vb BK814 2, vb BK814 3, (ve HB.out hw836_0 :), (ve HB.out hw836_1 :)⟩ (fun hHeld => ?_); refine with_tabW saronlaw06_KernelOne.tab21 saronlaw06_KernelOne.bits21 (fun HT_ HW_ => ?_)
                          generalize wc.drew = w125 at HO_7 HO_9 BK814 HB HR836_1 hx836_0 hx836_1 hHeld ⊢
                          refine zu 1 ?_
                          refine zu 2 ?_
                          refine zu 3 ?_
                          refine zu 4 ?_
                          refine zu 5 ?_
                          refine zt 0 ?_
                          refine zt 6 ?_
                          refine zo 7 (fun K hK => ?_)
                          refine goes_ Tryd.func16 zk rfl #[.agg #[.int .i64 a0_0, .int .i64 a0_1, .int .i64 a0_2, .slice A0_3 l0_3.length c0_3], .slice Ao126 t817.length co126, .int .i64 ((rd_T60 l1 x15_4).f0)] (by rfl) rfl rfl zm ?_
                          with_reducible refine (kernel_Part.calls a0_0 a0_1 a0_2 _ _ l0_3 _ _ t817 ((rd_T60 l1 x15_4).f0) t837 t840 _ ?side1 ?side2 ?side3 ?side4 ?side5 A120.out).mono ?_
                          (case side1 => repeat (first | exact (Kd.C_below HR0_3.out HB.out) | (with_reducible refine Kd.C_alloc ?_ _) | (with_reducible refine Kd.C_drewN ?_ _) | (with_reducible refine Kd.C_drew ?_)))
                          (case side2 => exact HC0_3.out)
                          (case side3 => repeat (first | exact (Kd.V_reads' HO_7.out).2.2 | (with_reducible refine Kd.C_alloc ?_ _) | (with_reducible refine Kd.C_drewN ?_ _) | (with_reducible refine Kd.C_drew ?_)))
                          (case side4 => exact (Kd.V_reads' HO_7.out).2.1)
                          (case side5 => exact Glob.below HG.out zb)
                          rintro e w127 ⟨v838, rfl, ho0, hb⟩
                          refine ⟨_, rfl, ?_⟩
                          replace HO_7 := zh (Kd.V_below (zV HO_7) hb)
                          replace HO_9 := zh (Kd.V_below (zV HO_9) hb)
                          have HO839 := zh (Kd.V_lower (Kd.V_mono (ok' := fun k_ => k_ ≠ gb814) ho0 (fun k_ hk_ => (Kd.freshB (g := gb814) (o := .cells #[.int .i64 a0_0, .int .i64 a0_1, .int .i64 a0_2, .slice A0_3 l0_3.length c0_3] 24 (0, 0)) (zc BK814) k_ hk_))) (below_size zb))
                          replace BK814 := zh (blk_below (g := gb814) (o := .cells #[.int .i64 a0_0, .int .i64 a0_1, .int .i64 a0_2, .slice A0_3 l0_3.length c0_3] 24 (0, 0)) (zc BK814) hb)
                          replace HB := zh (below_step zb hb)
                          (try clear hb)
                          (try clear hb2)
                          (try clear hk)
                          (try clear hi)
                          (try clear ho0)
                          refine hK.out _ _ ⟨vb BK814 0, vb BK814 1, vb BK814 2, vb BK814 3, (ve HB.out hw836_0 :), (ve HB.out hw836_1 :)⟩ (fun hHeld => ?_)
                          clear hK K
                          refine zr 197 _ ?_
                          refine zu 8 ?_
                          refine zu 9 ?_
                          refine zu 10 ?_
                          refine zu 11 ?_
                          refine zu 12 ?_
                          refine zd ?_
                          obtain ⟨Ao128, co128, eo128⟩ := Kd.V_slice HO_9.out
                          subst eo128
                          have p841 : 0 ≤ (x15_4 : Int) := of_decide_eq_true zs
                          have q841 : x15_4 < (t821.length : Int) := of_decide_eq_true zs
                          obtain ⟨ad841, A841_0, c841_0, e841, hx841_0, hl841_0, hi841_0⟩ := at_L4 (Kd.V_reads' HO_9.out).2.2 x15_4 p841 q841
                          cases e841
                          obtain ⟨ce841, hce841, hMe841, hcc841⟩ := Kd.V_get HO_9.out [] x15_4 p841 (by first | exact q841 | exact of_decide_eq_true zs | (have e_ := (Kd.V_reads' HO_9.out).1; omega))
                          obtain ⟨ua841_0, uc841_0, rfl, ul841_0, ge841_0⟩ := Kd.FK_slice_open hMe841
                          have hv841_0 := hcc841 0 _ rfl
                          rw [Nat.add_zero, show ((Kd.slice 3 (Kd.int .i64))).sz = 1 from rfl, Nat.mul_one] at hv841_0
                          replace hv841_0 := Option.some.inj (hv841_0.symm.trans hx841_0)
                          injection hv841_0 with hva_ hvn_ hvc_
                          rw [hva_] at ge841_0
                          rw [hvc_] at ul841_0
                          have HL841_0 := zh (show Kd.V (Kd.int .i64) 3 _ w.heap.size _ _ (rd_L4 t821 x15_4) from Kd.V_mk ul841_0 ge841_0)
                          clear hva_ hvn_ hvc_ ge841_0 ul841_0 hcc841 hce841
                          have HR841_0 := zh hi841_0
                          have HC841_0 := zh hl841_0
                          clear hi841_0 hl841_0
                          replace p841 := eq_true p841
                          replace q841 := eq_true q841
                          obtain ⟨Ao129, co129, eo129⟩ := Kd.V_slice HO839.out
                          subst eo129
                          try go_wp2_with (first | (go_at_call 18; (with_reducible refine (saronref00_Equal.calls kj113 _ _ t837 _ _ (rd_L4 t821 x15_4) true _ ?side1 ?side2 ?side3 ?side4 A123.out).mono ?_); (case side1 => repeat (first | exact (Kd.V_reads' HO839.out).2.2 | (with_reducible refine Kd.C_alloc ?_ _) | (with_reducible refine Kd.C_drewN ?_ _) | (with_reducible refine Kd.C_drew ?_))); (case side2 => exact (Kd.V_reads' HO839.out).2.1); (case side3 => repeat (first | exact (by repeat (first | (with_reducible exact HR841_0.out) | (with_reducible refine Kd.C_alloc ?_ _) | (with_reducible refine Kd.C_drewN ?_ _) | (with_reducible refine Kd.C_drew ?_) | exact HR841_0.out)) | (with_reducible refine Kd.C_alloc ?_ _) | (with_reducible refine Kd.C_drewN ?_ _) | (with_reducible refine Kd.C_drew ?_))); (case side4 => exact HC841_0.out); rintro e w' ⟨rfl, ⟨nd, rfl⟩⟩))
                          go_roundg kj113
                          case measure => have := HJ5.out; have := HJ48.out; have := HK3.out; have := HK4.out; have := HJ113.out; omega
                          case rel => exact ⟨(wrap64 (x15_4 + 1)), ze, H', ⟨by have := HJ5.out; have := HJ48.out; have := HK3.out; have := HK4.out; have := HJ113.out; omega⟩, ⟨zV HO_7⟩, ⟨zV HO_9⟩, ⟨zc BK814⟩, ⟨zb⟩⟩
                         ·replace c124 := Bool.eq_false_iff.mpr c124
                          subst c124
                          have H1 : (some false) = some r := by rw [if_neg (show ¬ (false = true) by decide)] at H; exact H
                          clear H
                          have H := H1
                          clear H1
                          obtain rfl := Option.some.inj H
                          try go_wp2
                          replace HO_7 := zh (Kd.V_drew HO_7.out)
                          replace HO_9 := zh (Kd.V_drew HO_9.out)
                          replace BK814 := zh (blk_drew BK814.out)
                          replace HB := zh (below_drew1 HB.out)
                          have p836 : 0 ≤ (x15_4 : Int) := of_decide_eq_true zs
                          have q836 : x15_4 < (l1.length : Int) := of_decide_eq_true zs
                          obtain ⟨ad836, A836_1, c836_1, e836, hx836_0, hx836_1, hl836_1, hi836_1⟩ := at_T60 HR1.out x15_4 p836 q836
                          have hw836_1 := hx836_1
                          have hw836_0 := hx836_0
                          cases e836
                          replace hx836_0 := ve HB.out hx836_0
                          replace hx836_1 := ve HB.out hx836_1
                          have HR836_1 := zh hi836_1
                          have HC836_1 := zh hl836_1
                          clear hi836_1 hl836_1
                          replace p836 := eq_true p836
                          replace q836 := eq_true q836
                          obtain ⟨Ao131, co131, eo131⟩ := Kd.V_slice HO_7.out
                          (first | subst eo131 | (injection eo131 with f1_ f2_ f3_; have f4_ := f1_.symm; have f5_ := f3_.symm; clear f1_ f2_ f3_; subst f4_; subst f5_))
                          refine start_ (n := 13) (S := fun w' => w'.cell? ⟨gb814, 0, none⟩ = some (.int .i64 a0_0) ∧ w'.cell? ⟨gb814, 1, none⟩ = some (.int .i64 a0_1) ∧ w'.cell? ⟨gb814, 2, none⟩ = some (.int .i64 a0_2) ∧ w'.cell? ⟨gb814, 3, none⟩ = some (.slice A0_3 l0_3.length c0_3) ∧ w'.cell? (ad836.add ((x15_4).toNat * 2)) = some (.int .i64 ((rd_T60 l1 x15_4).f0)) ∧ w'.cell? ⟨(ad836.add ((x15_4).toNat * 2)).block, (ad836.add ((x15_4).toNat * 2)).off + 1, none⟩ = some (.slice A836_1 ((rd_T60 l1 x15_4).f1).length c836_1)) (ds := []) (Array.replicate 13 false) zk rfl rfl ⟨vb BK814 0, vb BK814 1, vb BK814 2, vb BK814 3, (ve HB.out hw836_0 :), (ve HB.out hw836_1 :)⟩ (fun hHeld => ?_); refine with_tabW saronlaw06_KernelOne.tab21 saronlaw06_KernelOne.bits21 (fun HT_ HW_ => ?_)
                          generalize wc.drew = w130 at HO_7 HO_9 BK814 HB HR836_1 hx836_0 hx836_1 hHeld ⊢
                          refine zu 1 ?_
                          refine zu 2 ?_
                          refine zu 3 ?_
                          refine zu 4 ?_
                          refine zu 5 ?_
                          refine zt 0 ?_
                          refine zt 6 ?_
                          refine zo 7 (fun K hK => ?_)
                          refine goes_ Tryd.func16 zk rfl #[.agg #[.int .i64 a0_0, .int .i64 a0_1, .int .i64 a0_2, .slice A0_3 l0_3.length c0_3], .slice Ao131 t817.length co131, .int .i64 ((rd_T60 l1 x15_4).f0)] (by rfl) rfl rfl zm ?_
                          with_reducible refine (kernel_Part.calls a0_0 a0_1 a0_2 _ _ l0_3 _ _ t817 ((rd_T60 l1 x15_4).f0) t837 t840 _ ?side1 ?side2 ?side3 ?side4 ?side5 A120.out).mono ?_
                          (case side1 => repeat (first | exact (Kd.C_below HR0_3.out HB.out) | (with_reducible refine Kd.C_alloc ?_ _) | (with_reducible refine Kd.C_drewN ?_ _) | (with_reducible refine Kd.C_drew ?_)))
                          (case side2 => exact HC0_3.out)
                          (case side3 => repeat (first | exact (Kd.V_reads' HO_7.out).2.2 | (with_reducible refine Kd.C_alloc ?_ _) | (with_reducible refine Kd.C_drewN ?_ _) | (with_reducible refine Kd.C_drew ?_)))
                          (case side4 => exact (Kd.V_reads' HO_7.out).2.1)
                          (case side5 => exact Glob.below HG.out zb)
                          rintro e w132 ⟨v838, rfl, ho0, hb⟩
                          refine ⟨_, rfl, ?_⟩
                          replace HO_7 := zh (Kd.V_below (zV HO_7) hb)
                          replace HO_9 := zh (Kd.V_below (zV HO_9) hb)
                          have HO839 := zh (Kd.V_lower (Kd.V_mono (ok' := fun k_ => k_ ≠ gb814) ho0 (fun k_ hk_ => (Kd.freshB (g := gb814) (o := .cells #[.int .i64 a0_0, .int .i64 a0_1, .int .i64 a0_2, .slice A0_3 l0_3.length c0_3] 24 (0, 0)) (zc BK814) k_ hk_))) (below_size zb))
                          replace BK814 := zh (blk_below (g := gb814) (o := .cells #[.int .i64 a0_0, .int .i64 a0_1, .int .i64 a0_2, .slice A0_3 l0_3.length c0_3] 24 (0, 0)) (zc BK814) hb)
                          replace HB := zh (below_step zb hb)
                          (try clear hb)
                          (try clear hb2)
                          (try clear hk)
                          (try clear hi)
                          (try clear ho0)
                          refine hK.out _ _ ⟨vb BK814 0, vb BK814 1, vb BK814 2, vb BK814 3, (ve HB.out hw836_0 :), (ve HB.out hw836_1 :)⟩ (fun hHeld => ?_)
                          clear hK K
                          refine zr 197 _ ?_
                          refine zu 8 ?_
                          refine zu 9 ?_
                          refine zu 10 ?_
                          refine zu 11 ?_
                          refine zu 12 ?_
                          refine zd ?_
                          obtain ⟨Ao133, co133, eo133⟩ := Kd.V_slice HO_9.out
                          subst eo133
                          have p841 : 0 ≤ (x15_4 : Int) := of_decide_eq_true zs
                          have q841 : x15_4 < (t821.length : Int) := of_decide_eq_true zs
                          obtain ⟨ad841, A841_0, c841_0, e841, hx841_0, hl841_0, hi841_0⟩ := at_L4 (Kd.V_reads' HO_9.out).2.2 x15_4 p841 q841
                          cases e841
                          obtain ⟨ce841, hce841, hMe841, hcc841⟩ := Kd.V_get HO_9.out [] x15_4 p841 (by first | exact q841 | exact of_decide_eq_true zs | (have e_ := (Kd.V_reads' HO_9.out).1; omega))
                          obtain ⟨ua841_0, uc841_0, rfl, ul841_0, ge841_0⟩ := Kd.FK_slice_open hMe841
                          have hv841_0 := hcc841 0 _ rfl
                          rw [Nat.add_zero, show ((Kd.slice 3 (Kd.int .i64))).sz = 1 from rfl, Nat.mul_one] at hv841_0
                          replace hv841_0 := Option.some.inj (hv841_0.symm.trans hx841_0)
                          injection hv841_0 with hva_ hvn_ hvc_
                          rw [hva_] at ge841_0
                          rw [hvc_] at ul841_0
                          have HL841_0 := zh (show Kd.V (Kd.int .i64) 3 _ w.heap.size _ _ (rd_L4 t821 x15_4) from Kd.V_mk ul841_0 ge841_0)
                          clear hva_ hvn_ hvc_ ge841_0 ul841_0 hcc841 hce841
                          have HR841_0 := zh hi841_0
                          have HC841_0 := zh hl841_0
                          clear hi841_0 hl841_0
                          replace p841 := eq_true p841
                          replace q841 := eq_true q841
                          obtain ⟨Ao134, co134, eo134⟩ := Kd.V_slice HO839.out
                          subst eo134
                          try go_wp2_with (first | (go_at_call 18; (with_reducible refine (saronref00_Equal.calls kj113 _ _ t837 _ _ (rd_L4 t821 x15_4) false _ ?side1 ?side2 ?side3 ?side4 A123.out).mono ?_); (case side1 => repeat (first | exact (Kd.V_reads' HO839.out).2.2 | (with_reducible refine Kd.C_alloc ?_ _) | (with_reducible refine Kd.C_drewN ?_ _) | (with_reducible refine Kd.C_drew ?_))); (case side2 => exact (Kd.V_reads' HO839.out).2.1); (case side3 => repeat (first | exact (by repeat (first | (with_reducible exact HR841_0.out) | (with_reducible refine Kd.C_alloc ?_ _) | (with_reducible refine Kd.C_drewN ?_ _) | (with_reducible refine Kd.C_drew ?_) | exact HR841_0.out)) | (with_reducible refine Kd.C_alloc ?_ _) | (with_reducible refine Kd.C_drewN ?_ _) | (with_reducible refine Kd.C_drew ?_))); (case side4 => exact HC841_0.out); rintro e w' ⟨rfl, ⟨nd, rfl⟩⟩))
                          go_ret
                          exact ⟨zf, zb⟩
                        ·rw [if_neg c122] at H
                         exact absurd H (by simp)
                       ·rw [if_neg c121] at H
                        have c121b0 : (t840 == 0) = false := beq_eq_false_iff_ne.mpr c121
                        have c121b1 : (t840 != 0) = true := bne_iff_ne.mpr c121
                        obtain rfl := Option.some.inj H
                        try go_wp2
                        replace HO_7 := zh (Kd.V_drew HO_7.out)
                        replace HO_9 := zh (Kd.V_drew HO_9.out)
                        replace BK814 := zh (blk_drew BK814.out)
                        replace HB := zh (below_drew1 HB.out)
                        have p836 : 0 ≤ (x15_4 : Int) := of_decide_eq_true zs
                        have q836 : x15_4 < (l1.length : Int) := of_decide_eq_true zs
                        obtain ⟨ad836, A836_1, c836_1, e836, hx836_0, hx836_1, hl836_1, hi836_1⟩ := at_T60 HR1.out x15_4 p836 q836
                        have hw836_1 := hx836_1
                        have hw836_0 := hx836_0
                        cases e836
                        replace hx836_0 := ve HB.out hx836_0
                        replace hx836_1 := ve HB.out hx836_1
                        have HR836_1 := zh hi836_1
                        have HC836_1 := zh hl836_1
                        clear hi836_1 hl836_1
                        replace p836 := eq_true p836
                        replace q836 := eq_true q836
                        obtain ⟨Ao136, co136, eo136⟩ := Kd.V_slice HO_7.out
                        (first | subst eo136 | (injection eo136 with f1_ f2_ f3_; have f4_ := f1_.symm; have f5_ := f3_.symm; clear f1_ f2_ f3_; subst f4_; subst f5_))
                        refine start_ (n := 13) (S := fun w' => w'.cell? ⟨gb814, 0, none⟩ = some (.int .i64 a0_0) ∧ w'.cell? ⟨gb814, 1, none⟩ = some (.int .i64 a0_1) ∧ w'.cell? ⟨gb814, 2, none⟩ = some (.int .i64 a0_2) ∧ w'.cell? ⟨gb814, 3, none⟩ = some (.slice A0_3 l0_3.length c0_3) ∧ w'.cell? (ad836.add ((x15_4).toNat * 2)) = some (.int .i64 ((rd_T60 l1 x15_4).f0)) ∧ w'.cell? ⟨(ad836.add ((x15_4).toNat * 2)).block, (ad836.add ((x15_4).toNat * 2)).off + 1, none⟩ = some (.slice A836_1 ((rd_T60 l1 x15_4).f1).length c836_1)) (ds := []) (Array.replicate 13 false) zk rfl rfl ⟨vb BK814 0, vb BK814 1, vb BK814 2, vb BK814 3, (ve HB.out hw836_0 :), (ve HB.out hw836_1 :)⟩ (fun hHeld => ?_); refine with_tabW saronlaw06_KernelOne.tab21 saronlaw06_KernelOne.bits21 (fun HT_ HW_ => ?_)
                        generalize wc.drew = w135 at HO_7 HO_9 BK814 HB HR836_1 hx836_0 hx836_1 hHeld ⊢
                        refine zu 1 ?_
                        refine zu 2 ?_
                        refine zu 3 ?_
                        refine zu 4 ?_
                        refine zu 5 ?_
                        refine zt 0 ?_
                        refine zt 6 ?_
                        refine zo 7 (fun K hK => ?_)
                        refine goes_ Tryd.func16 zk rfl #[.agg #[.int .i64 a0_0, .int .i64 a0_1, .int .i64 a0_2, .slice A0_3 l0_3.length c0_3], .slice Ao136 t817.length co136, .int .i64 ((rd_T60 l1 x15_4).f0)] (by rfl) rfl rfl zm ?_
                        with_reducible refine (kernel_Part.calls a0_0 a0_1 a0_2 _ _ l0_3 _ _ t817 ((rd_T60 l1 x15_4).f0) t837 t840 _ ?side1 ?side2 ?side3 ?side4 ?side5 A120.out).mono ?_
                        (case side1 => repeat (first | exact (Kd.C_below HR0_3.out HB.out) | (with_reducible refine Kd.C_alloc ?_ _) | (with_reducible refine Kd.C_drewN ?_ _) | (with_reducible refine Kd.C_drew ?_)))
                        (case side2 => exact HC0_3.out)
                        (case side3 => repeat (first | exact (Kd.V_reads' HO_7.out).2.2 | (with_reducible refine Kd.C_alloc ?_ _) | (with_reducible refine Kd.C_drewN ?_ _) | (with_reducible refine Kd.C_drew ?_)))
                        (case side4 => exact (Kd.V_reads' HO_7.out).2.1)
                        (case side5 => exact Glob.below HG.out zb)
                        rintro e w137 ⟨v838, rfl, ho0, hb⟩
                        refine ⟨_, rfl, ?_⟩
                        replace HO_7 := zh (Kd.V_below (zV HO_7) hb)
                        replace HO_9 := zh (Kd.V_below (zV HO_9) hb)
                        have HO839 := zh (Kd.V_lower (Kd.V_mono (ok' := fun k_ => k_ ≠ gb814) ho0 (fun k_ hk_ => (Kd.freshB (g := gb814) (o := .cells #[.int .i64 a0_0, .int .i64 a0_1, .int .i64 a0_2, .slice A0_3 l0_3.length c0_3] 24 (0, 0)) (zc BK814) k_ hk_))) (below_size zb))
                        replace BK814 := zh (blk_below (g := gb814) (o := .cells #[.int .i64 a0_0, .int .i64 a0_1, .int .i64 a0_2, .slice A0_3 l0_3.length c0_3] 24 (0, 0)) (zc BK814) hb)
                        replace HB := zh (below_step zb hb)
                        (try clear hb)
                        (try clear hb2)
                        (try clear hk)
                        (try clear hi)
                        (try clear ho0)
                        refine hK.out _ _ ⟨vb BK814 0, vb BK814 1, vb BK814 2, vb BK814 3, (ve HB.out hw836_0 :), (ve HB.out hw836_1 :)⟩ (fun hHeld => ?_)
                        clear hK K
                        refine zr 197 _ ?_
                        refine zu 8 ?_
                        refine zu 9 ?_
                        refine zu 10 ?_
                        refine zu 11 ?_
                        refine zu 12 ?_
                        refine zd ?_
                        try go_wp2
                        go_ret
                        exact ⟨zf, zb⟩
                      ·rw [if_neg c119] at H
                       exact absurd H (by simp)
                     ·rw [if_neg c118] at H
                      exact absurd H (by simp)
                    ·replace c117 := Bool.eq_false_iff.mpr c117
                     subst c117
                     have H1 : (if (x11_3 == (decide (t815 > 1))) = true then ((saronlaw06_works.f).bind fun t835 => (some t835)) else (some false)) = some r := by rw [if_neg (show ¬ (false = true) by decide)] at H; exact H
                     clear H
                     have H := H1
                     clear H1
                     by_cases c138 : (x11_3 == (decide (t815 > 1))) = true
                     ·rw [if_pos c138] at H
                      have c138b0 : (x11_3 == (decide (t815 > 1))) = true := c138
                      (try (have c138b1 : decide (x11_3 = (decide (t815 > 1))) = true := by simpa using c138))
                      (try (have c138b2 : (x11_3 == (decide (t815 > 1))) = true := by simpa using c138))
                      clear c138
                      replace H := Option.bind_eq_some_iff.mp H
                      obtain ⟨t835, A1390, H⟩ := H
                      replace H : (some t835) = some r := H
                      have A139 := zh A1390
                      clear A1390
                      obtain rfl := Option.some.inj H
                      go_wp2_with (first | (go_at_call 21; (with_reducible refine (saronlaw06_works.calls  t835 _ ?side1 A139.out).mono ?_); (case side1 => exact Glob.below HG.out zb); rintro e w140 ⟨rfl, hb⟩; have n0_ := zh (Kd.V_below (zV HO_7) hb); have n1_ := zh (Kd.V_below (zV HO_9) hb); have n2_ := zh (blk_below (g := gb814) (o := .cells #[.int .i64 a0_0, .int .i64 a0_1, .int .i64 a0_2, .slice A0_3 l0_3.length c0_3] 24 (0, 0)) (zc BK814) hb); have n3_ := zh (below_step zb hb); clear HO_7; clear HO_9; clear BK814; clear HB; have HO_7 := n0_; have HO_9 := n1_; have BK814 := n2_; have HB := n3_; clear n0_ n1_ n2_ n3_; (try clear hb); (try clear hb2); (try clear hk); (try clear hi)))
                      go_ret
                      exact ⟨zf, zb⟩
                     ·rw [if_neg c138] at H
                      have c138b0 : (x11_3 == (decide (t815 > 1))) = false := by simpa using c138
                      (try (have c138b1 : decide (x11_3 = (decide (t815 > 1))) = false := by simpa using c138))
                      (try (have c138b2 : (x11_3 == (decide (t815 > 1))) = false := by simpa using c138))
                      (try (have c138b3 : ¬ (x11_3 = (decide (t815 > 1))) := by simpa using c138))
                      clear c138
                      obtain rfl := Option.some.inj H
                      go_wp2
                      go_ret
                      exact ⟨zf, zb⟩
end Go.Proofs.YtagkfkdoibnhfaaDoor.H
end
section
namespace Go.Proofs.YtagkfkdoibnhfaaDoor.kernelOne
open Go.ChangeShapes Go.WideShapes Go.ChangeAt Go.RowKit Go.Proofs.YtagkfkdoibnhfaaDoorW.PrintWords Go.Proofs.YtagkfkdoibnhfaaDoor.H Go.Proofs.YtagkfkdoibnhfaaDoor.K
set_option linter.unusedVariables false
theorem own : ownKnob Tryd.prog.godebug = none := by kernel_rfl
theorem laidOut : laidOutB Tryd.prog = true := by kernel_rfl
theorem door_met (os : Os) (args : Array Value) : laidMetH Tryd.prog laid1 ((World.doorLaid Tryd.prog 600 os).forCall (fun _ _ => 0) ⟨#[], args, []⟩).memory :=
 laidMetH_of_parts3 (fuel := 8) (laidMet_of_run' 8 zk zk) zk zk
set_option maxRecDepth 100000 in
set_option maxHeartbeats 2000000 in
theorem lifted (os : Os) (started : os.Started) (H : Type) (enc : TypeId × Value → H) :
  ReturnsInHanded {} Tryd.checked os 13 .any (fun w args => (Rows.kernelOneSpec.pre enc Tryd.prog Tryd.f13 [] false w args ∧ laidMetH Tryd.prog laid1 w) ∧ sizedMet enc Tryd.prog Tryd.f13 (OpenSpec.ofChange Rows.kernelOneSpec) false w args)
   (Rows.kernelOneSpec.post enc Tryd.prog Tryd.f13 false true false false) := by
 refine returnsInHanded_of_change_and (C := Tryd.checked) (X := fun w _ => laidMetH Tryd.prog laid1 w) (fun _ _ _ hh h => h.of_heap hh) own started zk Tryd.func13
  (ChangeSpec.witness_shaped (enc := enc) (C := Tryd.checked) (os := os) (X := fun w _ => laidMetH Tryd.prog laid1 w) false (World.doorLaid Tryd.prog 600 os) #[.agg #[.int .i64 0, .int .i64 0, .int .i64 0, .slice none 0 0], .slice none 0 0] 8 rfl (World.shaped_of_RefB zk zk) zk zk zk (door_met os _)) ?_
 intro W base args ds gs before hval0 hW _ _ hL _
 have hval : ∀ (j : Nat) t v, Tryd.f13.params[j]? = some t → args[j]? = some v → Value.okWide Tryd.prog W .any base t v := hval0
 have hW' := hW
 obtain ⟨p, q, hA0, hV, rfl, hfz, hnd⟩ := hW
 have hA : DataW.TrodAll enc Tryd.prog W 0 (fun _ => true) true Tryd.f13.params.toList args.toList ds p := hA0
 rw [Tryd.params13] at hA hval
 obtain ⟨v0, vs0, d0, ds0, p0, q0, hargs, rfl, rfl, h0, r0⟩ := trodAll_cons hA
 obtain ⟨v1, vs1, d1, ds1, p1, q1, rfl, rfl, rfl, h1, r1⟩ := trodAll_cons r0
 obtain ⟨rfl, rfl, rfl⟩ := trodAll_nil r1
 obtain rfl : args = #[v0, v1] := by cases args; simp_all
 obtain ⟨rfl, rfl⟩ := trodVars_none hV
 have k0 := h0
 have lt0 : ∀ x ∈ p0, x.block < W.heap.size := by obtain ⟨m, hm⟩ := k0; exact DataW.trod_lt m _ _ _ hm
 obtain ⟨T0, O0, L0, A0, R0, c0, rfl, hc0, hC0, iT0, iO0, iL0, sR0, iR0⟩ := arg_scale (hval 0 24 v0 rfl rfl) h0
 have k1 := h1
 have lt1 : ∀ x ∈ p1, x.block < W.heap.size := by obtain ⟨m, hm⟩ := k1; exact DataW.trod_lt m _ _ _ hm
 obtain ⟨A1, l1, c1, rfl, hc1, hC1, s1, i1⟩ := arg_heard (hval 1 33 v1 rfl rfl) h1
 clear hA0 hval0
 have hG := glob_of_laid hL
 refine (saronlaw06_KernelOne.calls (2 * R0.length + 600) T0 O0 L0 A0 c0 R0 A1 c1 l1 true W hC0 hc0 hC1 hc1 hG (K.O.one_law T0 O0 L0 R0 l1 sR0 _ (Nat.le_refl _))).mono fun e W' ⟨he, bel⟩ => ?_
 subst he
 exact ⟨_, rfl, _, _, _, [], _, [], hW', trodAll_mk1 (shut_bool Tryd.underlying4 _), (trodAll_cons_mk (Below.trod laidOut zk (of_decide_eq_true zk) k0 bel lt0) (trodAll_cons_mk (Below.trod laidOut zk (of_decide_eq_true zk) k1 bel lt1) trodAll_mk0)), rfl, bel.frame _, fun h => by cases h⟩
theorem over : Rows.kernelOneRow.holds Tryd.pinned (OpenSpec.ofChange Rows.kernelOneSpec) :=
 OpenClaim.holds_of_wide 13 Tryd.f13 rfl rfl rfl rfl rfl rfl rfl ⟨rfl, rfl, rfl, rfl, rfl⟩ rfl rfl rfl rfl rfl zk Tryd.func13 zk
  (of_decide_eq_true zk) (by unfold Func.isWrapper; first | (rw [if_pos (by decide +kernel)]; kernel_rfl) | (rw [if_neg (by decide +kernel)]; exact ⟨rfl, rfl⟩))
  (fun os started H enc _ => lifted os started H enc)
theorem proved : Rows.KernelOneCardSaid :=
 Claim7.holds_tied_plain_at .later [] [.funcs] true (true, "1546f209dbcbef264cbb20aea537f6d5569935ba401e115858a8843598e79524") false
  over (fun _ h => by cases h) zk (fun _ h => by cases h) kernelOne_row_tie rfl ⟨rfl, rfl⟩ zk rfl
  (fun f fn hf hfn => by
   obtain rfl : f = 13 := Option.some.inj ((show Tryd.prog.funcNamed "saron/saronlaw06.KernelOne" = some 13 by kernel_rfl).symm.trans hf) |>.symm
   obtain rfl : fn = Tryd.f13 := (Option.some.inj (Tryd.func13.symm.trans hfn)).symm
   exact ⟨by kernel_rfl, fun j t ht => by
    rw [Tryd.params13] at ht
    have hm : t ∈ [24, 33] := by simpa using Array.mem_of_getElem? ht
    have hall : ([24, 33].all fun u => !Tryd.prog.wantsStandIn u) = true := by kernel_rfl
    exact (show Tryd.prog.wantsStandIn t = false by simpa using List.all_eq_true.1 hall t hm)⟩)
  zk
end Go.Proofs.YtagkfkdoibnhfaaDoor.kernelOne
namespace Go.Proofs.YtagkfkdoibnhfaaDoor
theorem kernelOne_card : Rows.KernelOneCardSaid := kernelOne.proved
end Go.Proofs.YtagkfkdoibnhfaaDoor
end
