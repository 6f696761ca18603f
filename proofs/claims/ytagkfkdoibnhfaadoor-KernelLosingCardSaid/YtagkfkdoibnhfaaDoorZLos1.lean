/- KernelLosing: for every scale, anything heard and any three numbers that choose the entry, the stroke and the place the law returns true, and each argument reads afterwards as it read before. Condition: when the call begins the package's table of rules reads as the program's text lays it; the card ties that to the text. -/
import Derived.ArgAppend
import Derived.Below
import Derived.BigQuiet
import Derived.ChangeKeysEq
import Derived.Deep.AppendLies
import Derived.Deep.CutBlock
import Derived.Deep.DeepCutAuto
import Derived.Deep.Draws
import Derived.Deep.LoopGhost
import Derived.Deep.OwnRows
import Derived.Deep.QuietTactic
import Derived.Deep.RegionHeld3
import Derived.KernelRfl
import Derived.Laws.BitsLemmas
import Derived.Laws.BytesArg
import Derived.Laws.IdiomCopy
import Derived.Laws.MakeOwn
import Derived.Laws.OwnMore
import Derived.Laws.Rows
import Derived.Laws.Slices
import Derived.Lib.AppendStr
import Derived.Lib.ConvBytes
import Derived.Maps.AppendAt
import Derived.OrdersHeld
import Derived.OwnWalk
import Derived.RowKit
import Derived.RowKit3
import Derived.Tactics
import Derived.WalkKit
import Derived.WideLaws
import Derived.Test.YtagkfkdoibnhfaaDoorProg
import Derived.Test.YtagkfkdoibnhfaaDoorZB1
import Derived.Test.YtagkfkdoibnhfaaDoorZB2
import Derived.Test.YtagkfkdoibnhfaaDoorZB4
set_option linter.all false
namespace Go.Proofs
theorem dLo1 {p : Prop} (h : p := by (with_reducible repeat (first | apply Kd.V_alloc | apply Kd.V_drewN | apply Kd.V_drew)); exact HL239_1.out) : p := h
theorem dLo2 {p : Prop} (h : p := by simp only [putAll, Act.put, List.setIfInBounds_toArray, List.set_cons_zero, List.set_cons_succ]) : p := h
end Go.Proofs
section
set_option linter.unusedVariables false
set_option linter.unusedSimpArgs false
namespace Go.Proofs.YtagkfkdoibnhfaaDoorW.PrintWords
open Go.RowKit
section
variable {P : Program}
theorem cut_to (t e : TypeId) (kh : IntKind) {i : TypeInfo} (ht : P.underlying t = some (.slice e)) (hi : P.info? e = some i) (A : Option Addr) (n c : Nat) (j : Int) (h0 : 0 ≤ j) (hm : j ≤ n) (hc : n ≤ c) :
  ∀ W : World, (Instr.slice t (.slice A n c) none (some (.int kh j)) none).run P W = .ok (.slice A j.toNat c) W := by
 intro W
 have hel : P.elem t = e := by simp [Program.elem, ht]
 have hu : P.underlying t = some (.slice (P.elem t)) := by rw [hel]; exact ht
 have ha : (A.map fun x => x.add 0) = A := by cases A <;> simp [Addr.add]
 rw [run_slice_h W t A n c hu kh j h0 (by omega), hel]
 simp [sizeOf, typeInfo, hi, sliced, Result.andThen, ha]
end
theorem seg_get {α : Type} (a seg : List α) (o : Nat) (h : o + seg.length ≤ a.length) (q : Nat) :
  (a.take o ++ seg ++ a.drop (o + seg.length))[q]? = if q < o then a[q]? else if q < o + seg.length then seg[q - o]? else a[q]? := by
 have hl : (a.take o).length = o := by rw [List.length_take]; omega
 rw [List.append_assoc]
 by_cases h1 : q < o
 ·rw [if_pos h1, List.getElem?_append_left (by omega), List.getElem?_take, if_pos h1]
 ·rw [if_neg h1, List.getElem?_append_right (by omega), hl]
  by_cases h2 : q < o + seg.length
  ·rw [if_pos h2, List.getElem?_append_left (by omega)]
  ·rw [if_neg h2, List.getElem?_append_right (by omega), List.getElem?_drop]
   congr 1
   omega
namespace Kd
section
variable {α : Type} {d : Kd α} {e base g n cap : Nat} {ok okp : Nat → Prop} {W : World} {xs : List α}
theorem R_seg (h : d.R e W base ok (.slice (some ⟨g, 0, none⟩) n cap) xs) (i : Int) (h0 : 0 ≤ i) (h1 : i < n) {c seg : List Value} {j : Nat} (hcl : c.length = d.sz) (hcc : ∀ j u, c[j]? = some u → W.cell? ⟨g, i.toNat * d.sz + j, none⟩ = some u)
  (hj : j + seg.length ≤ d.sz) {x' : α} (hM : d.M W base okp x' (c.take j ++ seg ++ c.drop (j + seg.length))) (hokp : ∀ k, okp k → ok k ∧ k ≠ g) :
  d.R e (W.setCells g (i.toNat * d.sz + j) seg) base ok (.slice (some ⟨g, 0, none⟩) n cap) (xs.set i.toNat x') ∧ W.grownBy (W.setCells g (i.toNat * d.sz + j) seg) (some g) := by
 obtain ⟨hn, hnc, _⟩ := R_reads' h
 obtain ⟨hok, inner, ho, hr⟩ := h
 have hil : i.toNat < xs.length := by omega
 have hseg : i.toNat * d.sz + d.sz ≤ inner.length := by rw [hr.1, ← Nat.succ_mul]; exact Nat.mul_le_mul_right _ hil
 have hin : inner.length = n * d.sz := by rw [hr.1, hn]
 obtain ⟨ho1, ho2⟩ := ho
 rcases ho2 with ⟨hv, _⟩ | ⟨g', cap', cur, hv, hb, hh, hnc', hcm, hcs, ht⟩
 ·cases hv
 injection hv with ha _ hc
 injection ha with ha
 injection ha with hg
 subst hg; subst hc
 have hfit : i.toNat * d.sz + j + seg.length ≤ cur.size := by
  have : n * d.sz ≤ cap * d.sz := Nat.mul_le_mul_right _ hnc
  omega
 obtain ⟨cur', h3, h4, h5⟩ := setCells_row seg (i.toNat * d.sz + j) W cur hh hfit
 obtain ⟨s1, s2, s3, s4⟩ := setCells_same g seg (i.toNat * d.sz + j) W
 have hfar : ∀ k, k ≠ g → (W.setCells g (i.toNat * d.sz + j) seg).heap[k]? = W.heap[k]? := fun k hk => setCells_far seg _ k hk
 have hcin : ∀ q, q < d.sz → c[q]? = inner[i.toNat * d.sz + q]? := by
  intro q hq
  have hq' : q < c.length := by omega
  have h6 := hcc q _ (List.getElem?_eq_getElem hq')
  rw [cell_of_row W g _ cur e (0, 0) hh] at h6
  rw [List.getElem?_eq_getElem hq', ← h6, ← ht, List.getElem?_take, if_pos (by rw [← hn]; omega), Array.getElem?_toList]
 refine ⟨⟨hok, inner.take (i.toNat * d.sz + j) ++ seg ++ inner.drop (i.toNat * d.sz + j + seg.length), ⟨?_, .inr ⟨g, cap, cur', by rw [List.length_set, hn], hb, h3, by rw [List.length_set, ← hn]; exact hnc, hcm, by rw [h4, hcs], ?_⟩⟩, ?_⟩,
  ⟨s1, s2, s3, by rw [s4]; exact Nat.le_refl _, fun k _ hk => hfar k (fun he => hk (by rw [he]))⟩⟩
 ·rw [List.length_set]
  simp only [List.length_append, List.length_take, List.length_drop]
  rw [hr.1] at hseg ⊢
  omega
 ·rw [List.length_set, ← hn]
  apply List.ext_getElem?
  intro q
  rw [List.getElem?_take, h5]
  rw [seg_get cur.toList seg (i.toNat * d.sz + j) (by rw [Array.length_toList]; omega) q, seg_get inner seg (i.toNat * d.sz + j) (by omega) q]
  have hcur : ∀ q, q < n * d.sz → cur.toList[q]? = inner[q]? := by
   intro q hq
   rw [← ht, List.getElem?_take, if_pos (by rw [← hn]; exact hq)]
  by_cases hq : q < n * d.sz
  ·rw [if_pos hq, hcur q hq]
  ·rw [if_neg hq, if_neg (by omega), if_neg (by omega), List.getElem?_eq_none (by omega)]
 ·refine ⟨?_, fun m p hm => ?_⟩
  ·rw [List.length_set]
   simp only [List.length_append, List.length_take, List.length_drop]
   rw [hr.1] at hseg ⊢
   omega
  ·have hml : m < xs.length := by
    have := (List.getElem?_eq_some_iff.1 hm).1
    rwa [List.length_set] at this
   have hmfit : m * d.sz + d.sz ≤ inner.length := by rw [hr.1, ← Nat.succ_mul]; exact Nat.mul_le_mul_right _ hml
   have hgo : some g = (Value.slice (some ⟨g, 0, none⟩) n cap).ownBlock := by simp [Value.ownBlock]
   by_cases hmi : m = i.toNat
   ·subst hmi
    rw [List.getElem?_set_self (by omega)] at hm
    injection hm with hm
    subst hm
    have hcells : ((inner.take (i.toNat * d.sz + j) ++ seg ++ inner.drop (i.toNat * d.sz + j + seg.length)).drop (i.toNat * d.sz)).take d.sz = c.take j ++ seg ++ c.drop (j + seg.length) := by
     apply List.ext_getElem?
     intro q
     rw [List.getElem?_take, List.getElem?_drop, seg_get inner seg _ (by omega), seg_get c seg j (by omega) q]
     by_cases hq : q < d.sz
     ·rw [if_pos hq, hcin q hq]
      by_cases hq1 : q < j
      ·rw [if_pos (by omega), if_pos hq1]
      ·rw [if_neg (by omega), if_neg hq1]
       by_cases hq2 : q < j + seg.length
       ·rw [if_pos (by omega), if_pos hq2]
        congr 1
        omega
       ·rw [if_neg (by omega), if_neg hq2]
     ·rw [if_neg hq, if_neg (by omega), if_neg (by omega), List.getElem?_eq_none (by omega)]
    rw [hcells]
    refine d.M_mono (fun k hk => ?_) (d.M_move (w1 := W.setCells g (i.toNat * d.sz + j) seg) (fun k hk => hfar k (hokp k hk).2) hM)
    exact ⟨(hokp k hk).1, fun he => (hokp k hk).2 (by rw [← hgo] at he; injection he)⟩
   ·rw [List.getElem?_set_ne (by omega)] at hm
    have hold := hr.2 m p hm
    have hcells : ((inner.take (i.toNat * d.sz + j) ++ seg ++ inner.drop (i.toNat * d.sz + j + seg.length)).drop (m * d.sz)).take d.sz = (inner.drop (m * d.sz)).take d.sz := by
     apply List.ext_getElem?
     intro q
     rw [List.getElem?_take, List.getElem?_take, List.getElem?_drop, List.getElem?_drop, seg_get inner seg _ (by omega)]
     by_cases hq : q < d.sz
     ·rw [if_pos hq, if_pos hq]
      rcases Nat.lt_or_gt_of_ne hmi with hlt | hgt
      ·have : m * d.sz + d.sz ≤ i.toNat * d.sz := by rw [← Nat.succ_mul]; exact Nat.mul_le_mul_right _ hlt
       rw [if_pos (by omega)]
      ·have : i.toNat * d.sz + d.sz ≤ m * d.sz := by rw [← Nat.succ_mul]; exact Nat.mul_le_mul_right _ hgt
       rw [if_neg (by omega), if_neg (by omega)]
     ·rw [if_neg hq, if_neg hq]
    rw [hcells]
    refine d.M_move (fun k hk => hfar k (fun he => hk.2 (by rw [he]; exact hgo))) hold
end
end Kd
namespace Kd
section
variable {α : Type} {k : Kd α} {w : World} {A : Option Addr} {xs : List α} {m c : Nat}
theorem C_take (h : k.C w A xs.length xs) (hm : m ≤ xs.length) : k.C w A (xs.take m).length (xs.take m) := by
 have hl : (xs.take m).length = m := by rw [List.length_take]; omega
 refine ⟨rfl, by rw [hl]; have := h.2.1; omega, fun hp => ?_⟩
 obtain ⟨ad, e, hc⟩ := h.2.2 (by omega)
 refine ⟨ad, e, fun j p hj => hc j p ?_⟩
 rw [List.getElem?_take] at hj
 split at hj
 ·exact hj
 ·cases hj
end
end Kd
theorem add_block (a : Addr) (i : Nat) : (a.add i).block = a.block := by unfold Addr.add; split <;> rfl
section
variable {P : Program} {ops : Array Oper} {rest : List Oper} {o : Oper} {a : Act} {Q : Exit → Act → World → Prop}
theorem store_event {W w1 : World} (hgd : o.guard = none) {t : TypeId} {p : Tmp} {v : Operand} (_ho : o.op = .store t (.tmp p) v) (hN : o.dst = none)
  (hrun : (execOp a.eval o).run P W = .ok .skip w1) (h : ∀ w', w' = w1 → wpList P ops Q rest a w') : wpList P ops Q (o :: rest) a W := by
 refine wpList_plain hgd fun K hK => ?_
 unfold Oper.wp
 rw [hrun]
 show K (a.put o.dst undef) w1
 rw [hN]
 exact hK _ _ (h _ rfl)
end
namespace Kd
section
variable {α : Type} {enc : α → Value} {h1 : ∀ x, (enc x).oneCell' = true} {e base g n cap : Nat} {ok : Nat → Prop} {W : World} {xs : List α}
theorem R_putg (h : (scalar enc h1).R e W base ok (.slice (some ⟨g, 0, none⟩) n cap) xs) (i : Int) (x : α) : (scalar enc h1).R e (W.setCell ⟨g, i.toNat, none⟩ (enc x)) base ok (.slice (some ⟨g, 0, none⟩) n cap) (xs.set i.toNat x) ∧ W.grownBy (W.setCell ⟨g, i.toNat, none⟩ (enc x)) (some g) := by
 obtain ⟨rfl, _⟩ := R_reads' h
 exact R_put h i x
end
end Kd
section
variable {P : Program} {ops : Array Oper} {rest : List Oper} {o : Oper} {a : Act} {Q : Exit → Act → World → Prop} {W : World}
theorem gate_store {t : TypeId} {p : Tmp} {v : Operand} (_ho : o.op = .store t (.tmp p) v) (h : wpList P ops Q (o :: rest) a W) : wpList P ops Q (o :: rest) a W := h
end
end Go.Proofs.YtagkfkdoibnhfaaDoorW.PrintWords
end
section
namespace Go.Proofs.YtagkfkdoibnhfaaDoorW.PrintLast
section
variable {P : Program} {ops : Array Oper} {Q : Exit → Act → World → Prop} {md : Region.Mode} {S : World → Prop} {ds : List Nat}
def putAll : Act → List (Tmp × Value) → Act
 | a, [] => a
 | a, (n, v) :: r => putAll (a.put (some n) v) r
theorem join_ {σ : Type} {fuel : Nat} {l : Array Bool} {a : Act} {w : World} (fuel' : Nat) (l' : Array Bool) (ns : σ → List (Tmp × Value)) (F : σ → World → Prop)
  (hcont : ∀ s w', F s w' → wpAnyLast P md ops Q S ds fuel' l' (putAll a (ns s)) w')
  (h : (∀ s w', F s w' → wpAnyLast P md ops Q S ds fuel' l' (putAll a (ns s)) w') → wpAnyLast P md ops Q S ds fuel l a w) : wpAnyLast P md ops Q S ds fuel l a w := h hcont
end
end Go.Proofs.YtagkfkdoibnhfaaDoorW.PrintLast
end
section
namespace Go.Proofs.YtagkfkdoibnhfaaDoorW.PrintWords
open Go.RowKit
section
variable {w W W2 : World} {S S2 S' : Nat → Prop}
theorem blk_kept {g : Nat} {o : Obj} (hb : W.heap[g]? = some o) (hk : Kept W W2 S) (hne : ¬ S g) : W2.heap[g]? = some o := (hk.2 g (blk_lt hb) hne).trans hb
end
end Go.Proofs.YtagkfkdoibnhfaaDoorW.PrintWords
end
section
namespace Go.Proofs.YtagkfkdoibnhfaaDoorW.PrintWords
open Go.RowKit
namespace Foot
variable {P Q : World → Prop} {W W1 : World} {ok ok' : Nat → Prop}
theorem imp (h : Foot P W ok) (hi : ∀ W', P W' → Q W') : Foot Q W ok := fun W' hW => hi W' (h W' hW)
end Foot
namespace Kd
section
variable {α β : Type} {d : Kd α} {e base n n' cc g N : Nat} {ok ok' okp S : Nat → Prop} {w w0 w1 W W1 : World} {A A' : Option Addr} {u v v1 : Value} {xs : List α} {xs' : List β} {d' : Kd β} {x : α} {c : List Value}
theorem F_bound (h : F d W ok A n xs) : F d W (fun k => ok k ∧ k < W.heap.size) A n xs := Foot.bound h
theorem F_imp (h : F d W ok A n xs) (hi : ∀ W', d.C W' A n xs → d'.C W' A' n' xs') : F d' W ok A' n' xs' := Foot.imp h hi
theorem F_kept (h : F d W ok A n xs) (hk : Kept W W1 S) (hok : ∀ k, ok k → ¬ S k) : F d W1 ok A n xs := F_step h (fun k ho hlt => hk.2 k hlt (hok k ho))
theorem F_elderB (h : F d W ok A n xs) (a : Nat) (ha : W.heap.size ≤ a) : F d W (fun k => ok k ∧ k ≠ a) A n xs := F_mono (F_bound h) (fun k hk => ⟨hk.1, by have := hk.2; omega⟩)
theorem F_after (h : F d W (fun k => ok k ∧ some k ≠ v.ownBlock) A n xs) (hg : W.grownBy W1 v.ownBlock) (hat : v1.ownBlock = v.ownBlock ∨ ∃ b, v1.ownBlock = some b ∧ W.heap.size ≤ b) : F d W1 (fun k => ok k ∧ some k ≠ v1.ownBlock) A n xs := by
 refine F_mono (Foot.step (F_bound h) (fun k hk hlt => hg.block k hlt hk.1.2)) (fun k hk => ⟨hk.1.1, ?_⟩)
 rcases hat with hat | ⟨b, hb, hle⟩
 ·rw [hat]; exact hk.1.2
 ·rw [hb]
  intro he
  injection he with he
  have := hk.2
  omega
theorem emptied (W : World) (g : Nat) : ∃ W' : World, (∀ k, k ≠ g → W'.heap[k]? = W.heap[k]?) ∧ ∀ a : Addr, a.block = g → W'.cell? a = none := by
 refine ⟨{ W with heap := W.heap.setIfInBounds g (.cells #[] 0) }, fun k hk => by simp [Ne.symm hk], fun a ha => ?_⟩
 subst ha
 by_cases hlt : a.block < W.heap.size
 ·simp [World.cell?, hlt]
 ·simp [World.cell?, hlt]
end
end Kd
end Go.Proofs.YtagkfkdoibnhfaaDoorW.PrintWords
end
section
namespace Go.Proofs.YtagkfkdoibnhfaaDoorW.PrintWords
open Go.RowKit
namespace Kd
section
variable {α : Type} {d : Kd α} {e base n cc g : Nat} {ok ok' okp S : Nat → Prop} {w w1 W W1 : World} {A : Option Addr} {u v v1 : Value} {xs : List α} {x : α} {c : List Value}
theorem F_get (h : F d W ok A n xs) (z : α) (i : Int) (h0 : 0 ≤ i) (h1 : i < n) :
  ∃ ad c, A = some ad ∧ c.length = d.sz ∧ FK d W ok (xs.getD i.toNat z) c ∧ (∀ j u, c[j]? = some u → W.cell? (ad.add (i.toNat * d.sz + j)) = some u) ∧ (0 < d.sz → ok ad.block) := by
 obtain ⟨ad, c, rfl, hcl, hK, hcc⟩ := C_get (F_now h) z i h0 h1
 have hin : 0 < d.sz → ok ad.block := by
  intro hs
  by_cases hk : ok ad.block
  ·exact hk
  ·obtain ⟨W', h2, h3⟩ := emptied W ad.block
   obtain ⟨ad', c', he, hcl', _, hcc'⟩ := C_get (h W' (fun k hk' _ => h2 k (fun e => hk (e ▸ hk')))) z i h0 h1
   injection he with he
   subst he
   have h4 := hcc' 0 _ (List.getElem?_eq_getElem (by omega))
   rw [h3 _ (add_block _ _)] at h4
   cases h4
 refine ⟨ad, c, rfl, hcl, fun W' hW => ?_, hcc, hin⟩
 obtain ⟨ad', c', he, hcl', hK', hcc'⟩ := C_get (h W' hW) z i h0 h1
 injection he with he
 subst he
 have hc : c = c' := by
  apply List.ext_getElem?
  intro j
  by_cases hj : j < d.sz
  ·have hb : W'.heap[ad.block]? = W.heap[ad.block]? := by
    have h5 := hcc j _ (List.getElem?_eq_getElem (by omega))
    have h6 := World.block_lt_of_cell? W _ h5
    rw [add_block] at h6
    exact hW _ (hin (by omega)) h6
   have h5 := hcc j _ (List.getElem?_eq_getElem (by omega))
   have h6 := hcc' j _ (List.getElem?_eq_getElem (by omega))
   have h7 : W'.cell? (ad.add (i.toNat * d.sz + j)) = W.cell? (ad.add (i.toNat * d.sz + j)) := by simp [World.cell?, add_block, hb]
   rw [h7, h5] at h6
   rw [List.getElem?_eq_getElem (by omega), List.getElem?_eq_getElem (by omega)]
   exact h6
  ·rw [List.getElem?_eq_none (by omega), List.getElem?_eq_none (by omega)]
 rw [hc]
 exact hK'
theorem F_rows (h : F d W ok A n xs) : ReadsRow (fun x c => FK d W ok x c) d.sz W A n xs := by
 obtain ⟨hl, hm, hn⟩ := F_now h
 refine ⟨hl, hm, fun hp => ?_⟩
 obtain ⟨ad, rfl, _⟩ := hn hp
 refine ⟨ad, rfl, fun j p hj => ?_⟩
 obtain ⟨hjl, hjp⟩ := List.getElem?_eq_some_iff.1 hj
 obtain ⟨ad', c, he, hcl, hK, hcc, _⟩ := F_get h p (j : Int) (by omega) (by omega)
 injection he with he
 subst he
 simp only [Int.toNat_natCast] at hK hcc
 rw [List.getD_eq_getElem?_getD, hj] at hK
 exact ⟨c, hcl, hK, hcc⟩
theorem N_base (h : N d e w base ok v xs) : ∀ k, v.ownBlock = some k → base ≤ k := by
 obtain ⟨_, rows, _, hR, _⟩ := h
 exact R_base hR
theorem N_ne (h : N d e w base ok v xs) {t : Nat} {cells : Array Value} (hb : w.heap[g]? = some (.cells cells t (0, 0))) (ht : e ≠ t) : some g ≠ v.ownBlock := by
 obtain ⟨_, rows, _, hR, _⟩ := h
 exact R_ne hR hb ht
theorem N_after (h : N d e W base (fun k => ok k ∧ some k ≠ u.ownBlock) v xs) {u1 : Value} (hg : W.grownBy w1 u.ownBlock) (hat : u1.ownBlock = u.ownBlock ∨ ∃ b, u1.ownBlock = some b ∧ W.heap.size ≤ b) : N d e w1 base (fun k => ok k ∧ some k ≠ u1.ownBlock) v xs := by
 refine N_mono (N_step (N_bound h) (fun k hk hlt => hg.block k hlt hk.1.2)) (fun k hk => ⟨hk.1.1, ?_⟩)
 rcases hat with hat | ⟨b, hb, hle⟩
 ·rw [hat]; exact hk.1.2
 ·rw [hb]
  intro he
  injection he with he
  have := hk.2
  omega
theorem N_form (h : N d e w base ok v xs) (hp : 0 < xs.length) : ∃ g cap, v = .slice (some ⟨g, 0, none⟩) xs.length cap ∧ base ≤ g ∧ g < w.heap.size ∧ ∃ cells, w.heap[g]? = some (.cells cells e (0, 0)) := by
 obtain ⟨_, rows, hl, hR, _⟩ := h
 rw [← hl] at hp ⊢
 exact R_form hR hp
theorem N_F {n : Nat} (h : N d e w base ok (.slice A n cc) xs) : F d w ok A n xs := fun W' hW => by
 have h2 := N_reads' (N_step h hW)
 rw [h2.1]
 exact h2.2.2
theorem N_elem {n cap : Nat} (h : N d e W base ok (.slice (some ⟨g, 0, none⟩) n cap) xs) (z : α) (i : Int) (h0 : 0 ≤ i) (h1 : i < n) :
  ∃ c, c.length = d.sz ∧ FK d W (fun k => ok k ∧ k ≠ g) (xs.getD i.toNat z) c ∧ (∀ j u, c[j]? = some u → W.cell? ⟨g, i.toNat * d.sz + j, none⟩ = some u) ∧ ∀ j, W.frozen? ⟨g, i.toNat * d.sz + j, none⟩ = false := by
 obtain ⟨_, rows, hl, hR, hf⟩ := h
 have hn := (R_reads' hR).1
 obtain ⟨c, hcl, hM, hcc, hfr⟩ := R_elem hR [] i h0 h1
 have hil : i.toNat < rows.length := by omega
 have hil' : i.toNat < xs.length := by omega
 have hc : c = rows[i.toNat] := by
  have h2 := hM.1
  rwa [List.getD_eq_getElem?_getD, List.getElem?_eq_getElem hil] at h2
 refine ⟨c, hcl, ?_, hcc, hfr⟩
 rw [List.getD_eq_getElem?_getD, List.getElem?_eq_getElem hil']
 exact FK_mono (hf _ _ _ (List.getElem?_eq_getElem hil') (by rw [hc]; exact List.getElem?_eq_getElem hil)) (fun k hk => ⟨hk.1, fun he => hk.2 (by rw [he]; simp [Value.ownBlock])⟩)
end
end Kd
end Go.Proofs.YtagkfkdoibnhfaaDoorW.PrintWords
end
section
namespace Go.Proofs.YtagkfkdoibnhfaaDoorW.PrintWords
open Go.RowKit
namespace Kd
section
variable {α : Type} {d : Kd α} {e base n cap g : Nat} {ok ok' okp : Nat → Prop} {w w1 W : World} {v v1 : Value} {xs ys : List α}
theorem N_written {rows : List (List Value)} {i : Int} {x' : α} {c' : List Value} (h0 : ∀ k, (Value.slice (some ⟨g, 0, none⟩) n cap).ownBlock = some k → ok k) (hl : rows.length = xs.length) (hf : ∀ (j : Nat) (x : α) (c : List Value), xs[j]? = some x → rows[j]? = some c → FK d W (fun k => ok k ∧ some k ≠ (Value.slice (some ⟨g, 0, none⟩) n cap).ownBlock) x c)
  (hR : (raw d.sz).R e w1 base (fun _ => True) (.slice (some ⟨g, 0, none⟩) n cap) (rows.set i.toNat c')) (hg : W.grownBy w1 (some g)) (hM : FK d W okp x' c') (hokp : ∀ k, okp k → ok k ∧ k ≠ g) : N d e w1 base ok (.slice (some ⟨g, 0, none⟩) n cap) (xs.set i.toNat x') := by
 have hgo : some g = (Value.slice (some ⟨g, 0, none⟩) n cap).ownBlock := by simp [Value.ownBlock]
 refine ⟨h0, rows.set i.toNat c', by rw [List.length_set, List.length_set, hl], raw_tight hR, fun j x c hx hc => ?_⟩
 have hjl : j < xs.length := by have := (List.getElem?_eq_some_iff.1 hx).1; rwa [List.length_set] at this
 by_cases hji : j = i.toNat
 ·subst hji
  rw [List.getElem?_set_self hjl] at hx
  rw [List.getElem?_set_self (by omega)] at hc
  injection hx with hx
  injection hc with hc
  rw [← hx, ← hc]
  exact FK_mono (FK_step hM (fun k hk hlt => hg.block k hlt (fun he => (hokp k hk).2 (by injection he)))) (fun k hk => ⟨(hokp k hk).1, fun he => (hokp k hk).2 (by rw [← hgo] at he; injection he)⟩)
 ·rw [List.getElem?_set_ne (Ne.symm hji)] at hx hc
  exact FK_step (hf j x c hx hc) (fun k hk hlt => hg.block k hlt (by rw [hgo]; exact hk.2))
theorem N_seg (h : N d e W base ok (.slice (some ⟨g, 0, none⟩) n cap) xs) (i : Int) (h0 : 0 ≤ i) (h1 : i < n) {c seg : List Value} {j : Nat} (hcl : c.length = d.sz) (hcc : ∀ j u, c[j]? = some u → W.cell? ⟨g, i.toNat * d.sz + j, none⟩ = some u)
  (hj : j + seg.length ≤ d.sz) {x' : α} (hM : FK d W okp x' (c.take j ++ seg ++ c.drop (j + seg.length))) (hokp : ∀ k, okp k → ok k ∧ k ≠ g) :
  N d e (W.setCells g (i.toNat * d.sz + j) seg) base ok (.slice (some ⟨g, 0, none⟩) n cap) (xs.set i.toNat x') ∧ W.grownBy (W.setCells g (i.toNat * d.sz + j) seg) (some g) := by
 obtain ⟨hown, rows, hl, hR, hf⟩ := h
 obtain ⟨h2, h3⟩ := R_seg (raw_any hR) i h0 h1 (c := c) (seg := seg) (j := j) (x' := c.take j ++ seg ++ c.drop (j + seg.length)) (okp := fun _ => False) hcl hcc hj ⟨rfl, d.K_len (FK_now hM), d.K_one (FK_now hM)⟩ (fun _ hk => hk.elim)
 exact ⟨N_written hown hl hf h2 h3 hM hokp, h3⟩
theorem reads_raw {Rr : α → List Value → Prop} {sz m : Nat} {A : Option Addr} (h : ReadsRow Rr sz W A m ys) (hR : ∀ x c, Rr x c → c.length = sz ∧ ∀ u ∈ c, u.oneCell' = true) :
  ∃ news : List (List Value), news.length = ys.length ∧ ReadsRow (fun x cs => cs = x ∧ cs.length = sz ∧ ∀ u ∈ cs, u.oneCell' = true) sz W A m news ∧ ∀ (j : Nat) (x : α) (c : List Value), ys[j]? = some x → news[j]? = some c → Rr x c := by
 rcases Nat.eq_zero_or_pos m with h0 | hp
 ·have hy : ys = [] := List.eq_nil_of_length_eq_zero (h.1.trans h0)
  subst hy
  exact ⟨[], rfl, ⟨h0 ▸ rfl, h.2.1, fun hp => by omega⟩, fun j x c hx => by simp at hx⟩
 ·obtain ⟨ad, rfl, _⟩ := h.2.2 hp
  obtain ⟨inner, hr, hc⟩ := ReadsRow.inner_ h
  refine ⟨chunks sz ys.length inner, chunks_length _ _ _, ⟨by rw [chunks_length]; exact h.1, h.2.1, fun _ => ⟨ad, rfl, fun j p hj => ?_⟩⟩, fun j x c hx hcc => ?_⟩
  ·have hjl : j < ys.length := by have := (List.getElem?_eq_some_iff.1 hj).1; rwa [chunks_length] at this
   have hpe := chunks_get hj
   have hq := hR _ _ (hr.2 j _ (List.getElem?_eq_getElem hjl))
   rw [← hpe] at hq
   refine ⟨p, hq.1, ⟨rfl, hq⟩, fun i u hu => ?_⟩
   have hu2 : inner[j * sz + i]? = some u := by
    rw [hpe, List.getElem?_take] at hu
    split at hu
    ·rw [List.getElem?_drop] at hu
     exact hu
    ·cases hu
   exact hc _ u hu2
  ·rw [chunks_get hcc]
   exact hr.2 j x hx
end
section
variable {P : Program} {ops : Array Oper} {rest : List Oper} {o : Oper} {a : Act} {Q : Exit → Act → World → Prop} {Kc : Act → World → Prop} {α : Type}
theorem N_append_rows (d : Kd α) {w0 W : World} (base : Nat) (hgd : o.guard = none) (s x : Operand) (t e : TypeId) (z : Value) (bytes : Nat)
  (ho : o.op = .call { callee := .builtin .append, args := #[s, x], argTypes := #[t, t] })
  (ht : P.underlying t = some (.slice e)) (hinfo : (P.info? e).map (fun i => (i.zero, i.size, i.bytes)) = some (some z, d.sz, bytes)) (hz : z.cells.size = d.sz) (hs0 : 0 < d.sz) (hb0 : 0 < bytes)
  (v : Value) (xs ys : List α) (A : Option Addr) (m c : Nat) (ok okp : Nat → Prop) (hs : a.eval s = v) (hx : a.eval x = .slice A m c)
  (HO : N d e W base ok v xs) (HR : F d W okp A m ys) (hokp : ∀ k, okp k → ok k ∧ some k ≠ v.ownBlock) (hfresh : ∀ k, W.heap.size ≤ k → ok k)
  (HB : Below base w0 W) (hbase : base ≤ W.heap.size) (hl : (xs.length + m) * bytes ≤ 140737488355328)
  (h : ∀ v1 w1, N d e w1 base ok v1 (xs ++ ys) → Below base w0 w1 → W.grownBy w1 v.ownBlock → (v1.ownBlock = v.ownBlock ∨ ∃ b, v1.ownBlock = some b ∧ W.heap.size ≤ b) → wpList P ops Q rest (a.put o.dst v1) w1) :
  wpList P ops Q (o :: rest) a W := by
 obtain ⟨h0, rows, hlr, hR, hf⟩ := HO
 obtain ⟨news, hnl, hnr, hnf⟩ := reads_raw (F_rows HR) (fun y c hk => ⟨d.K_len (FK_now hk), d.K_one (FK_now hk)⟩)
 refine R_append_rows (raw d.sz) base hgd s x t e z bytes ho ht hinfo hz hs0 hb0 v rows news A m c (fun _ => True) (fun _ => False) hs hx (raw_any hR) hnr (fun _ _ hk => hk) (fun _ hk => hk.elim) (fun _ _ => trivial) HB hbase (by rw [hlr]; exact hl) ?_
 intro v1 w1 hr hb hg hat
 exact h v1 w1 (N_appended h0 hlr hf hnl hnf hokp hfresh hr hg hat) hb hg hat
theorem N_append_rows_step (d : Kd α) {w0 W : World} (base : Nat) (hw : Region.wanted o (yielded ops a.tmps) = true) (s x : Operand) (t e : TypeId) (z : Value) (bytes : Nat)
  (ho : o.op = .call { callee := .builtin .append, args := #[s, x], argTypes := #[t, t] })
  (ht : P.underlying t = some (.slice e)) (hinfo : (P.info? e).map (fun i => (i.zero, i.size, i.bytes)) = some (some z, d.sz, bytes)) (hz : z.cells.size = d.sz) (hs0 : 0 < d.sz) (hb0 : 0 < bytes)
  (v : Value) (xs ys : List α) (A : Option Addr) (m c : Nat) (ok okp : Nat → Prop) (hs : a.eval s = v) (hx : a.eval x = .slice A m c)
  (HO : N d e W base ok v xs) (HR : F d W okp A m ys) (hokp : ∀ k, okp k → ok k ∧ some k ≠ v.ownBlock) (hfresh : ∀ k, W.heap.size ≤ k → ok k)
  (HB : Below base w0 W) (hbase : base ≤ W.heap.size) (hl : (xs.length + m) * bytes ≤ 140737488355328)
  (h : ∀ v1 w1, N d e w1 base ok v1 (xs ++ ys) → Below base w0 w1 → W.grownBy w1 v.ownBlock → (v1.ownBlock = v.ownBlock ∨ ∃ b, v1.ownBlock = some b ∧ W.heap.size ≤ b) → Kc (a.put o.dst v1) w1) :
  if Region.wanted o (yielded ops a.tmps) = true then Oper.wp P o a W Kc Q else Kc (a.put o.dst undef) W := by
 obtain ⟨h0, rows, hlr, hR, hf⟩ := HO
 obtain ⟨news, hnl, hnr, hnf⟩ := reads_raw (F_rows HR) (fun y c hk => ⟨d.K_len (FK_now hk), d.K_one (FK_now hk)⟩)
 refine R_append_rows_step (raw d.sz) base hw s x t e z bytes ho ht hinfo hz hs0 hb0 v rows news A m c (fun _ => True) (fun _ => False) hs hx (raw_any hR) hnr (fun _ _ hk => hk) (fun _ hk => hk.elim) (fun _ _ => trivial) HB hbase (by rw [hlr]; exact hl) ?_
 intro v1 w1 hr hb hg hat
 exact h v1 w1 (N_appended h0 hlr hf hnl hnf hokp hfresh hr hg hat) hb hg hat
theorem N_lit_step (d : Kd α) {w0 W : World} (base e : Nat) (hw : Region.wanted o (yielded ops a.tmps) = true) {N' : Tmp} (_hd : o.dst = some N') {xs : List α} {inner : List Value} {ok okp : Nat → Prop}
  (hrun : (execOp a.eval o).run P W = .ok (.value (.slice (some ⟨W.heap.size, 0, none⟩) xs.length xs.length)) (W.alloc (.cells inner.toArray e)))
  (hrep : Reps (FK d W okp) d.sz xs inner) (hok : ∀ k, okp k → ok k) (hfresh : ok W.heap.size) (HB : Below base w0 W) (hbase : base ≤ W.heap.size) (hm : xs.length ≤ 9223372036854775807)
  (h : ∀ v1 w1, N d e w1 base ok v1 xs → Below base w0 w1 → W.grownBy w1 none → (∃ b, v1.ownBlock = some b ∧ W.heap.size ≤ b) → Kc (a.put o.dst v1) w1) :
  if Region.wanted o (yielded ops a.tmps) = true then Oper.wp P o a W Kc Q else Kc (a.put o.dst undef) W := by
 refine R_lit_step (raw d.sz) base e hw _hd (xs := chunks d.sz xs.length inner) (inner := inner) (ok := fun k => k = W.heap.size) (okp := fun _ => False) (by rw [chunks_length]; exact hrun) (reps_raw hrep (fun y c hk => ⟨d.K_len (FK_now hk), d.K_one (FK_now hk)⟩)) (fun _ hk => hk.elim) rfl HB hbase (by rw [chunks_length]; exact hm) ?_
 intro v1 w1 hr hb hg hat
 exact h v1 w1 (N_made hr hg hat (chunks_length _ _ _) (fun j y c hy hc => by rw [chunks_get hc]; exact hrep.2 j y hy) hok hfresh) hb hg hat
end
end Kd
end Go.Proofs.YtagkfkdoibnhfaaDoorW.PrintWords
end
section
namespace Go.Proofs.YtagkfkdoibnhfaaDoorW.PrintWords
open Go.RowKit
theorem drewN_self (w : World) (n : Nat) : w.drewN n = w.drewN n := rfl
end Go.Proofs.YtagkfkdoibnhfaaDoorW.PrintWords
namespace Go.Proofs.YtagkfkdoibnhfaaDoorW.PrintWords
open Go.RowKit
namespace Kd
section
variable {α β : Type} {d : Kd α} {e base base' n m c g N' lo hi : Nat} {ok ok' S : Nat → Prop} {w W w1 : World} {A : Option Addr} {ad : Addr} {u v v1 : Value} {xs : List α}
theorem V_F (h : V d e W base ok (.slice A n c) xs) : F d W ok A n xs := by
 obtain ⟨hn, _, hf⟩ := V_at h
 rw [hn]
 exact hf
theorem N_V (h : N d e W base ok v xs) : V d e W base' ok v xs := by
 obtain ⟨A, c, rfl⟩ := N_slice h
 exact ⟨A, c, rfl, (N_reads' h).2.1, N_F h⟩
theorem V_bound (h : V d e W base ok v xs) : V d e W base (fun k => ok k ∧ k < W.heap.size) v xs := V_map h (fun _ hf => F_bound hf)
theorem V_step (h : V d e W base ok v xs) (hm : ∀ k, ok k → k < W.heap.size → w1.heap[k]? = W.heap[k]?) : V d e w1 base ok v xs := V_map h (fun _ hf => F_step hf hm)
theorem V_kept (h : V d e W base ok v xs) (hk : Kept W w1 S) (hok : ∀ k, ok k → ¬ S k) : V d e w1 base ok v xs := V_map h (fun _ hf => F_kept hf hk hok)
theorem V_after (h : V d e W base (fun k => ok k ∧ some k ≠ u.ownBlock) v xs) (hg : W.grownBy w1 u.ownBlock) (hat : v1.ownBlock = u.ownBlock ∨ ∃ b, v1.ownBlock = some b ∧ W.heap.size ≤ b) : V d e w1 base (fun k => ok k ∧ some k ≠ v1.ownBlock) v xs := V_map h (fun _ hf => F_after hf hg hat)
theorem V_afterv (h : V d e W base (fun k => ok k ∧ some k ≠ v.ownBlock) u xs) (hg : W.grownBy w1 v.ownBlock) (hat : v1.ownBlock = v.ownBlock ∨ ∃ b, v1.ownBlock = some b ∧ W.heap.size ≤ b) : V d e w1 base (fun k => ok k ∧ some k ≠ v1.ownBlock) u xs := V_after h hg hat
theorem N_afterv (h : N d e W base (fun k => ok k ∧ some k ≠ v.ownBlock) u xs) (hg : W.grownBy w1 v.ownBlock) (hat : v1.ownBlock = v.ownBlock ∨ ∃ b, v1.ownBlock = some b ∧ W.heap.size ≤ b) : N d e w1 base (fun k => ok k ∧ some k ≠ v1.ownBlock) u xs := N_after h hg hat
theorem V_elderB (h : V d e W base ok v xs) (a : Nat) (ha : W.heap.size ≤ a) : V d e W base (fun k => ok k ∧ k ≠ a) v xs := V_map h (fun _ hf => F_elderB hf a ha)
theorem V_keptB (h : V d e W base ok v xs) (hk : Kept W w1 S) (hne : ∀ k, ok k → ¬ S k) : V d e w1 base (fun k => ok k ∧ (¬ S k ∧ k < W.heap.size)) v xs :=
 V_kept (V_mono (V_bound h) (fun k hk => ⟨hk.1, hne k hk.1, hk.2⟩)) hk (fun _ hk => hk.2.1)
theorem V_get (h : V d e W base ok (.slice (some ad) n c) xs) (z : α) (i : Int) (h0 : 0 ≤ i) (h1 : i < n) :
  ∃ cs, cs.length = d.sz ∧ FK d W ok (xs.getD i.toNat z) cs ∧ ∀ j u, cs[j]? = some u → W.cell? (ad.add (i.toNat * d.sz + j)) = some u := by
 obtain ⟨ad', cs, he, hcl, hK, hcc, _⟩ := F_get (V_F h) z i h0 h1
 injection he with he
 subst he
 exact ⟨cs, hcl, hK, hcc⟩
theorem F_take (h : F d W ok A xs.length xs) (hm : m ≤ xs.length) : F d W ok A (xs.take m).length (xs.take m) := F_imp h (fun _ hC => C_take hC hm)
end
end Kd
end Go.Proofs.YtagkfkdoibnhfaaDoorW.PrintWords
end
section
namespace Go.Proofs.YtagkfkdoibnhfaaDoor.H
open Go.RowKit Go.Proofs.YtagkfkdoibnhfaaDoorW.PrintWords Go.Proofs.YtagkfkdoibnhfaaDoorW.PrintLast Go.Proofs.YtagkfkdoibnhfaaDoorW.PrintMore
set_option linter.unusedVariables false
set_option linter.unusedSimpArgs false
theorem k60_openF {W : World} {ok : Nat → Prop} {x : S60} {cs : List Value} (h : Kd.FK k60 W ok x cs) : ∃ A1 c1, cs = [.int .i64 x.f0, .slice A1 x.f1.length c1] ∧ x.f1.length ≤ c1 ∧ Kd.F (Kd.int .i64) W ok A1 x.f1.length x.f1 := by
 obtain ⟨A1, c1, rfl, l1, _⟩ := k60_open (Kd.FK_now h)
 exact ⟨A1, c1, rfl, l1, (fun W' hW => by obtain ⟨A1_, c1_, he, l1_, g1_⟩ := k60_open (h W' hW); injection (Option.some.inj (show some (Value.slice A1 x.f1.length c1) = some (Value.slice A1_ x.f1.length c1_) from congrArg (fun l => l[1]?) he)) with ha_ _ _; rw [ha_]; exact g1_)⟩
end Go.Proofs.YtagkfkdoibnhfaaDoor.H
end
section
namespace Go.Proofs.YtagkfkdoibnhfaaDoor.K
open Go.ChangeShapes Go.WideShapes Go.ChangeAt Go.RowKit Go.Proofs.YtagkfkdoibnhfaaDoorW.PrintWords Go.Proofs.YtagkfkdoibnhfaaDoor.H
section
variable {H : Type} {enc : TypeId × Value → H} {w : World} {base : Nat} {spare : Nat → Bool} {held : Bool} {r : Reach} {b0 : Nat} {v : Value} {y : DataW H} {p : List MemPlace}
theorem okWide_array {P : Program} {t e : TypeId} {n : Nat} (ht : P.underlying t = some (.array n e)) (h : Value.okWide P w r b0 t v) : ∃ cs, v = .agg cs ∧ cs.size = P.cellsOf t := by
 unfold Value.okWide at h
 rw [ht] at h
 obtain ⟨cs, rfl, hs, _⟩ := h
 exact ⟨cs, rfl, hs⟩
set_option maxRecDepth 100000 in
theorem ints_of_array {t : TypeId} {n : Nat} (ht : Tryd.prog.underlying t = some (.array n 3)) (hc : Tryd.prog.cellsOf t = n) (hv : Value.okWide Tryd.prog w r b0 t v) (h : DataW.Trod enc Tryd.prog w base spare held t v y p) :
  ∃ cs : Array Value, v = .agg cs ∧ cs.size = n ∧ ∀ i (hi : i < cs.size), ∃ x, cs[i] = .int .i64 x ∧ I64 x := by
 obtain ⟨cs, rfl, hs⟩ := okWide_array ht hv
 obtain ⟨fuel, hf⟩ := h
 obtain ⟨xs, m, rfl, _, hl, hn, he⟩ := DataW.trod_array ht hf
 have hc3 : Tryd.prog.cellsOf 3 = 1 := by kernel_rfl
 refine ⟨cs, rfl, by omega, fun i hi => ?_⟩
 have hi2 : i < n := by omega
 have h1 := he i hi2
 rw [List.getElem?_eq_getElem (by omega), hc3, Nat.mul_one] at h1
 obtain ⟨x, hK, hx⟩ := opens3 H enc w base spare held m _ _ h1
 refine ⟨x, ?_, hx⟩
 have hcells : (Value.agg cs).cells.toList = cs.toList := by rfl
 rw [hcells] at hK
 have hg : (cs.toList.drop i).take 1 = [cs[i]] := by
  rw [List.drop_eq_getElem_cons (by simpa using hi)]
  simp
 rw [hg] at hK
 have e : [cs[i]] = [Value.int .i64 x] := hK
 injection e
set_option maxRecDepth 100000 in
theorem arg_three (hv : Value.okWide Tryd.prog w r b0 67 v) (h : DataW.Trod enc Tryd.prog w base spare held 67 v y p) :
  ∃ x0 x1 x2 : Int, v = .agg #[.int .i64 x0, .int .i64 x1, .int .i64 x2] ∧ I64 x0 ∧ I64 x1 ∧ I64 x2 := by
 obtain ⟨cs, rfl, hs, hx⟩ := ints_of_array (n := 3) Tryd.underlying67 zk hv h
 obtain ⟨x0, e0, h0⟩ := hx 0 (by omega)
 obtain ⟨x1, e1, h1⟩ := hx 1 (by omega)
 obtain ⟨x2, e2, h2⟩ := hx 2 (by omega)
 refine ⟨x0, x1, x2, ?_, h0, h1, h2⟩
 congr 1
 apply Array.ext (by simpa using hs)
 intro i hi _
 obtain rfl | rfl | rfl : i = 0 ∨ i = 1 ∨ i = 2 := by omega
 ·simpa using e0
 ·simpa using e1
 ·simpa using e2
end
end Go.Proofs.YtagkfkdoibnhfaaDoor.K
end
section
namespace Go.Proofs.YtagkfkdoibnhfaaDoor.K
open Go.RowKit Go.Proofs.YtagkfkdoibnhfaaDoorW.PrintWords Go.Proofs.YtagkfkdoibnhfaaDoorW.PrintMore Go.Proofs.YtagkfkdoibnhfaaDoor.H
namespace O
theorem irange_mem_iff {x lo hi : Int} : x ∈ irange lo hi ↔ lo ≤ x ∧ x ≤ hi := by
 unfold irange
 rw [List.mem_map]
 constructor
 ·rintro ⟨i, hi, rfl⟩
  rw [List.mem_range] at hi
  omega
 ·rintro ⟨h1, h2⟩
  exact ⟨(x - lo).toNat, by rw [List.mem_range]; omega, by omega⟩
theorem irange_len (lo hi : Int) : (irange lo hi).length = (hi + 1 - lo).toNat := by unfold irange; simp
theorem choices_mem' {T O : Int} {R : List S66} {hs : List S60} {p : Int} {q : Int × Int} : q ∈ choices T O R hs p ↔ q ∈ pairsOf (T * O) ∧ miss T R hs p q.1 q.2 = 0 := by
 unfold choices
 rw [List.mem_filter, decide_eq_true_eq]
theorem pairs_mem_iff {m : Int} {q : Int × Int} : q ∈ pairsOf m ↔ (0 ≤ q.1 ∧ q.1 ≤ m - 1) ∧ 0 ≤ q.2 ∧ q.2 ≤ m - 1 := by
 unfold pairsOf
 rw [List.mem_flatMap]
 constructor
 ·rintro ⟨a, ha, h⟩
  rw [List.mem_map] at h
  obtain ⟨b, hb, rfl⟩ := h
  exact ⟨irange_mem_iff.1 ha, irange_mem_iff.1 hb⟩
 ·rintro ⟨h1, h2⟩
  exact ⟨q.1, irange_mem_iff.2 h1, List.mem_map.2 ⟨q.2, irange_mem_iff.2 h2, rfl⟩⟩
theorem canAll_pos {T O L : Int} {R : List S66} {hs : List S60} (h : canAll T O L R hs = true) (p : Int) (h0 : 0 ≤ p) (h1 : p ≤ L / 2 - 1) : ∃ q, q ∈ choices T O R hs p := by
 unfold canAll at h
 rw [List.all_eq_true] at h
 have := h p (irange_mem_iff.2 ⟨h0, h1⟩)
 cases hc : choices T O R hs p
 ·rw [hc] at this; simp at this
 ·exact ⟨_, List.mem_cons_self⟩
theorem canOf_mem {T O : Int} {R : List S66} {hs : List S60} {place t : Int} : t ∈ canOf T O R hs place ↔ ∃ q ∈ choices T O R hs (place / 2), side q place = t := by
 unfold canOf
 rw [List.mem_filter, List.any_eq_true]
 constructor
 ·rintro ⟨_, q, hq, h⟩
  exact ⟨q, hq, of_decide_eq_true h⟩
 ·rintro ⟨q, hq, rfl⟩
  refine ⟨irange_mem_iff.2 ?_, q, hq, decide_eq_true rfl⟩
  have := pairs_mem_iff.1 (choices_mem'.1 hq).1
  unfold side
  split
  ·exact this.1
  ·exact this.2
end O
end Go.Proofs.YtagkfkdoibnhfaaDoor.K
end
section
namespace Go.Proofs.YtagkfkdoibnhfaaDoor.K
open Go.RowKit Go.Proofs.YtagkfkdoibnhfaaDoorW.PrintWords Go.Proofs.YtagkfkdoibnhfaaDoorW.PrintMore Go.Proofs.YtagkfkdoibnhfaaDoor.H
namespace O
theorem flatMap_length {α : Type} (f : α → List Int) (W : Nat) (hW : ∀ x, (f x).length = W) : ∀ l : List α, (l.flatMap f).length = l.length * W
 | [] => by simp
 | x :: l => by rw [List.flatMap_cons, List.length_append, hW, flatMap_length f W hW l, List.length_cons, Nat.add_mul, Nat.one_mul, Nat.add_comm]
def Single (T O L : Int) (R : List S66) (hs : List S60) (q : Int → Int × Int) : Prop := ∀ p, 0 ≤ p → p ≤ L / 2 - 1 → choices T O R hs p = [q p]
theorem won_flat {T O L : Int} {R : List S66} {hs : List S60} {q : Int → Int × Int} (h : Single T O L R hs q) : wonOf T O L R hs = (irange 0 (L / 2 - 1)).flatMap fun p => [(q p).1, (q p).2] := by
 unfold wonOf
 rw [List.flatMap_def, List.flatMap_def]
 congr 1
 apply List.map_congr_left
 intro p hp
 obtain ⟨h0, h1⟩ := irange_mem_iff.1 hp
 rw [h p h0 h1]
section
variable {T O L : Int} {R : List S66} {hs : List S60} {q : Int → Int × Int} (hS : okScale T O L R = true) (hH : okHeard L R hs = true) (h : Single T O L R hs q)
include hS h
theorem won_len : ((wonOf T O L R hs).length : Int) = L := by
 obtain ⟨t1, t2, t3, t4, t5, t6, t7, t8, t9, hok⟩ := okScale_regs hS
 rw [won_flat h, flatMap_length _ 2 (fun _ => rfl), irange_len]
 omega
theorem single_mem (p : Int) (h0 : 0 ≤ p) (h1 : p ≤ L / 2 - 1) : ((0 ≤ (q p).1 ∧ (q p).1 ≤ T * O - 1) ∧ 0 ≤ (q p).2 ∧ (q p).2 ≤ T * O - 1) ∧ miss T R hs p (q p).1 (q p).2 = 0 := by
 have := choices_mem'.1 (show q p ∈ choices T O R hs p by rw [h p h0 h1]; simp)
 exact ⟨pairs_mem_iff.1 this.1, this.2⟩
theorem won_ok (r : Int) (h0 : 0 ≤ r) (h1 : r < R.length) : okPart T O L R (wonOf T O L R hs) r = true := by
 unfold okPart
 simp only [Bool.and_eq_true, decide_eq_true_eq, List.all_eq_true]
 refine ⟨⟨⟨won_len hS h, h0⟩, h1⟩, fun x hx => ?_⟩
 rw [won_flat h, List.mem_flatMap] at hx
 obtain ⟨p, hp, hx⟩ := hx
 obtain ⟨g0, g1⟩ := irange_mem_iff.1 hp
 have := (single_mem hS h p g0 g1).1
 simp only [List.mem_cons, List.not_mem_nil, or_false] at hx
 rcases hx with rfl | rfl <;> omega
include hH
end
end O
end Go.Proofs.YtagkfkdoibnhfaaDoor.K
end
section
namespace Go.Proofs.YtagkfkdoibnhfaaDoor.H
open Go.RowKit Go.Proofs.YtagkfkdoibnhfaaDoorW.PrintWords Go.Proofs.YtagkfkdoibnhfaaDoorW.PrintLast Go.Proofs.YtagkfkdoibnhfaaDoorW.PrintMore
set_option linter.unusedVariables false
set_option linter.unusedSimpArgs false
def saronref00_Where.l0 : Nat → List Int → Int → Int → Option (Int)
 | 0, _, _, _ => none
 | k + 1, x0, x1, x5 => if x5 < (x0.length : Int) then (if 0 ≤ x5 then (if (rd x0 x5) = x1 then (some x5) else (saronref00_Where.l0 k x0 x1 (wrap64 (x5 + 1)))) else (none)) else (some (-1))
def saronref00_Where.f (k : Nat) (l0 : List Int) (a1 : Int) : Option (Int) := saronref00_Where.l0 k l0 a1 0
set_option maxHeartbeats 8000000 in
set_option maxRecDepth 100000 in
theorem saronref00_Where.calls (k : Nat) (A0 : Option Addr) (c0 : Nat) (l0 : List Int) (a1 : Int) (r : Int) (w : World) (hr0 : Kd.C (Kd.int .i64) w A0 l0.length l0) (hc0 : l0.length ≤ c0) (h : saronref00_Where.f k l0 a1 = some r) :
  Calls Tryd.prog 43 #[.slice A0 l0.length c0, .int .i64 a1] w fun e w' => e = .returned (.int .i64 r) ∧ Drawn0 w w' := by
 have HR0 := zh hr0
 have HC0 := zh hc0
 clear hr0 hc0
 have H : (saronref00_Where.l0 k l0 a1 0) = some r := h
 clear h
 have H' := zh H
 clear H
 go_enter Tryd.func43, Tryd.ntmps43
 go_wp2
 go_loopg [5] k (fun kq v5 w' => ∃ (x5_1 : Int), v5 = .int .i64 x5_1 ∧ Aside0 (saronref00_Where.l0 kq l0 a1 x5_1 = some r) ∧ Aside0 (kq ≤ k) ∧ Drawn0 w w')
 case atStart => exact ⟨(0), ze, H', ⟨Nat.le_refl _⟩, by repeat (first | exact Drawn0.refl _ | apply Drawn0.step)⟩
 case round =>
  clear H'
  try clear p2
  obtain ⟨x5_1, rfl, HA, HK1, ⟨m1, rfl⟩⟩ := hrel
  cases gk with
  | zero => exact absurd HA.out (by simp [saronref00_Where.l0])
  | succ k1 =>
   have H := HA.out
   clear HA
   simp only [saronref00_Where.l0] at H
   by_cases c3 : x5_1 < (l0.length : Int)
   ·rw [if_pos c3] at H
    have c3b0 : decide (x5_1 < (l0.length : Int)) = true := decide_eq_true c3
    clear c3
    by_cases c4 : 0 ≤ x5_1
    ·rw [if_pos c4] at H
     have c4b0 : decide (0 ≤ x5_1) = true := decide_eq_true c4
     clear c4
     by_cases c5 : (rd l0 x5_1) = a1
     ·rw [if_pos c5] at H
      have c5b0 : ((rd l0 x5_1) == a1) = true := beq_iff_eq.mpr c5
      have c5b1 : ((rd l0 x5_1) != a1) = false := bne_eq_false_iff_eq.mpr c5
      clear c5
      obtain rfl := Option.some.inj H
      have p510 : 0 ≤ (x5_1 : Int) := of_decide_eq_true zs
      have q510 : x5_1 < (l0.length : Int) := of_decide_eq_true zs
      obtain ⟨ad510, e510, hx510_0⟩ := Kd.at_int HR0.out x5_1 p510 q510
      cases e510
      replace p510 := eq_true p510
      replace q510 := eq_true q510
      go_wp2
      go_ret
      exact ⟨ze, by repeat (first | exact Drawn0.refl _ | apply Drawn0.step)⟩
     ·rw [if_neg c5] at H
      have c5b0 : ((rd l0 x5_1) == a1) = false := beq_eq_false_iff_ne.mpr c5
      have c5b1 : ((rd l0 x5_1) != a1) = true := bne_iff_ne.mpr c5
      have H' := zh H
      clear H
      have p510 : 0 ≤ (x5_1 : Int) := of_decide_eq_true zs
      have q510 : x5_1 < (l0.length : Int) := of_decide_eq_true zs
      obtain ⟨ad510, e510, hx510_0⟩ := Kd.at_int HR0.out x5_1 p510 q510
      cases e510
      replace p510 := eq_true p510
      replace q510 := eq_true q510
      go_wp2
      go_roundg k1
      case measure => have := HK1.out; omega
      case rel => exact ⟨(wrap64 (x5_1 + 1)), ze, H', ⟨by have := HK1.out; omega⟩, by repeat (first | exact Drawn0.refl _ | apply Drawn0.step)⟩
    ·rw [if_neg c4] at H
     exact absurd H (by simp)
   ·rw [if_neg c3] at H
    have c3b0 : decide (x5_1 < (l0.length : Int)) = false := decide_eq_false c3
    clear c3
    obtain rfl := Option.some.inj H
    go_wp2
    go_ret
    exact ⟨ze, by repeat (first | exact Drawn0.refl _ | apply Drawn0.step)⟩
end Go.Proofs.YtagkfkdoibnhfaaDoor.H
end
section
namespace Go.Proofs.YtagkfkdoibnhfaaDoor.H
open Go.RowKit Go.Proofs.YtagkfkdoibnhfaaDoorW.PrintWords Go.Proofs.YtagkfkdoibnhfaaDoorW.PrintLast Go.Proofs.YtagkfkdoibnhfaaDoorW.PrintMore
attribute [local go_sem] max2_int min2_int max_two min_two max_three min_three max_four min_four   -- for this text's walks alone
set_option linter.unusedVariables false
set_option linter.unusedSimpArgs false
mutual
def saronlaw06_sound.j0 : Nat → Bool → Int → Int → Int → List (S66) → Option (Bool)
 | 0, _, _, _, _, _ => none
 | k + 1, x3, x464000, x464001, x464002, x464003 => saronlaw06_sound.l0 k x3 0 x464000 x464001 x464002 x464003
def saronlaw06_sound.l0 : Nat → Bool → Int → Int → Int → Int → List (S66) → Option (Bool)
 | 0, _, _, _, _, _, _ => none
 | k + 1, x3, x4, x464000, x464001, x464002, x464003 => if x3 = true then (saronlaw06_sound.j2 k x3 x4 (decide (x4 < (x464003.length : Int))) x464000 x464001 x464002 x464003) else (saronlaw06_sound.j2 k x3 x4 false x464000 x464001 x464002 x464003)
def saronlaw06_sound.j2 : Nat → Bool → Int → Bool → Int → Int → Int → List (S66) → Option (Bool)
 | 0, _, _, _, _, _, _, _ => none
 | k + 1, x3, x4, x43, x464000, x464001, x464002, x464003 => if x43 = true then (if 0 ≤ x4 then (if x4 < (x464003.length : Int) then ((saronref00_Sits.f ((rd_T66 x464003 x4).f0) 0 4).bind fun t471 => (if t471 = true then ((saronref00_Band.f ((rd_T66 x464003 x4).f1) ((rd_T66 x464003 x4).f2)).bind fun bt472 => ((saronref00_Good.f bt472.1 bt472.2 0 (wrap64 ((wrap64 (x464000 * x464001)) - 1))).bind fun t474 => (if t474 = true then ((saronref00_Sits.f ((rd_T66 x464003 x4).f3) (-6) 6).bind fun t475 => (saronlaw06_sound.l0 k t475 (wrap64 (x4 + 1)) x464000 x464001 x464002 x464003)) else (saronlaw06_sound.l0 k false (wrap64 (x4 + 1)) x464000 x464001 x464002 x464003)))) else (saronlaw06_sound.l0 k false (wrap64 (x4 + 1)) x464000 x464001 x464002 x464003))) else (none)) else (none)) else (some x3)
end
def saronlaw06_sound.f (k : Nat) (a0_0 : Int) (a0_1 : Int) (a0_2 : Int) (l0_3 : List (S66)) : Option (Bool) := (kernel_Check.f k a0_0 a0_1 a0_2 l0_3).bind fun t464 => (if t464 = 0 then ((saronref00_Sits.f a0_0 2 7).bind fun t465 => (if t465 = true then ((saronref00_Sits.f a0_1 1 3).bind fun t466 => (if t466 = true then ((saronref00_Sits.f a0_2 2 16).bind fun t467 => (if t467 = true then (if (Int.tmod a0_2 2) = 0 then ((saronref00_Sits.f (l0_3.length : Int) 1 5).bind fun t468 => (saronlaw06_sound.j0 k t468 a0_0 a0_1 a0_2 l0_3)) else (saronlaw06_sound.j0 k false a0_0 a0_1 a0_2 l0_3)) else (saronlaw06_sound.j0 k false a0_0 a0_1 a0_2 l0_3))) else (saronlaw06_sound.j0 k false a0_0 a0_1 a0_2 l0_3))) else (saronlaw06_sound.j0 k false a0_0 a0_1 a0_2 l0_3))) else (saronlaw06_sound.j0 k false a0_0 a0_1 a0_2 l0_3))
def saronlaw06_sound.T6 : Bool × List (List Nat × List Nat) := (true, [([], []), ([0], [0]), ([1], [1]), ([2, 2], [2]), ([3], [3]), ([4, 3], [3, 4]), ([3], [3]), ([6, 3], [3, 6]), ([5, 7, 3, 3], [3, 5, 7]), ([3], [3]), ([9, 3], [3, 9]), ([3], [3]), ([11, 3], [3, 11]), ([10, 12, 3], [3, 10, 12]), ([13, 3], [3, 13]), ([8, 14, 8, 3], [3, 8, 14]), ([3, 15], [3, 15]), ([16, 15], [16]), ([17], [17]), ([18, 17], [17, 18]), ([19, 17, 17], [17, 19]), ([17, 20], [17, 20]), ([21, 20, 0, 1, 2, 3, 4, 5, 6, 7, 8, 9, 10, 11, 12, 13, 14, 15, 16, 17, 18, 19, 20, 21], [21])])
def saronlaw06_sound.B6 : List Nat := [0, 1, 3, 7, 15, 31, 15, 79, 255, 15, 527, 15, 2063, 7695, 15887, 32767, 65535, 131071, 262143, 524287, 1048575, 2097151, 4194303]
theorem saronlaw06_sound.tab6 : rtab .any (opsOf Tryd.f39 6) = saronlaw06_sound.T6 := by kernel_rfl
theorem saronlaw06_sound.bits6 : waitsOk saronlaw06_sound.T6.2 saronlaw06_sound.B6 = true := by kernel_rfl
set_option maxHeartbeats 8000000 in
set_option maxRecDepth 100000 in
theorem saronlaw06_sound.calls (k : Nat) (a0_0 : Int) (a0_1 : Int) (a0_2 : Int) (A0_3 : Option Addr) (c0_3 : Nat) (l0_3 : List (S66)) (r : Bool) (w : World) (hr0_3 : Kd.C k66 w A0_3 l0_3.length l0_3) (hc0_3 : l0_3.length ≤ c0_3) (h : saronlaw06_sound.f k a0_0 a0_1 a0_2 l0_3 = some r) :
  Calls Tryd.prog 39 #[.agg #[.int .i64 a0_0, .int .i64 a0_1, .int .i64 a0_2, .slice A0_3 l0_3.length c0_3]] w fun e w' => e = .returned (.bool r) ∧ Below w.heap.size w w' := by
 have hu24 := Tryd.underlying24
 have hu66 := Tryd.underlying66
 have HR0_3 := zh hr0_3
 have HC0_3 := zh hc0_3
 clear hr0_3 hc0_3
 have HB := zh (Below.refl w.heap.size w)
 have H : ((kernel_Check.f k a0_0 a0_1 a0_2 l0_3).bind fun t464 => (if t464 = 0 then ((saronref00_Sits.f a0_0 2 7).bind fun t465 => (if t465 = true then ((saronref00_Sits.f a0_1 1 3).bind fun t466 => (if t466 = true then ((saronref00_Sits.f a0_2 2 16).bind fun t467 => (if t467 = true then (if (Int.tmod a0_2 2) = 0 then ((saronref00_Sits.f (l0_3.length : Int) 1 5).bind fun t468 => (saronlaw06_sound.j0 k t468 a0_0 a0_1 a0_2 l0_3)) else (saronlaw06_sound.j0 k false a0_0 a0_1 a0_2 l0_3)) else (saronlaw06_sound.j0 k false a0_0 a0_1 a0_2 l0_3))) else (saronlaw06_sound.j0 k false a0_0 a0_1 a0_2 l0_3))) else (saronlaw06_sound.j0 k false a0_0 a0_1 a0_2 l0_3))) else (saronlaw06_sound.j0 k false a0_0 a0_1 a0_2 l0_3))) = some r := h
 clear h
 have HC2 := zh H
 clear H
 go_enter Tryd.func39, Tryd.ntmps39
 go_upto_region 1 with (first | ((with_reducible refine gate_dst (N := 1) rfl ?_); (try (refine gate_guard (by rfl) ?_; dsimp only)); refine box_event ?hg (N := 1) ?hd (cs := #[.int .i64 a0_0, .int .i64 a0_1, .int .i64 a0_2, .slice A0_3 l0_3.length c0_3]) (t := 24) ?hr ?_; (case hd => rfl); (case hg => rfl); (case hr => first | (go_simp; done) | (go_simp; rfl)); intro gb463 hg w3 hbox hb; have n0_ := zh (below_step zb hb); have n1_ := zh (hbox); have n2_ := zh ((by rw [hg]; exact (below_size zb) : w.heap.size ≤ gb463)); have n3_ := zh ((by rw [hg]; exact (below_size zb) : w.heap.size ≤ gb463)); clear HB; have HB := n0_; have BK463 := n1_; have GW463 := n2_; have GE463 := n3_; clear n0_ n1_ n2_ n3_; clear hb hbox hg))
 (try simp only [Act.put, List.setIfInBounds_toArray, List.set_cons_zero, List.set_cons_succ])
 go_cut [3] (fun v3 wc => ∃ (kq : Nat) (x3_1 : Bool), v3 = .bool x3_1 ∧ Aside0 (saronlaw06_sound.j0 kq x3_1 a0_0 a0_1 a0_2 l0_3 = some r) ∧ Aside0 (kq ≤ k) ∧ Aside0 (wc.heap[gb463]? = some (.cells #[.int .i64 a0_0, .int .i64 a0_1, .int .i64 a0_2, (.slice A0_3 l0_3.length c0_3)] 24 (0, 0))) ∧ Aside0 (Below w.heap.size w wc))
 case first =>
  have H := HC2.out
  clear HC2
  replace H := Option.bind_eq_some_iff.mp H
  obtain ⟨t464, A40, H⟩ := H
  replace H : (if t464 = 0 then ((saronref00_Sits.f a0_0 2 7).bind fun t465 => (if t465 = true then ((saronref00_Sits.f a0_1 1 3).bind fun t466 => (if t466 = true then ((saronref00_Sits.f a0_2 2 16).bind fun t467 => (if t467 = true then (if (Int.tmod a0_2 2) = 0 then ((saronref00_Sits.f (l0_3.length : Int) 1 5).bind fun t468 => (saronlaw06_sound.j0 k t468 a0_0 a0_1 a0_2 l0_3)) else (saronlaw06_sound.j0 k false a0_0 a0_1 a0_2 l0_3)) else (saronlaw06_sound.j0 k false a0_0 a0_1 a0_2 l0_3))) else (saronlaw06_sound.j0 k false a0_0 a0_1 a0_2 l0_3))) else (saronlaw06_sound.j0 k false a0_0 a0_1 a0_2 l0_3))) else (saronlaw06_sound.j0 k false a0_0 a0_1 a0_2 l0_3)) = some r := H
  have A4 := zh A40
  clear A40
  by_cases c5 : t464 = 0
  ·rw [if_pos c5] at H
   have c5b0 : (t464 == 0) = true := beq_iff_eq.mpr c5
   have c5b1 : (t464 != 0) = false := bne_eq_false_iff_eq.mpr c5
   clear c5
   (first | rw [c5b0] | (simp only [i64_w, i32_w]; rw [c5b0]) | skip)
   replace H := Option.bind_eq_some_iff.mp H
   obtain ⟨t465, A60, H⟩ := H
   replace H : (if t465 = true then ((saronref00_Sits.f a0_1 1 3).bind fun t466 => (if t466 = true then ((saronref00_Sits.f a0_2 2 16).bind fun t467 => (if t467 = true then (if (Int.tmod a0_2 2) = 0 then ((saronref00_Sits.f (l0_3.length : Int) 1 5).bind fun t468 => (saronlaw06_sound.j0 k t468 a0_0 a0_1 a0_2 l0_3)) else (saronlaw06_sound.j0 k false a0_0 a0_1 a0_2 l0_3)) else (saronlaw06_sound.j0 k false a0_0 a0_1 a0_2 l0_3))) else (saronlaw06_sound.j0 k false a0_0 a0_1 a0_2 l0_3))) else (saronlaw06_sound.j0 k false a0_0 a0_1 a0_2 l0_3)) = some r := H
   have A6 := zh A60
   clear A60
   by_cases c7 : t465 = true
   ·subst c7
    have H1 : ((saronref00_Sits.f a0_1 1 3).bind fun t466 => (if t466 = true then ((saronref00_Sits.f a0_2 2 16).bind fun t467 => (if t467 = true then (if (Int.tmod a0_2 2) = 0 then ((saronref00_Sits.f (l0_3.length : Int) 1 5).bind fun t468 => (saronlaw06_sound.j0 k t468 a0_0 a0_1 a0_2 l0_3)) else (saronlaw06_sound.j0 k false a0_0 a0_1 a0_2 l0_3)) else (saronlaw06_sound.j0 k false a0_0 a0_1 a0_2 l0_3))) else (saronlaw06_sound.j0 k false a0_0 a0_1 a0_2 l0_3))) = some r := by rw [if_pos rfl] at H; exact H
    clear H
    have H := H1
    clear H1
    replace H := Option.bind_eq_some_iff.mp H
    obtain ⟨t466, A80, H⟩ := H
    replace H : (if t466 = true then ((saronref00_Sits.f a0_2 2 16).bind fun t467 => (if t467 = true then (if (Int.tmod a0_2 2) = 0 then ((saronref00_Sits.f (l0_3.length : Int) 1 5).bind fun t468 => (saronlaw06_sound.j0 k t468 a0_0 a0_1 a0_2 l0_3)) else (saronlaw06_sound.j0 k false a0_0 a0_1 a0_2 l0_3)) else (saronlaw06_sound.j0 k false a0_0 a0_1 a0_2 l0_3))) else (saronlaw06_sound.j0 k false a0_0 a0_1 a0_2 l0_3)) = some r := H
    have A8 := zh A80
    clear A80
    by_cases c9 : t466 = true
    ·subst c9
     have H1 : ((saronref00_Sits.f a0_2 2 16).bind fun t467 => (if t467 = true then (if (Int.tmod a0_2 2) = 0 then ((saronref00_Sits.f (l0_3.length : Int) 1 5).bind fun t468 => (saronlaw06_sound.j0 k t468 a0_0 a0_1 a0_2 l0_3)) else (saronlaw06_sound.j0 k false a0_0 a0_1 a0_2 l0_3)) else (saronlaw06_sound.j0 k false a0_0 a0_1 a0_2 l0_3))) = some r := by rw [if_pos rfl] at H; exact H
     clear H
     have H := H1
     clear H1
     replace H := Option.bind_eq_some_iff.mp H
     obtain ⟨t467, A100, H⟩ := H
     replace H : (if t467 = true then (if (Int.tmod a0_2 2) = 0 then ((saronref00_Sits.f (l0_3.length : Int) 1 5).bind fun t468 => (saronlaw06_sound.j0 k t468 a0_0 a0_1 a0_2 l0_3)) else (saronlaw06_sound.j0 k false a0_0 a0_1 a0_2 l0_3)) else (saronlaw06_sound.j0 k false a0_0 a0_1 a0_2 l0_3)) = some r := H
     have A10 := zh A100
     clear A100
     by_cases c11 : t467 = true
     ·subst c11
      have H1 : (if (Int.tmod a0_2 2) = 0 then ((saronref00_Sits.f (l0_3.length : Int) 1 5).bind fun t468 => (saronlaw06_sound.j0 k t468 a0_0 a0_1 a0_2 l0_3)) else (saronlaw06_sound.j0 k false a0_0 a0_1 a0_2 l0_3)) = some r := by rw [if_pos rfl] at H; exact H
      clear H
      have H := H1
      clear H1
      by_cases c12 : (Int.tmod a0_2 2) = 0
      ·rw [if_pos c12] at H
       have c12b0 : ((Int.tmod a0_2 2) == 0) = true := beq_iff_eq.mpr c12
       have c12b1 : ((Int.tmod a0_2 2) != 0) = false := bne_eq_false_iff_eq.mpr c12
       clear c12
       replace H := Option.bind_eq_some_iff.mp H
       obtain ⟨t468, A130, H⟩ := H
       replace H : (saronlaw06_sound.j0 k t468 a0_0 a0_1 a0_2 l0_3) = some r := H
       have A13 := zh A130
       clear A130
       have H' := zh H
       clear H
       have hcz14_0 : w3.cell? ⟨gb463, 0, none⟩ = some (.int .i64 a0_0) := vb BK463 0
       have hcz14_1 : w3.cell? ⟨gb463, 1, none⟩ = some (.int .i64 a0_1) := vb BK463 1
       have hcz14_2 : w3.cell? ⟨gb463, 2, none⟩ = some (.int .i64 a0_2) := vb BK463 2
       have hcz14_3 : w3.cell? ⟨gb463, 3, none⟩ = some (.slice A0_3 l0_3.length c0_3) := vb BK463 3
       have hfz14_0 := blk_frozen BK463.out 0
       have hfz14_1 := blk_frozen BK463.out 1
       have hfz14_2 := blk_frozen BK463.out 2
       have hfz14_3 := blk_frozen BK463.out 3
       go_wp2_with (first | ((with_reducible refine gate_callee (f := 19) rfl ?_); refine goesL_ (some 7) rfl rfl Tryd.func19 zk rfl #[.agg #[.int .i64 a0_0, .int .i64 a0_1, .int .i64 a0_2, .slice A0_3 l0_3.length c0_3]] rfl zm ?_; (with_reducible refine (kernel_Check.calls k a0_0 a0_1 a0_2 _ _ l0_3 t464 _ ?side1 ?side2 A4.out).mono ?_); (case side1 => repeat (first | exact (Kd.C_below HR0_3.out HB.out) | (with_reducible refine Kd.C_alloc ?_ _) | (with_reducible refine Kd.C_drewN ?_ _) | (with_reducible refine Kd.C_drew ?_))); (case side2 => exact HC0_3.out); rintro e w15 ⟨rfl, hb⟩; refine ⟨_, rfl, ?_⟩; have n0_ := zh (blk_below (g := gb463) (o := .cells #[.int .i64 a0_0, .int .i64 a0_1, .int .i64 a0_2, .slice A0_3 l0_3.length c0_3] 24 (0, 0)) (zc BK463) hb); have n1_ := zh (below_step zb hb); clear BK463; clear HB; have BK463 := n0_; have HB := n1_; clear n0_ n1_; (try clear hb); (try clear hb2); (try clear hk); (try clear hi); have hcz16_0 : w15.cell? ⟨gb463, 0, none⟩ = some (.int .i64 a0_0) := vb BK463 0; have hcz16_1 : w15.cell? ⟨gb463, 1, none⟩ = some (.int .i64 a0_1) := vb BK463 1; have hcz16_2 : w15.cell? ⟨gb463, 2, none⟩ = some (.int .i64 a0_2) := vb BK463 2; have hcz16_3 : w15.cell? ⟨gb463, 3, none⟩ = some (.slice A0_3 l0_3.length c0_3) := vb BK463 3; have hfz16_0 := blk_frozen BK463.out 0; have hfz16_1 := blk_frozen BK463.out 1; have hfz16_2 := blk_frozen BK463.out 2; have hfz16_3 := blk_frozen BK463.out 3) | (go_at_call 45; (with_reducible refine (saronref00_Sits.calls a0_0 2 7 true _ A6.out).mono ?_); rintro e w' ⟨rfl, ⟨nd, rfl⟩⟩) | (go_at_call 45; (with_reducible refine (saronref00_Sits.calls a0_1 1 3 true _ A8.out).mono ?_); rintro e w' ⟨rfl, ⟨nd, rfl⟩⟩) | (go_at_call 45; (with_reducible refine (saronref00_Sits.calls a0_2 2 16 true _ A10.out).mono ?_); rintro e w' ⟨rfl, ⟨nd, rfl⟩⟩) | (go_at_call 45; (with_reducible refine (saronref00_Sits.calls (l0_3.length : Int) 1 5 t468 _ A13.out).mono ?_); rintro e w' ⟨rfl, ⟨nd, rfl⟩⟩))
       go_meet
       case rel => exact ⟨_, (t468), ze, H', ⟨zo1⟩, ⟨zc BK463⟩, ⟨zb⟩⟩
      ·rw [if_neg c12] at H
       have c12b0 : ((Int.tmod a0_2 2) == 0) = false := beq_eq_false_iff_ne.mpr c12
       have c12b1 : ((Int.tmod a0_2 2) != 0) = true := bne_iff_ne.mpr c12
       have H' := zh H
       clear H
       have hcz17_0 : w3.cell? ⟨gb463, 0, none⟩ = some (.int .i64 a0_0) := vb BK463 0
       have hcz17_1 : w3.cell? ⟨gb463, 1, none⟩ = some (.int .i64 a0_1) := vb BK463 1
       have hcz17_2 : w3.cell? ⟨gb463, 2, none⟩ = some (.int .i64 a0_2) := vb BK463 2
       have hcz17_3 : w3.cell? ⟨gb463, 3, none⟩ = some (.slice A0_3 l0_3.length c0_3) := vb BK463 3
       have hfz17_0 := blk_frozen BK463.out 0
       have hfz17_1 := blk_frozen BK463.out 1
       have hfz17_2 := blk_frozen BK463.out 2
       have hfz17_3 := blk_frozen BK463.out 3
       go_wp2_with (first | ((with_reducible refine gate_callee (f := 19) rfl ?_); refine goesL_ (some 7) rfl rfl Tryd.func19 zk rfl #[.agg #[.int .i64 a0_0, .int .i64 a0_1, .int .i64 a0_2, .slice A0_3 l0_3.length c0_3]] rfl zm ?_; (with_reducible refine (kernel_Check.calls k a0_0 a0_1 a0_2 _ _ l0_3 t464 _ ?side1 ?side2 A4.out).mono ?_); (case side1 => repeat (first | exact (Kd.C_below HR0_3.out HB.out) | (with_reducible refine Kd.C_alloc ?_ _) | (with_reducible refine Kd.C_drewN ?_ _) | (with_reducible refine Kd.C_drew ?_))); (case side2 => exact HC0_3.out); rintro e w18 ⟨rfl, hb⟩; refine ⟨_, rfl, ?_⟩; have n0_ := zh (blk_below (g := gb463) (o := .cells #[.int .i64 a0_0, .int .i64 a0_1, .int .i64 a0_2, .slice A0_3 l0_3.length c0_3] 24 (0, 0)) (zc BK463) hb); have n1_ := zh (below_step zb hb); clear BK463; clear HB; have BK463 := n0_; have HB := n1_; clear n0_ n1_; (try clear hb); (try clear hb2); (try clear hk); (try clear hi); have hcz19_0 : w18.cell? ⟨gb463, 0, none⟩ = some (.int .i64 a0_0) := vb BK463 0; have hcz19_1 : w18.cell? ⟨gb463, 1, none⟩ = some (.int .i64 a0_1) := vb BK463 1; have hcz19_2 : w18.cell? ⟨gb463, 2, none⟩ = some (.int .i64 a0_2) := vb BK463 2; have hcz19_3 : w18.cell? ⟨gb463, 3, none⟩ = some (.slice A0_3 l0_3.length c0_3) := vb BK463 3; have hfz19_0 := blk_frozen BK463.out 0; have hfz19_1 := blk_frozen BK463.out 1; have hfz19_2 := blk_frozen BK463.out 2; have hfz19_3 := blk_frozen BK463.out 3) | (go_at_call 45; (with_reducible refine (saronref00_Sits.calls a0_0 2 7 true _ A6.out).mono ?_); rintro e w' ⟨rfl, ⟨nd, rfl⟩⟩) | (go_at_call 45; (with_reducible refine (saronref00_Sits.calls a0_1 1 3 true _ A8.out).mono ?_); rintro e w' ⟨rfl, ⟨nd, rfl⟩⟩) | (go_at_call 45; (with_reducible refine (saronref00_Sits.calls a0_2 2 16 true _ A10.out).mono ?_); rintro e w' ⟨rfl, ⟨nd, rfl⟩⟩))
       go_meet
       case rel => exact ⟨_, (false), ze, H', ⟨zo1⟩, ⟨zc BK463⟩, ⟨zb⟩⟩
     ·replace c11 := Bool.eq_false_iff.mpr c11
      subst c11
      have H1 : (saronlaw06_sound.j0 k false a0_0 a0_1 a0_2 l0_3) = some r := by rw [if_neg (show ¬ (false = true) by decide)] at H; exact H
      clear H
      have H := H1
      clear H1
      have H' := zh H
      clear H
      have hcz20_0 : w3.cell? ⟨gb463, 0, none⟩ = some (.int .i64 a0_0) := vb BK463 0
      have hcz20_1 : w3.cell? ⟨gb463, 1, none⟩ = some (.int .i64 a0_1) := vb BK463 1
      have hcz20_2 : w3.cell? ⟨gb463, 2, none⟩ = some (.int .i64 a0_2) := vb BK463 2
      have hcz20_3 : w3.cell? ⟨gb463, 3, none⟩ = some (.slice A0_3 l0_3.length c0_3) := vb BK463 3
      have hfz20_0 := blk_frozen BK463.out 0
      have hfz20_1 := blk_frozen BK463.out 1
      have hfz20_2 := blk_frozen BK463.out 2
      have hfz20_3 := blk_frozen BK463.out 3
      go_wp2_with (first | ((with_reducible refine gate_callee (f := 19) rfl ?_); refine goesL_ (some 7) rfl rfl Tryd.func19 zk rfl #[.agg #[.int .i64 a0_0, .int .i64 a0_1, .int .i64 a0_2, .slice A0_3 l0_3.length c0_3]] rfl zm ?_; (with_reducible refine (kernel_Check.calls k a0_0 a0_1 a0_2 _ _ l0_3 t464 _ ?side1 ?side2 A4.out).mono ?_); (case side1 => repeat (first | exact (Kd.C_below HR0_3.out HB.out) | (with_reducible refine Kd.C_alloc ?_ _) | (with_reducible refine Kd.C_drewN ?_ _) | (with_reducible refine Kd.C_drew ?_))); (case side2 => exact HC0_3.out); rintro e w21 ⟨rfl, hb⟩; refine ⟨_, rfl, ?_⟩; have n0_ := zh (blk_below (g := gb463) (o := .cells #[.int .i64 a0_0, .int .i64 a0_1, .int .i64 a0_2, .slice A0_3 l0_3.length c0_3] 24 (0, 0)) (zc BK463) hb); have n1_ := zh (below_step zb hb); clear BK463; clear HB; have BK463 := n0_; have HB := n1_; clear n0_ n1_; (try clear hb); (try clear hb2); (try clear hk); (try clear hi); have hcz22_0 : w21.cell? ⟨gb463, 0, none⟩ = some (.int .i64 a0_0) := vb BK463 0; have hcz22_1 : w21.cell? ⟨gb463, 1, none⟩ = some (.int .i64 a0_1) := vb BK463 1; have hcz22_2 : w21.cell? ⟨gb463, 2, none⟩ = some (.int .i64 a0_2) := vb BK463 2; have hcz22_3 : w21.cell? ⟨gb463, 3, none⟩ = some (.slice A0_3 l0_3.length c0_3) := vb BK463 3; have hfz22_0 := blk_frozen BK463.out 0; have hfz22_1 := blk_frozen BK463.out 1; have hfz22_2 := blk_frozen BK463.out 2; have hfz22_3 := blk_frozen BK463.out 3) | (go_at_call 45; (with_reducible refine (saronref00_Sits.calls a0_0 2 7 true _ A6.out).mono ?_); rintro e w' ⟨rfl, ⟨nd, rfl⟩⟩) | (go_at_call 45; (with_reducible refine (saronref00_Sits.calls a0_1 1 3 true _ A8.out).mono ?_); rintro e w' ⟨rfl, ⟨nd, rfl⟩⟩) | (go_at_call 45; (with_reducible refine (saronref00_Sits.calls a0_2 2 16 false _ A10.out).mono ?_); rintro e w' ⟨rfl, ⟨nd, rfl⟩⟩))
      go_meet
      case rel => exact ⟨_, (false), ze, H', ⟨zo1⟩, ⟨zc BK463⟩, ⟨zb⟩⟩
    ·replace c9 := Bool.eq_false_iff.mpr c9
     subst c9
     have H1 : (saronlaw06_sound.j0 k false a0_0 a0_1 a0_2 l0_3) = some r := by rw [if_neg (show ¬ (false = true) by decide)] at H; exact H
     clear H
     have H := H1
     clear H1
     have H' := zh H
     clear H
     have hcz23_0 : w3.cell? ⟨gb463, 0, none⟩ = some (.int .i64 a0_0) := vb BK463 0
     have hcz23_1 : w3.cell? ⟨gb463, 1, none⟩ = some (.int .i64 a0_1) := vb BK463 1
     have hcz23_2 : w3.cell? ⟨gb463, 2, none⟩ = some (.int .i64 a0_2) := vb BK463 2
     have hcz23_3 : w3.cell? ⟨gb463, 3, none⟩ = some (.slice A0_3 l0_3.length c0_3) := vb BK463 3
     have hfz23_0 := blk_frozen BK463.out 0
     have hfz23_1 := blk_frozen BK463.out 1
     have hfz23_2 := blk_frozen BK463.out 2
     have hfz23_3 := blk_frozen BK463.out 3
     go_wp2_with (first | ((with_reducible refine gate_callee (f := 19) rfl ?_); refine goesL_ (some 7) rfl rfl Tryd.func19 zk rfl #[.agg #[.int .i64 a0_0, .int .i64 a0_1, .int .i64 a0_2, .slice A0_3 l0_3.length c0_3]] rfl zm ?_; (with_reducible refine (kernel_Check.calls k a0_0 a0_1 a0_2 _ _ l0_3 t464 _ ?side1 ?side2 A4.out).mono ?_); (case side1 => repeat (first | exact (Kd.C_below HR0_3.out HB.out) | (with_reducible refine Kd.C_alloc ?_ _) | (with_reducible refine Kd.C_drewN ?_ _) | (with_reducible refine Kd.C_drew ?_))); (case side2 => exact HC0_3.out); rintro e w24 ⟨rfl, hb⟩; refine ⟨_, rfl, ?_⟩; have n0_ := zh (blk_below (g := gb463) (o := .cells #[.int .i64 a0_0, .int .i64 a0_1, .int .i64 a0_2, .slice A0_3 l0_3.length c0_3] 24 (0, 0)) (zc BK463) hb); have n1_ := zh (below_step zb hb); clear BK463; clear HB; have BK463 := n0_; have HB := n1_; clear n0_ n1_; (try clear hb); (try clear hb2); (try clear hk); (try clear hi); have hcz25_0 : w24.cell? ⟨gb463, 0, none⟩ = some (.int .i64 a0_0) := vb BK463 0; have hcz25_1 : w24.cell? ⟨gb463, 1, none⟩ = some (.int .i64 a0_1) := vb BK463 1; have hcz25_2 : w24.cell? ⟨gb463, 2, none⟩ = some (.int .i64 a0_2) := vb BK463 2; have hcz25_3 : w24.cell? ⟨gb463, 3, none⟩ = some (.slice A0_3 l0_3.length c0_3) := vb BK463 3; have hfz25_0 := blk_frozen BK463.out 0; have hfz25_1 := blk_frozen BK463.out 1; have hfz25_2 := blk_frozen BK463.out 2; have hfz25_3 := blk_frozen BK463.out 3) | (go_at_call 45; (with_reducible refine (saronref00_Sits.calls a0_0 2 7 true _ A6.out).mono ?_); rintro e w' ⟨rfl, ⟨nd, rfl⟩⟩) | (go_at_call 45; (with_reducible refine (saronref00_Sits.calls a0_1 1 3 false _ A8.out).mono ?_); rintro e w' ⟨rfl, ⟨nd, rfl⟩⟩))
     go_meet
     case rel => exact ⟨_, (false), ze, H', ⟨zo1⟩, ⟨zc BK463⟩, ⟨zb⟩⟩
   ·replace c7 := Bool.eq_false_iff.mpr c7
    subst c7
    have H1 : (saronlaw06_sound.j0 k false a0_0 a0_1 a0_2 l0_3) = some r := by rw [if_neg (show ¬ (false = true) by decide)] at H; exact H
    clear H
    have H := H1
    clear H1
    have H' := zh H
    clear H
    have hcz26_0 : w3.cell? ⟨gb463, 0, none⟩ = some (.int .i64 a0_0) := vb BK463 0
    have hcz26_1 : w3.cell? ⟨gb463, 1, none⟩ = some (.int .i64 a0_1) := vb BK463 1
    have hcz26_2 : w3.cell? ⟨gb463, 2, none⟩ = some (.int .i64 a0_2) := vb BK463 2
    have hcz26_3 : w3.cell? ⟨gb463, 3, none⟩ = some (.slice A0_3 l0_3.length c0_3) := vb BK463 3
    have hfz26_0 := blk_frozen BK463.out 0
    have hfz26_1 := blk_frozen BK463.out 1
    have hfz26_2 := blk_frozen BK463.out 2
    have hfz26_3 := blk_frozen BK463.out 3
    go_wp2_with (first | ((with_reducible refine gate_callee (f := 19) rfl ?_); refine goesL_ (some 7) rfl rfl Tryd.func19 zk rfl #[.agg #[.int .i64 a0_0, .int .i64 a0_1, .int .i64 a0_2, .slice A0_3 l0_3.length c0_3]] rfl zm ?_; (with_reducible refine (kernel_Check.calls k a0_0 a0_1 a0_2 _ _ l0_3 t464 _ ?side1 ?side2 A4.out).mono ?_); (case side1 => repeat (first | exact (Kd.C_below HR0_3.out HB.out) | (with_reducible refine Kd.C_alloc ?_ _) | (with_reducible refine Kd.C_drewN ?_ _) | (with_reducible refine Kd.C_drew ?_))); (case side2 => exact HC0_3.out); rintro e w27 ⟨rfl, hb⟩; refine ⟨_, rfl, ?_⟩; have n0_ := zh (blk_below (g := gb463) (o := .cells #[.int .i64 a0_0, .int .i64 a0_1, .int .i64 a0_2, .slice A0_3 l0_3.length c0_3] 24 (0, 0)) (zc BK463) hb); have n1_ := zh (below_step zb hb); clear BK463; clear HB; have BK463 := n0_; have HB := n1_; clear n0_ n1_; (try clear hb); (try clear hb2); (try clear hk); (try clear hi); have hcz28_0 : w27.cell? ⟨gb463, 0, none⟩ = some (.int .i64 a0_0) := vb BK463 0; have hcz28_1 : w27.cell? ⟨gb463, 1, none⟩ = some (.int .i64 a0_1) := vb BK463 1; have hcz28_2 : w27.cell? ⟨gb463, 2, none⟩ = some (.int .i64 a0_2) := vb BK463 2; have hcz28_3 : w27.cell? ⟨gb463, 3, none⟩ = some (.slice A0_3 l0_3.length c0_3) := vb BK463 3; have hfz28_0 := blk_frozen BK463.out 0; have hfz28_1 := blk_frozen BK463.out 1; have hfz28_2 := blk_frozen BK463.out 2; have hfz28_3 := blk_frozen BK463.out 3) | (go_at_call 45; (with_reducible refine (saronref00_Sits.calls a0_0 2 7 false _ A6.out).mono ?_); rintro e w' ⟨rfl, ⟨nd, rfl⟩⟩))
    go_meet
    case rel => exact ⟨_, (false), ze, H', ⟨zo1⟩, ⟨zc BK463⟩, ⟨zb⟩⟩
  ·rw [if_neg c5] at H
   have c5b0 : (t464 == 0) = false := beq_eq_false_iff_ne.mpr c5
   have c5b1 : (t464 != 0) = true := bne_iff_ne.mpr c5
   (first | rw [c5b0] | (simp only [i64_w, i32_w]; rw [c5b0]) | skip)
   have H' := zh H
   clear H
   have hcz29_0 : w3.cell? ⟨gb463, 0, none⟩ = some (.int .i64 a0_0) := vb BK463 0
   have hcz29_1 : w3.cell? ⟨gb463, 1, none⟩ = some (.int .i64 a0_1) := vb BK463 1
   have hcz29_2 : w3.cell? ⟨gb463, 2, none⟩ = some (.int .i64 a0_2) := vb BK463 2
   have hcz29_3 : w3.cell? ⟨gb463, 3, none⟩ = some (.slice A0_3 l0_3.length c0_3) := vb BK463 3
   have hfz29_0 := blk_frozen BK463.out 0
   have hfz29_1 := blk_frozen BK463.out 1
   have hfz29_2 := blk_frozen BK463.out 2
   have hfz29_3 := blk_frozen BK463.out 3
   go_wp2_with (first | ((with_reducible refine gate_callee (f := 19) rfl ?_); refine goesL_ (some 7) rfl rfl Tryd.func19 zk rfl #[.agg #[.int .i64 a0_0, .int .i64 a0_1, .int .i64 a0_2, .slice A0_3 l0_3.length c0_3]] rfl zm ?_; (with_reducible refine (kernel_Check.calls k a0_0 a0_1 a0_2 _ _ l0_3 t464 _ ?side1 ?side2 A4.out).mono ?_); (case side1 => repeat (first | exact (Kd.C_below HR0_3.out HB.out) | (with_reducible refine Kd.C_alloc ?_ _) | (with_reducible refine Kd.C_drewN ?_ _) | (with_reducible refine Kd.C_drew ?_))); (case side2 => exact HC0_3.out); rintro e w30 ⟨rfl, hb⟩; refine ⟨_, rfl, ?_⟩; have n0_ := zh (blk_below (g := gb463) (o := .cells #[.int .i64 a0_0, .int .i64 a0_1, .int .i64 a0_2, .slice A0_3 l0_3.length c0_3] 24 (0, 0)) (zc BK463) hb); have n1_ := zh (below_step zb hb); clear BK463; clear HB; have BK463 := n0_; have HB := n1_; clear n0_ n1_; (try clear hb); (try clear hb2); (try clear hk); (try clear hi)))
   go_meet
   case rel => exact ⟨_, (false), ze, H', ⟨zo1⟩, ⟨zc BK463⟩, ⟨zb⟩⟩
 case rest =>
  clear HC2
  try clear c1
  try clear p2
  try clear c3
  try clear c5
  try clear c5b0
  try clear c5b1
  try clear c7
  try clear c9
  try clear c11
  try clear c12
  try clear c12b0
  try clear c12b1
  try clear c19
  try clear hcz14_0
  try clear hcz14_1
  try clear hcz14_2
  try clear hcz14_3
  try clear hcz16_0
  try clear hcz16_1
  try clear hcz16_2
  try clear hcz16_3
  try clear hcz17_0
  try clear hcz17_1
  try clear hcz17_2
  try clear hcz17_3
  try clear hcz19_0
  try clear hcz19_1
  try clear hcz19_2
  try clear hcz19_3
  try clear hcz20_0
  try clear hcz20_1
  try clear hcz20_2
  try clear hcz20_3
  try clear hcz22_0
  try clear hcz22_1
  try clear hcz22_2
  try clear hcz22_3
  try clear hcz23_0
  try clear hcz23_1
  try clear hcz23_2
  try clear hcz23_3
  try clear hcz25_0
  try clear hcz25_1
  try clear hcz25_2
  try clear hcz25_3
  try clear hcz26_0
  try clear hcz26_1
  try clear hcz26_2
  try clear hcz26_3
  try clear hcz28_0
  try clear hcz28_1
  try clear hcz28_2
  try clear hcz28_3
  try clear hcz29_0
  try clear hcz29_1
  try clear hcz29_2
  try clear hcz29_3
  try clear hfz14_0
  try clear hfz14_1
  try clear hfz14_2
  try clear hfz14_3
  try clear hfz16_0
  try clear hfz16_1
  try clear hfz16_2
  try clear hfz16_3
  try clear hfz17_0
  try clear hfz17_1
  try clear hfz17_2
  try clear hfz17_3
  try clear hfz19_0
  try clear hfz19_1
  try clear hfz19_2
  try clear hfz19_3
  try clear hfz20_0
  try clear hfz20_1
  try clear hfz20_2
  try clear hfz20_3
  try clear hfz22_0
  try clear hfz22_1
  try clear hfz22_2
  try clear hfz22_3
  try clear hfz23_0
  try clear hfz23_1
  try clear hfz23_2
  try clear hfz23_3
  try clear hfz25_0
  try clear hfz25_1
  try clear hfz25_2
  try clear hfz25_3
  try clear hfz26_0
  try clear hfz26_1
  try clear hfz26_2
  try clear hfz26_3
  try clear hfz28_0
  try clear hfz28_1
  try clear hfz28_2
  try clear hfz28_3
  try clear hfz29_0
  try clear hfz29_1
  try clear hfz29_2
  try clear hfz29_3
  obtain ⟨kq, x3_1, rfl, HA, HJ1, BK463, HB⟩ := hcut
  cases kq with
  | zero => exact absurd HA.out (by simp [saronlaw06_sound.j0])
  | succ kj1 =>
   have H := HA.out
   clear HA
   simp only [saronlaw06_sound.j0] at H
   have H' := zh H
   clear H
   go_wp2
   go_loopg [3, 4] kj1 (fun kq v3 v4 w' => ∃ (x3_2 : Bool) (x4_2 : Int), v3 = .bool x3_2 ∧ v4 = .int .i64 x4_2 ∧ Aside0 (saronlaw06_sound.l0 kq x3_2 x4_2 a0_0 a0_1 a0_2 l0_3 = some r) ∧ Aside0 (kq ≤ kj1) ∧ Aside0 (w'.heap[gb463]? = some (.cells #[.int .i64 a0_0, .int .i64 a0_1, .int .i64 a0_2, (.slice A0_3 l0_3.length c0_3)] 24 (0, 0))) ∧ Aside0 (Below w.heap.size w w'))
   case atStart => exact ⟨(x3_1), (0), ze, ze, H', ⟨Nat.le_refl _⟩, ⟨zc BK463⟩, ⟨zb⟩⟩
   case round =>
    clear H'
    try clear c1
    try clear p2
    try clear c3
    try clear c5
    try clear c5b0
    try clear c5b1
    try clear c7
    try clear c9
    try clear c11
    try clear c12
    try clear c12b0
    try clear c12b1
    try clear c19
    try clear hcz14_0
    try clear hcz14_1
    try clear hcz14_2
    try clear hcz14_3
    try clear hcz16_0
    try clear hcz16_1
    try clear hcz16_2
    try clear hcz16_3
    try clear hcz17_0
    try clear hcz17_1
    try clear hcz17_2
    try clear hcz17_3
    try clear hcz19_0
    try clear hcz19_1
    try clear hcz19_2
    try clear hcz19_3
    try clear hcz20_0
    try clear hcz20_1
    try clear hcz20_2
    try clear hcz20_3
    try clear hcz22_0
    try clear hcz22_1
    try clear hcz22_2
    try clear hcz22_3
    try clear hcz23_0
    try clear hcz23_1
    try clear hcz23_2
    try clear hcz23_3
    try clear hcz25_0
    try clear hcz25_1
    try clear hcz25_2
    try clear hcz25_3
    try clear hcz26_0
    try clear hcz26_1
    try clear hcz26_2
    try clear hcz26_3
    try clear hcz28_0
    try clear hcz28_1
    try clear hcz28_2
    try clear hcz28_3
    try clear hcz29_0
    try clear hcz29_1
    try clear hcz29_2
    try clear hcz29_3
    try clear hfz14_0
    try clear hfz14_1
    try clear hfz14_2
    try clear hfz14_3
    try clear hfz16_0
    try clear hfz16_1
    try clear hfz16_2
    try clear hfz16_3
    try clear hfz17_0
    try clear hfz17_1
    try clear hfz17_2
    try clear hfz17_3
    try clear hfz19_0
    try clear hfz19_1
    try clear hfz19_2
    try clear hfz19_3
    try clear hfz20_0
    try clear hfz20_1
    try clear hfz20_2
    try clear hfz20_3
    try clear hfz22_0
    try clear hfz22_1
    try clear hfz22_2
    try clear hfz22_3
    try clear hfz23_0
    try clear hfz23_1
    try clear hfz23_2
    try clear hfz23_3
    try clear hfz25_0
    try clear hfz25_1
    try clear hfz25_2
    try clear hfz25_3
    try clear hfz26_0
    try clear hfz26_1
    try clear hfz26_2
    try clear hfz26_3
    try clear hfz28_0
    try clear hfz28_1
    try clear hfz28_2
    try clear hfz28_3
    try clear hfz29_0
    try clear hfz29_1
    try clear hfz29_2
    try clear hfz29_3
    try clear p2
    obtain ⟨x3_2, x4_2, rfl, rfl, HA, HK2, BK463, HB⟩ := hrel
    cases gk with
    | zero => exact absurd HA.out (by simp [saronlaw06_sound.l0])
    | succ k2 =>
     have H := HA.out
     clear HA
     simp only [saronlaw06_sound.l0] at H
     have HC31 := zh H
     clear H
     go_upto_region 3 with (fail)
     go_cut [43] (fun v43 wc => ∃ (kq : Nat) (x43_30 : Bool), v43 = .bool x43_30 ∧ Aside0 (saronlaw06_sound.j2 kq x3_2 x4_2 x43_30 a0_0 a0_1 a0_2 l0_3 = some r) ∧ Aside0 (kq ≤ k2) ∧ Aside0 (wc.heap[gb463]? = some (.cells #[.int .i64 a0_0, .int .i64 a0_1, .int .i64 a0_2, (.slice A0_3 l0_3.length c0_3)] 24 (0, 0))) ∧ Aside0 (Below w.heap.size w wc))
     case first =>
      have H := HC31.out
      clear HC31
      by_cases c32 : x3_2 = true
      ·subst c32
       have H1 : (saronlaw06_sound.j2 k2 true x4_2 (decide (x4_2 < (l0_3.length : Int))) a0_0 a0_1 a0_2 l0_3) = some r := by rw [if_pos rfl] at H; exact H
       clear H
       have H := H1
       clear H1
       have H' := zh H
       clear H
       have hcz33_0 : wr.cell? ⟨gb463, 0, none⟩ = some (.int .i64 a0_0) := vb BK463 0
       have hcz33_1 : wr.cell? ⟨gb463, 1, none⟩ = some (.int .i64 a0_1) := vb BK463 1
       have hcz33_2 : wr.cell? ⟨gb463, 2, none⟩ = some (.int .i64 a0_2) := vb BK463 2
       have hcz33_3 : wr.cell? ⟨gb463, 3, none⟩ = some (.slice A0_3 l0_3.length c0_3) := vb BK463 3
       have hfz33_0 := blk_frozen BK463.out 0
       have hfz33_1 := blk_frozen BK463.out 1
       have hfz33_2 := blk_frozen BK463.out 2
       have hfz33_3 := blk_frozen BK463.out 3
       go_wp2
       go_meet
       case rel => exact ⟨_, (decide (x4_2 < (l0_3.length : Int))), ze, H', ⟨by have := HJ1.out; have := HK2.out; first | omega | exact Nat.le_refl _⟩, ⟨zc BK463⟩, ⟨zb⟩⟩
      ·replace c32 := Bool.eq_false_iff.mpr c32
       subst c32
       have H1 : (saronlaw06_sound.j2 k2 false x4_2 false a0_0 a0_1 a0_2 l0_3) = some r := by rw [if_neg (show ¬ (false = true) by decide)] at H; exact H
       clear H
       have H := H1
       clear H1
       have H' := zh H
       clear H
       go_wp2
       go_meet
       case rel => exact ⟨_, (false), ze, H', ⟨by have := HJ1.out; have := HK2.out; first | omega | exact Nat.le_refl _⟩, ⟨zc BK463⟩, ⟨zb⟩⟩
     case rest =>
      clear HC31
      try clear c1
      try clear p2
      try clear c3
      try clear c5
      try clear c5b0
      try clear c5b1
      try clear c7
      try clear c9
      try clear c11
      try clear c12
      try clear c12b0
      try clear c12b1
      try clear c19
      try clear c32
      try clear hcz14_0
      try clear hcz14_1
      try clear hcz14_2
      try clear hcz14_3
      try clear hcz16_0
      try clear hcz16_1
      try clear hcz16_2
      try clear hcz16_3
      try clear hcz17_0
      try clear hcz17_1
      try clear hcz17_2
      try clear hcz17_3
      try clear hcz19_0
      try clear hcz19_1
      try clear hcz19_2
      try clear hcz19_3
      try clear hcz20_0
      try clear hcz20_1
      try clear hcz20_2
      try clear hcz20_3
      try clear hcz22_0
      try clear hcz22_1
      try clear hcz22_2
      try clear hcz22_3
      try clear hcz23_0
      try clear hcz23_1
      try clear hcz23_2
      try clear hcz23_3
      try clear hcz25_0
      try clear hcz25_1
      try clear hcz25_2
      try clear hcz25_3
      try clear hcz26_0
      try clear hcz26_1
      try clear hcz26_2
      try clear hcz26_3
      try clear hcz28_0
      try clear hcz28_1
      try clear hcz28_2
      try clear hcz28_3
      try clear hcz29_0
      try clear hcz29_1
      try clear hcz29_2
      try clear hcz29_3
      try clear hcz33_0
      try clear hcz33_1
      try clear hcz33_2
      try clear hcz33_3
      try clear hfz14_0
      try clear hfz14_1
      try clear hfz14_2
      try clear hfz14_3
      try clear hfz16_0
      try clear hfz16_1
      try clear hfz16_2
      try clear hfz16_3
      try clear hfz17_0
      try clear hfz17_1
      try clear hfz17_2
      try clear hfz17_3
      try clear hfz19_0
      try clear hfz19_1
      try clear hfz19_2
      try clear hfz19_3
      try clear hfz20_0
      try clear hfz20_1
      try clear hfz20_2
      try clear hfz20_3
      try clear hfz22_0
      try clear hfz22_1
      try clear hfz22_2
      try clear hfz22_3
      try clear hfz23_0
      try clear hfz23_1
      try clear hfz23_2
      try clear hfz23_3
      try clear hfz25_0
      try clear hfz25_1
      try clear hfz25_2
      try clear hfz25_3
      try clear hfz26_0
      try clear hfz26_1
      try clear hfz26_2
      try clear hfz26_3
      try clear hfz28_0
      try clear hfz28_1
      try clear hfz28_2
      try clear hfz28_3
      try clear hfz29_0
      try clear hfz29_1
      try clear hfz29_2
      try clear hfz29_3
      try clear hfz33_0
      try clear hfz33_1
      try clear hfz33_2
      try clear hfz33_3
      try clear p2
      obtain ⟨kq, x43_30, rfl, HA, HJ30, BK463, HB⟩ := hcut
      cases kq with
      | zero => exact absurd HA.out (by simp [saronlaw06_sound.j2])
      | succ kj30 =>
       have H := HA.out
       clear HA
       simp only [saronlaw06_sound.j2] at H
       by_cases c34 : x43_30 = true
       ·subst c34
        have H1 : (if 0 ≤ x4_2 then (if x4_2 < (l0_3.length : Int) then ((saronref00_Sits.f ((rd_T66 l0_3 x4_2).f0) 0 4).bind fun t471 => (if t471 = true then ((saronref00_Band.f ((rd_T66 l0_3 x4_2).f1) ((rd_T66 l0_3 x4_2).f2)).bind fun bt472 => ((saronref00_Good.f bt472.1 bt472.2 0 (wrap64 ((wrap64 (a0_0 * a0_1)) - 1))).bind fun t474 => (if t474 = true then ((saronref00_Sits.f ((rd_T66 l0_3 x4_2).f3) (-6) 6).bind fun t475 => (saronlaw06_sound.l0 kj30 t475 (wrap64 (x4_2 + 1)) a0_0 a0_1 a0_2 l0_3)) else (saronlaw06_sound.l0 kj30 false (wrap64 (x4_2 + 1)) a0_0 a0_1 a0_2 l0_3)))) else (saronlaw06_sound.l0 kj30 false (wrap64 (x4_2 + 1)) a0_0 a0_1 a0_2 l0_3))) else (none)) else (none)) = some r := by rw [if_pos rfl] at H; exact H
        clear H
        have H := H1
        clear H1
        by_cases c35 : 0 ≤ x4_2
        ·rw [if_pos c35] at H
         have c35b0 : decide (0 ≤ x4_2) = true := decide_eq_true c35
         clear c35
         by_cases c36 : x4_2 < (l0_3.length : Int)
         ·rw [if_pos c36] at H
          have c36b0 : decide (x4_2 < (l0_3.length : Int)) = true := decide_eq_true c36
          clear c36
          replace H := Option.bind_eq_some_iff.mp H
          obtain ⟨t471, A370, H⟩ := H
          replace H : (if t471 = true then ((saronref00_Band.f ((rd_T66 l0_3 x4_2).f1) ((rd_T66 l0_3 x4_2).f2)).bind fun bt472 => ((saronref00_Good.f bt472.1 bt472.2 0 (wrap64 ((wrap64 (a0_0 * a0_1)) - 1))).bind fun t474 => (if t474 = true then ((saronref00_Sits.f ((rd_T66 l0_3 x4_2).f3) (-6) 6).bind fun t475 => (saronlaw06_sound.l0 kj30 t475 (wrap64 (x4_2 + 1)) a0_0 a0_1 a0_2 l0_3)) else (saronlaw06_sound.l0 kj30 false (wrap64 (x4_2 + 1)) a0_0 a0_1 a0_2 l0_3)))) else (saronlaw06_sound.l0 kj30 false (wrap64 (x4_2 + 1)) a0_0 a0_1 a0_2 l0_3)) = some r := H
          have A37 := zh A370
          clear A370
          by_cases c38 : t471 = true
          ·subst c38
           have H1 : ((saronref00_Band.f ((rd_T66 l0_3 x4_2).f1) ((rd_T66 l0_3 x4_2).f2)).bind fun bt472 => ((saronref00_Good.f bt472.1 bt472.2 0 (wrap64 ((wrap64 (a0_0 * a0_1)) - 1))).bind fun t474 => (if t474 = true then ((saronref00_Sits.f ((rd_T66 l0_3 x4_2).f3) (-6) 6).bind fun t475 => (saronlaw06_sound.l0 kj30 t475 (wrap64 (x4_2 + 1)) a0_0 a0_1 a0_2 l0_3)) else (saronlaw06_sound.l0 kj30 false (wrap64 (x4_2 + 1)) a0_0 a0_1 a0_2 l0_3)))) = some r := by rw [if_pos rfl] at H; exact H
           clear H
           have H := H1
           clear H1
           replace H := Option.bind_eq_some_iff.mp H
           obtain ⟨⟨t472, t473⟩, A390, H⟩ := H
           replace H : ((saronref00_Good.f t472 t473 0 (wrap64 ((wrap64 (a0_0 * a0_1)) - 1))).bind fun t474 => (if t474 = true then ((saronref00_Sits.f ((rd_T66 l0_3 x4_2).f3) (-6) 6).bind fun t475 => (saronlaw06_sound.l0 kj30 t475 (wrap64 (x4_2 + 1)) a0_0 a0_1 a0_2 l0_3)) else (saronlaw06_sound.l0 kj30 false (wrap64 (x4_2 + 1)) a0_0 a0_1 a0_2 l0_3))) = some r := H
           have A39 := zh A390
           clear A390
           replace H := Option.bind_eq_some_iff.mp H
           obtain ⟨t474, A400, H⟩ := H
           replace H : (if t474 = true then ((saronref00_Sits.f ((rd_T66 l0_3 x4_2).f3) (-6) 6).bind fun t475 => (saronlaw06_sound.l0 kj30 t475 (wrap64 (x4_2 + 1)) a0_0 a0_1 a0_2 l0_3)) else (saronlaw06_sound.l0 kj30 false (wrap64 (x4_2 + 1)) a0_0 a0_1 a0_2 l0_3)) = some r := H
           have A40 := zh A400
           clear A400
           by_cases c41 : t474 = true
           ·subst c41
            have H1 : ((saronref00_Sits.f ((rd_T66 l0_3 x4_2).f3) (-6) 6).bind fun t475 => (saronlaw06_sound.l0 kj30 t475 (wrap64 (x4_2 + 1)) a0_0 a0_1 a0_2 l0_3)) = some r := by rw [if_pos rfl] at H; exact H
            clear H
            have H := H1
            clear H1
            replace H := Option.bind_eq_some_iff.mp H
            obtain ⟨t475, A420, H⟩ := H
            replace H : (saronlaw06_sound.l0 kj30 t475 (wrap64 (x4_2 + 1)) a0_0 a0_1 a0_2 l0_3) = some r := H
            have A42 := zh A420
            clear A420
            have H' := zh H
            clear H
            have hcz43_0 : wc.cell? ⟨gb463, 0, none⟩ = some (.int .i64 a0_0) := vb BK463 0
            have hcz43_1 : wc.cell? ⟨gb463, 1, none⟩ = some (.int .i64 a0_1) := vb BK463 1
            have hcz43_2 : wc.cell? ⟨gb463, 2, none⟩ = some (.int .i64 a0_2) := vb BK463 2
            have hcz43_3 : wc.cell? ⟨gb463, 3, none⟩ = some (.slice A0_3 l0_3.length c0_3) := vb BK463 3
            have hfz43_0 := blk_frozen BK463.out 0
            have hfz43_1 := blk_frozen BK463.out 1
            have hfz43_2 := blk_frozen BK463.out 2
            have hfz43_3 := blk_frozen BK463.out 3
            have p469 : 0 ≤ (x4_2 : Int) := of_decide_eq_true zs
            have q469 : x4_2 < (l0_3.length : Int) := of_decide_eq_true zs
            obtain ⟨ad469, e469, hx469_0, hx469_1, hx469_2, hx469_3⟩ := at_T66 HR0_3.out x4_2 p469 q469
            cases e469
            replace hx469_0 := ve HB.out hx469_0
            replace hx469_1 := ve HB.out hx469_1
            replace hx469_2 := ve HB.out hx469_2
            replace hx469_3 := ve HB.out hx469_3
            replace p469 := eq_true p469
            replace q469 := eq_true q469
            try go_wp2_with (first | ((with_reducible refine gate_dst (N := 5) rfl ?_); (try (refine gate_guard (by rfl) ?_; dsimp only)); refine box_event ?hg (N := 5) ?hd (cs := #[.int .i64 0, .int .i64 0, .int .i64 0, .int .i64 0]) (t := 66) ?hr ?_; (case hd => rfl); (case hg => rfl); (case hr => first | (go_simp; done) | (go_simp; rfl)); intro gb470 hg w44 hbox hb; have n0_ := zh (blk_below (g := gb463) (o := .cells #[.int .i64 a0_0, .int .i64 a0_1, .int .i64 a0_2, .slice (some ad469) l0_3.length c0_3] 24 (0, 0)) (zc BK463) hb); have n1_ := zh (below_step zb hb); have n2_ := zh (hbox); have n3_ := zh ((by rw [hg]; exact (below_size zb) : w.heap.size ≤ gb470)); have n4_ := zh ((by rw [hg]; exact (below_size zb) : w.heap.size ≤ gb470)); have n5_ := zh ((by rw [hg]; exact Nat.ne_of_lt (blk_lt (g := gb463) (o := .cells #[.int .i64 a0_0, .int .i64 a0_1, .int .i64 a0_2, .slice (some ad469) l0_3.length c0_3] 24 (0, 0)) (zc BK463)) : gb463 ≠ gb470)); have n6_ := zh ((by rw [hg]; exact Nat.ne_of_gt (blk_lt (g := gb463) (o := .cells #[.int .i64 a0_0, .int .i64 a0_1, .int .i64 a0_2, .slice (some ad469) l0_3.length c0_3] 24 (0, 0)) (zc BK463)) : gb470 ≠ gb463)); clear BK463; clear HB; have BK463 := n0_; have HB := n1_; have BK470 := n2_; have GW470 := n3_; have GE470 := n4_; have NB463_470 := n5_; have NB470_463 := n6_; clear n0_ n1_ n2_ n3_ n4_ n5_ n6_; clear hb hbox hg; have hnb45 := NB470_463.out; have hnc45 := NB463_470.out; have hcz46_0 : w44.cell? ⟨gb470, 0, none⟩ = some (.int .i64 0) := vb BK470 0; have hcz46_1 : w44.cell? ⟨gb470, 1, none⟩ = some (.int .i64 0) := vb BK470 1; have hcz46_2 : w44.cell? ⟨gb470, 2, none⟩ = some (.int .i64 0) := vb BK470 2; have hcz46_3 : w44.cell? ⟨gb470, 3, none⟩ = some (.int .i64 0) := vb BK470 3; have hfz46_0 := blk_frozen BK470.out 0; have hfz46_1 := blk_frozen BK470.out 1; have hfz46_2 := blk_frozen BK470.out 2; have hfz46_3 := blk_frozen BK470.out 3))
            have n0_ : Aside0 (((((w44.setCell ⟨gb470, 0, none⟩ (.int .i64 ((rd_T66 l0_3 x4_2).f0))).setCell ⟨gb470, 1, none⟩ (.int .i64 ((rd_T66 l0_3 x4_2).f1))).setCell ⟨gb470, 2, none⟩ (.int .i64 ((rd_T66 l0_3 x4_2).f2))).setCell ⟨gb470, 3, none⟩ (.int .i64 ((rd_T66 l0_3 x4_2).f3))).heap[gb463]? = some (.cells #[.int .i64 a0_0, .int .i64 a0_1, .int .i64 a0_2, .slice (some ad469) l0_3.length c0_3] 24 (0, 0))) := ⟨by (with_reducible repeat (first | refine blk_drewN ?_ _ | refine blk_drew ?_ | refine blk_alloc ?_ _)); refine blk_far ?_ NB463_470.out _; (with_reducible repeat (first | refine blk_drewN ?_ _ | refine blk_drew ?_ | refine blk_alloc ?_ _)); refine blk_far ?_ NB463_470.out _; (with_reducible repeat (first | refine blk_drewN ?_ _ | refine blk_drew ?_ | refine blk_alloc ?_ _)); refine blk_far ?_ NB463_470.out _; (with_reducible repeat (first | refine blk_drewN ?_ _ | refine blk_drew ?_ | refine blk_alloc ?_ _)); refine blk_far ?_ NB463_470.out _; (with_reducible repeat (first | refine blk_drewN ?_ _ | refine blk_drew ?_ | refine blk_alloc ?_ _)); exact BK463.out⟩
            have n1_ : Aside0 (((((w44.setCell ⟨gb470, 0, none⟩ (.int .i64 ((rd_T66 l0_3 x4_2).f0))).setCell ⟨gb470, 1, none⟩ (.int .i64 ((rd_T66 l0_3 x4_2).f1))).setCell ⟨gb470, 2, none⟩ (.int .i64 ((rd_T66 l0_3 x4_2).f2))).setCell ⟨gb470, 3, none⟩ (.int .i64 ((rd_T66 l0_3 x4_2).f3))).heap[gb470]? = some (.cells #[.int .i64 ((rd_T66 l0_3 x4_2).f0), .int .i64 ((rd_T66 l0_3 x4_2).f1), .int .i64 ((rd_T66 l0_3 x4_2).f2), .int .i64 ((rd_T66 l0_3 x4_2).f3)] 66 (0, 0))) := ⟨by (with_reducible repeat (first | refine blk_drewN ?_ _ | refine blk_drew ?_ | refine blk_alloc ?_ _)); refine blk_put (cs := #[.int .i64 ((rd_T66 l0_3 x4_2).f0), .int .i64 ((rd_T66 l0_3 x4_2).f1), .int .i64 ((rd_T66 l0_3 x4_2).f2), .int .i64 0]) ?_ 3 _ rfl; (with_reducible repeat (first | refine blk_drewN ?_ _ | refine blk_drew ?_ | refine blk_alloc ?_ _)); refine blk_put (cs := #[.int .i64 ((rd_T66 l0_3 x4_2).f0), .int .i64 ((rd_T66 l0_3 x4_2).f1), .int .i64 0, .int .i64 0]) ?_ 2 _ rfl; (with_reducible repeat (first | refine blk_drewN ?_ _ | refine blk_drew ?_ | refine blk_alloc ?_ _)); refine blk_put (cs := #[.int .i64 ((rd_T66 l0_3 x4_2).f0), .int .i64 0, .int .i64 0, .int .i64 0]) ?_ 1 _ rfl; (with_reducible repeat (first | refine blk_drewN ?_ _ | refine blk_drew ?_ | refine blk_alloc ?_ _)); refine blk_put (cs := #[.int .i64 0, .int .i64 0, .int .i64 0, .int .i64 0]) ?_ 0 _ rfl; (with_reducible repeat (first | refine blk_drewN ?_ _ | refine blk_drew ?_ | refine blk_alloc ?_ _)); exact BK470.out⟩
            have n2_ : Aside0 (Below w.heap.size w ((((w44.setCell ⟨gb470, 0, none⟩ (.int .i64 ((rd_T66 l0_3 x4_2).f0))).setCell ⟨gb470, 1, none⟩ (.int .i64 ((rd_T66 l0_3 x4_2).f1))).setCell ⟨gb470, 2, none⟩ (.int .i64 ((rd_T66 l0_3 x4_2).f2))).setCell ⟨gb470, 3, none⟩ (.int .i64 ((rd_T66 l0_3 x4_2).f3)))) := ⟨zb⟩
            (try clear BK463)
            (try clear BK470)
            (try clear HB)
            generalize ((((w44.setCell ⟨gb470, 0, none⟩ (.int .i64 ((rd_T66 l0_3 x4_2).f0))).setCell ⟨gb470, 1, none⟩ (.int .i64 ((rd_T66 l0_3 x4_2).f1))).setCell ⟨gb470, 2, none⟩ (.int .i64 ((rd_T66 l0_3 x4_2).f2))).setCell ⟨gb470, 3, none⟩ (.int .i64 ((rd_T66 l0_3 x4_2).f3))) = w47 at n0_ n1_ n2_ ⊢
            have BK463 := n0_
            have BK470 := n1_
            have HB := n2_
            clear n0_ n1_ n2_
            replace BK463 := zh (blk_drew BK463.out)
            replace BK470 := zh (blk_drew BK470.out)
            replace HB := zh (below_drew1 HB.out)
            refine start_ (n := 23) (S := fun w' => w'.cell? ⟨gb470, 0, none⟩ = some (.int .i64 ((rd_T66 l0_3 x4_2).f0)) ∧ w'.cell? ⟨gb470, 1, none⟩ = some (.int .i64 ((rd_T66 l0_3 x4_2).f1)) ∧ w'.cell? ⟨gb470, 2, none⟩ = some (.int .i64 ((rd_T66 l0_3 x4_2).f2)) ∧ w'.cell? ⟨gb470, 3, none⟩ = some (.int .i64 ((rd_T66 l0_3 x4_2).f3)) ∧ w'.cell? ⟨gb463, 0, none⟩ = some (.int .i64 a0_0) ∧ w'.cell? ⟨gb463, 1, none⟩ = some (.int .i64 a0_1) ∧ w'.cell? ⟨gb463, 2, none⟩ = some (.int .i64 a0_2) ∧ w'.cell? ⟨gb463, 3, none⟩ = some (.slice (some ad469) l0_3.length c0_3)) (ds := []) (Array.replicate 23 false) zk rfl rfl ⟨vb BK470 0, vb BK470 1, vb BK470 2, vb BK470 3, vb BK463 0, vb BK463 1, vb BK463 2, vb BK463 3⟩ (fun hHeld => ?_); refine with_tabW saronlaw06_sound.tab6 saronlaw06_sound.bits6 (fun HT_ HW_ => ?_)
            generalize w47.drew = w48 at BK463 BK470 HB hHeld ⊢
            refine zu 0 ?_
            refine zt 1 ?_
            refine zo 2 (fun K hK => ?_)
            refine goes_ Tryd.func45 zk rfl #[.int .i64 ((rd_T66 l0_3 x4_2).f0), .int .i64 0, .int .i64 4] (by rfl) rfl rfl zm ?_
            with_reducible refine (saronref00_Sits.calls ((rd_T66 l0_3 x4_2).f0) 0 4 true _ A37.out).mono ?_
            rintro e w' ⟨rfl, ⟨nd, rfl⟩⟩
            refine ⟨_, rfl, ?_⟩
            refine hK.out _ _ ⟨vb BK470 0, vb BK470 1, vb BK470 2, vb BK470 3, vb BK463 0, vb BK463 1, vb BK463 2, vb BK463 3⟩ (fun hHeld => ?_)
            clear hK K
            refine zr 53 _ ?_
            refine zu 3 ?_
            refine zu 4 ?_
            refine zu 6 ?_
            refine zu 9 ?_
            refine zu 11 ?_
            refine zt 5 ?_
            refine zt 7 ?_
            refine zt 10 ?_
            refine zt 12 ?_
            refine zu 13 ?_
            refine zu 14 ?_
            refine zo 8 (fun K hK => ?_)
            refine goes_ Tryd.func61 zk rfl #[.int .i64 ((rd_T66 l0_3 x4_2).f1), .int .i64 ((rd_T66 l0_3 x4_2).f2)] (by rfl) rfl rfl zm ?_
            with_reducible refine (saronref00_Band.calls ((rd_T66 l0_3 x4_2).f1) ((rd_T66 l0_3 x4_2).f2) t472 t473 _ A39.out).mono ?_
            rintro e w49 ⟨rfl, hb⟩
            refine ⟨_, rfl, ?_⟩
            replace BK463 := zh (blk_below (g := gb463) (o := .cells #[.int .i64 a0_0, .int .i64 a0_1, .int .i64 a0_2, .slice (some ad469) l0_3.length c0_3] 24 (0, 0)) (zc BK463) hb)
            replace BK470 := zh (blk_below (g := gb470) (o := .cells #[.int .i64 ((rd_T66 l0_3 x4_2).f0), .int .i64 ((rd_T66 l0_3 x4_2).f1), .int .i64 ((rd_T66 l0_3 x4_2).f2), .int .i64 ((rd_T66 l0_3 x4_2).f3)] 66 (0, 0)) (zc BK470) hb)
            replace HB := zh (below_step zb hb)
            (try clear hb)
            (try clear hb2)
            (try clear hk)
            (try clear hi)
            refine hK.out _ _ ⟨vb BK470 0, vb BK470 1, vb BK470 2, vb BK470 3, vb BK463 0, vb BK463 1, vb BK463 2, vb BK463 3⟩ (fun hHeld => ?_)
            clear hK K
            refine zr 59 _ ?_
            refine zo 15 (fun K hK => ?_)
            refine goes_ Tryd.func60 zk rfl #[.agg #[.int .i64 t472, .int .i64 t473], .int .i64 0, .int .i64 (wrap64 ((wrap64 (a0_0 * a0_1)) - 1))] (by rfl) rfl rfl zm ?_
            with_reducible refine (saronref00_Good.calls t472 t473 0 (wrap64 ((wrap64 (a0_0 * a0_1)) - 1)) true _ A40.out).mono ?_
            rintro e w50 ⟨rfl, hb⟩
            refine ⟨_, rfl, ?_⟩
            replace BK463 := zh (blk_below (g := gb463) (o := .cells #[.int .i64 a0_0, .int .i64 a0_1, .int .i64 a0_2, .slice (some ad469) l0_3.length c0_3] 24 (0, 0)) (zc BK463) hb)
            replace BK470 := zh (blk_below (g := gb470) (o := .cells #[.int .i64 ((rd_T66 l0_3 x4_2).f0), .int .i64 ((rd_T66 l0_3 x4_2).f1), .int .i64 ((rd_T66 l0_3 x4_2).f2), .int .i64 ((rd_T66 l0_3 x4_2).f3)] 66 (0, 0)) (zc BK470) hb)
            replace HB := zh (below_step zb hb)
            (try clear hb)
            (try clear hb2)
            (try clear hk)
            (try clear hi)
            refine hK.out _ _ ⟨vb BK470 0, vb BK470 1, vb BK470 2, vb BK470 3, vb BK463 0, vb BK463 1, vb BK463 2, vb BK463 3⟩ (fun hHeld => ?_)
            clear hK K
            refine zr 66 _ ?_
            refine zu 16 ?_
            refine zu 17 ?_
            refine zu 18 ?_
            refine zt 19 ?_
            refine zo 20 (fun K hK => ?_)
            refine goes_ Tryd.func45 zk rfl #[.int .i64 ((rd_T66 l0_3 x4_2).f3), .int .i64 (-6), .int .i64 6] (by rfl) rfl rfl zm ?_
            with_reducible refine (saronref00_Sits.calls ((rd_T66 l0_3 x4_2).f3) (-6) 6 t475 _ A42.out).mono ?_
            rintro e w' ⟨rfl, ⟨nd, rfl⟩⟩
            refine ⟨_, rfl, ?_⟩
            refine hK.out _ _ ⟨vb BK470 0, vb BK470 1, vb BK470 2, vb BK470 3, vb BK463 0, vb BK463 1, vb BK463 2, vb BK463 3⟩ (fun hHeld => ?_)
            clear hK K
            refine zr 71 _ ?_
            refine zu 21 ?_
            refine zu 22 ?_
            refine zd ?_
            try go_wp2
            go_roundg kj30
            case measure => have := HJ1.out; have := HK2.out; have := HJ30.out; omega
            case rel => exact ⟨(t475), (wrap64 (x4_2 + 1)), ze, ze, H', ⟨by have := HJ1.out; have := HK2.out; have := HJ30.out; omega⟩, ⟨zc BK463⟩, ⟨zb⟩⟩
           ·replace c41 := Bool.eq_false_iff.mpr c41
            subst c41
            have H1 : (saronlaw06_sound.l0 kj30 false (wrap64 (x4_2 + 1)) a0_0 a0_1 a0_2 l0_3) = some r := by rw [if_neg (show ¬ (false = true) by decide)] at H; exact H
            clear H
            have H := H1
            clear H1
            have H' := zh H
            clear H
            have hcz51_0 : wc.cell? ⟨gb463, 0, none⟩ = some (.int .i64 a0_0) := vb BK463 0
            have hcz51_1 : wc.cell? ⟨gb463, 1, none⟩ = some (.int .i64 a0_1) := vb BK463 1
            have hcz51_2 : wc.cell? ⟨gb463, 2, none⟩ = some (.int .i64 a0_2) := vb BK463 2
            have hcz51_3 : wc.cell? ⟨gb463, 3, none⟩ = some (.slice A0_3 l0_3.length c0_3) := vb BK463 3
            have hfz51_0 := blk_frozen BK463.out 0
            have hfz51_1 := blk_frozen BK463.out 1
            have hfz51_2 := blk_frozen BK463.out 2
            have hfz51_3 := blk_frozen BK463.out 3
            have p469 : 0 ≤ (x4_2 : Int) := of_decide_eq_true zs
            have q469 : x4_2 < (l0_3.length : Int) := of_decide_eq_true zs
            obtain ⟨ad469, e469, hx469_0, hx469_1, hx469_2, hx469_3⟩ := at_T66 HR0_3.out x4_2 p469 q469
            cases e469
            replace hx469_0 := ve HB.out hx469_0
            replace hx469_1 := ve HB.out hx469_1
            replace hx469_2 := ve HB.out hx469_2
            replace hx469_3 := ve HB.out hx469_3
            replace p469 := eq_true p469
            replace q469 := eq_true q469
            try go_wp2_with (first | ((with_reducible refine gate_dst (N := 5) rfl ?_); (try (refine gate_guard (by rfl) ?_; dsimp only)); refine box_event ?hg (N := 5) ?hd (cs := #[.int .i64 0, .int .i64 0, .int .i64 0, .int .i64 0]) (t := 66) ?hr ?_; (case hd => rfl); (case hg => rfl); (case hr => first | (go_simp; done) | (go_simp; rfl)); intro gb470 hg w52 hbox hb; have n0_ := zh (blk_below (g := gb463) (o := .cells #[.int .i64 a0_0, .int .i64 a0_1, .int .i64 a0_2, .slice (some ad469) l0_3.length c0_3] 24 (0, 0)) (zc BK463) hb); have n1_ := zh (below_step zb hb); have n2_ := zh (hbox); have n3_ := zh ((by rw [hg]; exact (below_size zb) : w.heap.size ≤ gb470)); have n4_ := zh ((by rw [hg]; exact (below_size zb) : w.heap.size ≤ gb470)); have n5_ := zh ((by rw [hg]; exact Nat.ne_of_lt (blk_lt (g := gb463) (o := .cells #[.int .i64 a0_0, .int .i64 a0_1, .int .i64 a0_2, .slice (some ad469) l0_3.length c0_3] 24 (0, 0)) (zc BK463)) : gb463 ≠ gb470)); have n6_ := zh ((by rw [hg]; exact Nat.ne_of_gt (blk_lt (g := gb463) (o := .cells #[.int .i64 a0_0, .int .i64 a0_1, .int .i64 a0_2, .slice (some ad469) l0_3.length c0_3] 24 (0, 0)) (zc BK463)) : gb470 ≠ gb463)); clear BK463; clear HB; have BK463 := n0_; have HB := n1_; have BK470 := n2_; have GW470 := n3_; have GE470 := n4_; have NB463_470 := n5_; have NB470_463 := n6_; clear n0_ n1_ n2_ n3_ n4_ n5_ n6_; clear hb hbox hg; have hnb53 := NB470_463.out; have hnc53 := NB463_470.out; have hcz54_0 : w52.cell? ⟨gb470, 0, none⟩ = some (.int .i64 0) := vb BK470 0; have hcz54_1 : w52.cell? ⟨gb470, 1, none⟩ = some (.int .i64 0) := vb BK470 1; have hcz54_2 : w52.cell? ⟨gb470, 2, none⟩ = some (.int .i64 0) := vb BK470 2; have hcz54_3 : w52.cell? ⟨gb470, 3, none⟩ = some (.int .i64 0) := vb BK470 3; have hfz54_0 := blk_frozen BK470.out 0; have hfz54_1 := blk_frozen BK470.out 1; have hfz54_2 := blk_frozen BK470.out 2; have hfz54_3 := blk_frozen BK470.out 3))
            have n0_ : Aside0 (((((w52.setCell ⟨gb470, 0, none⟩ (.int .i64 ((rd_T66 l0_3 x4_2).f0))).setCell ⟨gb470, 1, none⟩ (.int .i64 ((rd_T66 l0_3 x4_2).f1))).setCell ⟨gb470, 2, none⟩ (.int .i64 ((rd_T66 l0_3 x4_2).f2))).setCell ⟨gb470, 3, none⟩ (.int .i64 ((rd_T66 l0_3 x4_2).f3))).heap[gb463]? = some (.cells #[.int .i64 a0_0, .int .i64 a0_1, .int .i64 a0_2, .slice (some ad469) l0_3.length c0_3] 24 (0, 0))) := ⟨by (with_reducible repeat (first | refine blk_drewN ?_ _ | refine blk_drew ?_ | refine blk_alloc ?_ _)); refine blk_far ?_ NB463_470.out _; (with_reducible repeat (first | refine blk_drewN ?_ _ | refine blk_drew ?_ | refine blk_alloc ?_ _)); refine blk_far ?_ NB463_470.out _; (with_reducible repeat (first | refine blk_drewN ?_ _ | refine blk_drew ?_ | refine blk_alloc ?_ _)); refine blk_far ?_ NB463_470.out _; (with_reducible repeat (first | refine blk_drewN ?_ _ | refine blk_drew ?_ | refine blk_alloc ?_ _)); refine blk_far ?_ NB463_470.out _; (with_reducible repeat (first | refine blk_drewN ?_ _ | refine blk_drew ?_ | refine blk_alloc ?_ _)); exact BK463.out⟩
            have n1_ : Aside0 (((((w52.setCell ⟨gb470, 0, none⟩ (.int .i64 ((rd_T66 l0_3 x4_2).f0))).setCell ⟨gb470, 1, none⟩ (.int .i64 ((rd_T66 l0_3 x4_2).f1))).setCell ⟨gb470, 2, none⟩ (.int .i64 ((rd_T66 l0_3 x4_2).f2))).setCell ⟨gb470, 3, none⟩ (.int .i64 ((rd_T66 l0_3 x4_2).f3))).heap[gb470]? = some (.cells #[.int .i64 ((rd_T66 l0_3 x4_2).f0), .int .i64 ((rd_T66 l0_3 x4_2).f1), .int .i64 ((rd_T66 l0_3 x4_2).f2), .int .i64 ((rd_T66 l0_3 x4_2).f3)] 66 (0, 0))) := ⟨by (with_reducible repeat (first | refine blk_drewN ?_ _ | refine blk_drew ?_ | refine blk_alloc ?_ _)); refine blk_put (cs := #[.int .i64 ((rd_T66 l0_3 x4_2).f0), .int .i64 ((rd_T66 l0_3 x4_2).f1), .int .i64 ((rd_T66 l0_3 x4_2).f2), .int .i64 0]) ?_ 3 _ rfl; (with_reducible repeat (first | refine blk_drewN ?_ _ | refine blk_drew ?_ | refine blk_alloc ?_ _)); refine blk_put (cs := #[.int .i64 ((rd_T66 l0_3 x4_2).f0), .int .i64 ((rd_T66 l0_3 x4_2).f1), .int .i64 0, .int .i64 0]) ?_ 2 _ rfl; (with_reducible repeat (first | refine blk_drewN ?_ _ | refine blk_drew ?_ | refine blk_alloc ?_ _)); refine blk_put (cs := #[.int .i64 ((rd_T66 l0_3 x4_2).f0), .int .i64 0, .int .i64 0, .int .i64 0]) ?_ 1 _ rfl; (with_reducible repeat (first | refine blk_drewN ?_ _ | refine blk_drew ?_ | refine blk_alloc ?_ _)); refine blk_put (cs := #[.int .i64 0, .int .i64 0, .int .i64 0, .int .i64 0]) ?_ 0 _ rfl; (with_reducible repeat (first | refine blk_drewN ?_ _ | refine blk_drew ?_ | refine blk_alloc ?_ _)); exact BK470.out⟩
            have n2_ : Aside0 (Below w.heap.size w ((((w52.setCell ⟨gb470, 0, none⟩ (.int .i64 ((rd_T66 l0_3 x4_2).f0))).setCell ⟨gb470, 1, none⟩ (.int .i64 ((rd_T66 l0_3 x4_2).f1))).setCell ⟨gb470, 2, none⟩ (.int .i64 ((rd_T66 l0_3 x4_2).f2))).setCell ⟨gb470, 3, none⟩ (.int .i64 ((rd_T66 l0_3 x4_2).f3)))) := ⟨zb⟩
            (try clear BK463)
            (try clear BK470)
            (try clear HB)
            generalize ((((w52.setCell ⟨gb470, 0, none⟩ (.int .i64 ((rd_T66 l0_3 x4_2).f0))).setCell ⟨gb470, 1, none⟩ (.int .i64 ((rd_T66 l0_3 x4_2).f1))).setCell ⟨gb470, 2, none⟩ (.int .i64 ((rd_T66 l0_3 x4_2).f2))).setCell ⟨gb470, 3, none⟩ (.int .i64 ((rd_T66 l0_3 x4_2).f3))) = w55 at n0_ n1_ n2_ ⊢
            have BK463 := n0_
            have BK470 := n1_
            have HB := n2_
            clear n0_ n1_ n2_
            replace BK463 := zh (blk_drew BK463.out)
            replace BK470 := zh (blk_drew BK470.out)
            replace HB := zh (below_drew1 HB.out)
            refine start_ (n := 23) (S := fun w' => w'.cell? ⟨gb470, 0, none⟩ = some (.int .i64 ((rd_T66 l0_3 x4_2).f0)) ∧ w'.cell? ⟨gb470, 1, none⟩ = some (.int .i64 ((rd_T66 l0_3 x4_2).f1)) ∧ w'.cell? ⟨gb470, 2, none⟩ = some (.int .i64 ((rd_T66 l0_3 x4_2).f2)) ∧ w'.cell? ⟨gb470, 3, none⟩ = some (.int .i64 ((rd_T66 l0_3 x4_2).f3)) ∧ w'.cell? ⟨gb463, 0, none⟩ = some (.int .i64 a0_0) ∧ w'.cell? ⟨gb463, 1, none⟩ = some (.int .i64 a0_1) ∧ w'.cell? ⟨gb463, 2, none⟩ = some (.int .i64 a0_2) ∧ w'.cell? ⟨gb463, 3, none⟩ = some (.slice (some ad469) l0_3.length c0_3)) (ds := []) (Array.replicate 23 false) zk rfl rfl ⟨vb BK470 0, vb BK470 1, vb BK470 2, vb BK470 3, vb BK463 0, vb BK463 1, vb BK463 2, vb BK463 3⟩ (fun hHeld => ?_); refine with_tabW saronlaw06_sound.tab6 saronlaw06_sound.bits6 (fun HT_ HW_ => ?_)
            generalize w55.drew = w56 at BK463 BK470 HB hHeld ⊢
            refine zu 0 ?_
            refine zt 1 ?_
            refine zo 2 (fun K hK => ?_)
            refine goes_ Tryd.func45 zk rfl #[.int .i64 ((rd_T66 l0_3 x4_2).f0), .int .i64 0, .int .i64 4] (by rfl) rfl rfl zm ?_
            with_reducible refine (saronref00_Sits.calls ((rd_T66 l0_3 x4_2).f0) 0 4 true _ A37.out).mono ?_
            rintro e w' ⟨rfl, ⟨nd, rfl⟩⟩
            refine ⟨_, rfl, ?_⟩
            refine hK.out _ _ ⟨vb BK470 0, vb BK470 1, vb BK470 2, vb BK470 3, vb BK463 0, vb BK463 1, vb BK463 2, vb BK463 3⟩ (fun hHeld => ?_)
            clear hK K
            refine zr 53 _ ?_
            refine zu 3 ?_
            refine zu 4 ?_
            refine zu 6 ?_
            refine zu 9 ?_
            refine zu 11 ?_
            refine zt 5 ?_
            refine zt 7 ?_
            refine zt 10 ?_
            refine zt 12 ?_
            refine zu 13 ?_
            refine zu 14 ?_
            refine zo 8 (fun K hK => ?_)
            refine goes_ Tryd.func61 zk rfl #[.int .i64 ((rd_T66 l0_3 x4_2).f1), .int .i64 ((rd_T66 l0_3 x4_2).f2)] (by rfl) rfl rfl zm ?_
            with_reducible refine (saronref00_Band.calls ((rd_T66 l0_3 x4_2).f1) ((rd_T66 l0_3 x4_2).f2) t472 t473 _ A39.out).mono ?_
            rintro e w57 ⟨rfl, hb⟩
            refine ⟨_, rfl, ?_⟩
            replace BK463 := zh (blk_below (g := gb463) (o := .cells #[.int .i64 a0_0, .int .i64 a0_1, .int .i64 a0_2, .slice (some ad469) l0_3.length c0_3] 24 (0, 0)) (zc BK463) hb)
            replace BK470 := zh (blk_below (g := gb470) (o := .cells #[.int .i64 ((rd_T66 l0_3 x4_2).f0), .int .i64 ((rd_T66 l0_3 x4_2).f1), .int .i64 ((rd_T66 l0_3 x4_2).f2), .int .i64 ((rd_T66 l0_3 x4_2).f3)] 66 (0, 0)) (zc BK470) hb)
            replace HB := zh (below_step zb hb)
            (try clear hb)
            (try clear hb2)
            (try clear hk)
            (try clear hi)
            refine hK.out _ _ ⟨vb BK470 0, vb BK470 1, vb BK470 2, vb BK470 3, vb BK463 0, vb BK463 1, vb BK463 2, vb BK463 3⟩ (fun hHeld => ?_)
            clear hK K
            refine zr 59 _ ?_
            refine zo 15 (fun K hK => ?_)
            refine goes_ Tryd.func60 zk rfl #[.agg #[.int .i64 t472, .int .i64 t473], .int .i64 0, .int .i64 (wrap64 ((wrap64 (a0_0 * a0_1)) - 1))] (by rfl) rfl rfl zm ?_
            with_reducible refine (saronref00_Good.calls t472 t473 0 (wrap64 ((wrap64 (a0_0 * a0_1)) - 1)) false _ A40.out).mono ?_
            rintro e w58 ⟨rfl, hb⟩
            refine ⟨_, rfl, ?_⟩
            replace BK463 := zh (blk_below (g := gb463) (o := .cells #[.int .i64 a0_0, .int .i64 a0_1, .int .i64 a0_2, .slice (some ad469) l0_3.length c0_3] 24 (0, 0)) (zc BK463) hb)
            replace BK470 := zh (blk_below (g := gb470) (o := .cells #[.int .i64 ((rd_T66 l0_3 x4_2).f0), .int .i64 ((rd_T66 l0_3 x4_2).f1), .int .i64 ((rd_T66 l0_3 x4_2).f2), .int .i64 ((rd_T66 l0_3 x4_2).f3)] 66 (0, 0)) (zc BK470) hb)
            replace HB := zh (below_step zb hb)
            (try clear hb)
            (try clear hb2)
            (try clear hk)
            (try clear hi)
            refine hK.out _ _ ⟨vb BK470 0, vb BK470 1, vb BK470 2, vb BK470 3, vb BK463 0, vb BK463 1, vb BK463 2, vb BK463 3⟩ (fun hHeld => ?_)
            clear hK K
            refine zr 66 _ ?_
            refine zu 16 ?_
            refine zu 17 ?_
            refine zn 18 ?_
            refine zn 19 ?_
            refine zn 20 ?_
            refine zu 21 ?_
            refine zu 22 ?_
            refine zd ?_
            try go_wp2
            go_roundg kj30
            case measure => have := HJ1.out; have := HK2.out; have := HJ30.out; omega
            case rel => exact ⟨(false), (wrap64 (x4_2 + 1)), ze, ze, H', ⟨by have := HJ1.out; have := HK2.out; have := HJ30.out; omega⟩, ⟨zc BK463⟩, ⟨zb⟩⟩
          ·replace c38 := Bool.eq_false_iff.mpr c38
           subst c38
           have H1 : (saronlaw06_sound.l0 kj30 false (wrap64 (x4_2 + 1)) a0_0 a0_1 a0_2 l0_3) = some r := by rw [if_neg (show ¬ (false = true) by decide)] at H; exact H
           clear H
           have H := H1
           clear H1
           have H' := zh H
           clear H
           have hcz59_0 : wc.cell? ⟨gb463, 0, none⟩ = some (.int .i64 a0_0) := vb BK463 0
           have hcz59_1 : wc.cell? ⟨gb463, 1, none⟩ = some (.int .i64 a0_1) := vb BK463 1
           have hcz59_2 : wc.cell? ⟨gb463, 2, none⟩ = some (.int .i64 a0_2) := vb BK463 2
           have hcz59_3 : wc.cell? ⟨gb463, 3, none⟩ = some (.slice A0_3 l0_3.length c0_3) := vb BK463 3
           have hfz59_0 := blk_frozen BK463.out 0
           have hfz59_1 := blk_frozen BK463.out 1
           have hfz59_2 := blk_frozen BK463.out 2
           have hfz59_3 := blk_frozen BK463.out 3
           have p469 : 0 ≤ (x4_2 : Int) := of_decide_eq_true zs
           have q469 : x4_2 < (l0_3.length : Int) := of_decide_eq_true zs
           obtain ⟨ad469, e469, hx469_0, hx469_1, hx469_2, hx469_3⟩ := at_T66 HR0_3.out x4_2 p469 q469
           cases e469
           replace hx469_0 := ve HB.out hx469_0
           replace hx469_1 := ve HB.out hx469_1
           replace hx469_2 := ve HB.out hx469_2
           replace hx469_3 := ve HB.out hx469_3
           replace p469 := eq_true p469
           replace q469 := eq_true q469
           try go_wp2_with (first | ((with_reducible refine gate_dst (N := 5) rfl ?_); (try (refine gate_guard (by rfl) ?_; dsimp only)); refine box_event ?hg (N := 5) ?hd (cs := #[.int .i64 0, .int .i64 0, .int .i64 0, .int .i64 0]) (t := 66) ?hr ?_; (case hd => rfl); (case hg => rfl); (case hr => first | (go_simp; done) | (go_simp; rfl)); intro gb470 hg w60 hbox hb; have n0_ := zh (blk_below (g := gb463) (o := .cells #[.int .i64 a0_0, .int .i64 a0_1, .int .i64 a0_2, .slice (some ad469) l0_3.length c0_3] 24 (0, 0)) (zc BK463) hb); have n1_ := zh (below_step zb hb); have n2_ := zh (hbox); have n3_ := zh ((by rw [hg]; exact (below_size zb) : w.heap.size ≤ gb470)); have n4_ := zh ((by rw [hg]; exact (below_size zb) : w.heap.size ≤ gb470)); have n5_ := zh ((by rw [hg]; exact Nat.ne_of_lt (blk_lt (g := gb463) (o := .cells #[.int .i64 a0_0, .int .i64 a0_1, .int .i64 a0_2, .slice (some ad469) l0_3.length c0_3] 24 (0, 0)) (zc BK463)) : gb463 ≠ gb470)); have n6_ := zh ((by rw [hg]; exact Nat.ne_of_gt (blk_lt (g := gb463) (o := .cells #[.int .i64 a0_0, .int .i64 a0_1, .int .i64 a0_2, .slice (some ad469) l0_3.length c0_3] 24 (0, 0)) (zc BK463)) : gb470 ≠ gb463)); clear BK463; clear HB; have BK463 := n0_; have HB := n1_; have BK470 := n2_; have GW470 := n3_; have GE470 := n4_; have NB463_470 := n5_; have NB470_463 := n6_; clear n0_ n1_ n2_ n3_ n4_ n5_ n6_; clear hb hbox hg; have hnb61 := NB470_463.out; have hnc61 := NB463_470.out; have hcz62_0 : w60.cell? ⟨gb470, 0, none⟩ = some (.int .i64 0) := vb BK470 0; have hcz62_1 : w60.cell? ⟨gb470, 1, none⟩ = some (.int .i64 0) := vb BK470 1; have hcz62_2 : w60.cell? ⟨gb470, 2, none⟩ = some (.int .i64 0) := vb BK470 2; have hcz62_3 : w60.cell? ⟨gb470, 3, none⟩ = some (.int .i64 0) := vb BK470 3; have hfz62_0 := blk_frozen BK470.out 0; have hfz62_1 := blk_frozen BK470.out 1; have hfz62_2 := blk_frozen BK470.out 2; have hfz62_3 := blk_frozen BK470.out 3))
           have n0_ : Aside0 (((((w60.setCell ⟨gb470, 0, none⟩ (.int .i64 ((rd_T66 l0_3 x4_2).f0))).setCell ⟨gb470, 1, none⟩ (.int .i64 ((rd_T66 l0_3 x4_2).f1))).setCell ⟨gb470, 2, none⟩ (.int .i64 ((rd_T66 l0_3 x4_2).f2))).setCell ⟨gb470, 3, none⟩ (.int .i64 ((rd_T66 l0_3 x4_2).f3))).heap[gb463]? = some (.cells #[.int .i64 a0_0, .int .i64 a0_1, .int .i64 a0_2, .slice (some ad469) l0_3.length c0_3] 24 (0, 0))) := ⟨by (with_reducible repeat (first | refine blk_drewN ?_ _ | refine blk_drew ?_ | refine blk_alloc ?_ _)); refine blk_far ?_ NB463_470.out _; (with_reducible repeat (first | refine blk_drewN ?_ _ | refine blk_drew ?_ | refine blk_alloc ?_ _)); refine blk_far ?_ NB463_470.out _; (with_reducible repeat (first | refine blk_drewN ?_ _ | refine blk_drew ?_ | refine blk_alloc ?_ _)); refine blk_far ?_ NB463_470.out _; (with_reducible repeat (first | refine blk_drewN ?_ _ | refine blk_drew ?_ | refine blk_alloc ?_ _)); refine blk_far ?_ NB463_470.out _; (with_reducible repeat (first | refine blk_drewN ?_ _ | refine blk_drew ?_ | refine blk_alloc ?_ _)); exact BK463.out⟩
           have n1_ : Aside0 (((((w60.setCell ⟨gb470, 0, none⟩ (.int .i64 ((rd_T66 l0_3 x4_2).f0))).setCell ⟨gb470, 1, none⟩ (.int .i64 ((rd_T66 l0_3 x4_2).f1))).setCell ⟨gb470, 2, none⟩ (.int .i64 ((rd_T66 l0_3 x4_2).f2))).setCell ⟨gb470, 3, none⟩ (.int .i64 ((rd_T66 l0_3 x4_2).f3))).heap[gb470]? = some (.cells #[.int .i64 ((rd_T66 l0_3 x4_2).f0), .int .i64 ((rd_T66 l0_3 x4_2).f1), .int .i64 ((rd_T66 l0_3 x4_2).f2), .int .i64 ((rd_T66 l0_3 x4_2).f3)] 66 (0, 0))) := ⟨by (with_reducible repeat (first | refine blk_drewN ?_ _ | refine blk_drew ?_ | refine blk_alloc ?_ _)); refine blk_put (cs := #[.int .i64 ((rd_T66 l0_3 x4_2).f0), .int .i64 ((rd_T66 l0_3 x4_2).f1), .int .i64 ((rd_T66 l0_3 x4_2).f2), .int .i64 0]) ?_ 3 _ rfl; (with_reducible repeat (first | refine blk_drewN ?_ _ | refine blk_drew ?_ | refine blk_alloc ?_ _)); refine blk_put (cs := #[.int .i64 ((rd_T66 l0_3 x4_2).f0), .int .i64 ((rd_T66 l0_3 x4_2).f1), .int .i64 0, .int .i64 0]) ?_ 2 _ rfl; (with_reducible repeat (first | refine blk_drewN ?_ _ | refine blk_drew ?_ | refine blk_alloc ?_ _)); refine blk_put (cs := #[.int .i64 ((rd_T66 l0_3 x4_2).f0), .int .i64 0, .int .i64 0, .int .i64 0]) ?_ 1 _ rfl; (with_reducible repeat (first | refine blk_drewN ?_ _ | refine blk_drew ?_ | refine blk_alloc ?_ _)); refine blk_put (cs := #[.int .i64 0, .int .i64 0, .int .i64 0, .int .i64 0]) ?_ 0 _ rfl; (with_reducible repeat (first | refine blk_drewN ?_ _ | refine blk_drew ?_ | refine blk_alloc ?_ _)); exact BK470.out⟩
           have n2_ : Aside0 (Below w.heap.size w ((((w60.setCell ⟨gb470, 0, none⟩ (.int .i64 ((rd_T66 l0_3 x4_2).f0))).setCell ⟨gb470, 1, none⟩ (.int .i64 ((rd_T66 l0_3 x4_2).f1))).setCell ⟨gb470, 2, none⟩ (.int .i64 ((rd_T66 l0_3 x4_2).f2))).setCell ⟨gb470, 3, none⟩ (.int .i64 ((rd_T66 l0_3 x4_2).f3)))) := ⟨zb⟩
           (try clear BK463)
           (try clear BK470)
           (try clear HB)
           generalize ((((w60.setCell ⟨gb470, 0, none⟩ (.int .i64 ((rd_T66 l0_3 x4_2).f0))).setCell ⟨gb470, 1, none⟩ (.int .i64 ((rd_T66 l0_3 x4_2).f1))).setCell ⟨gb470, 2, none⟩ (.int .i64 ((rd_T66 l0_3 x4_2).f2))).setCell ⟨gb470, 3, none⟩ (.int .i64 ((rd_T66 l0_3 x4_2).f3))) = w63 at n0_ n1_ n2_ ⊢
           have BK463 := n0_
           have BK470 := n1_
           have HB := n2_
           clear n0_ n1_ n2_
           replace BK463 := zh (blk_drew BK463.out)
           replace BK470 := zh (blk_drew BK470.out)
           replace HB := zh (below_drew1 HB.out)
           refine start_ (n := 23) (S := fun w' => w'.cell? ⟨gb470, 0, none⟩ = some (.int .i64 ((rd_T66 l0_3 x4_2).f0)) ∧ w'.cell? ⟨gb470, 1, none⟩ = some (.int .i64 ((rd_T66 l0_3 x4_2).f1)) ∧ w'.cell? ⟨gb470, 2, none⟩ = some (.int .i64 ((rd_T66 l0_3 x4_2).f2)) ∧ w'.cell? ⟨gb470, 3, none⟩ = some (.int .i64 ((rd_T66 l0_3 x4_2).f3))) (ds := []) (Array.replicate 23 false) zk rfl rfl ⟨vb BK470 0, vb BK470 1, vb BK470 2, vb BK470 3⟩ (fun hHeld => ?_); refine with_tabW saronlaw06_sound.tab6 saronlaw06_sound.bits6 (fun HT_ HW_ => ?_)
           generalize w63.drew = w64 at BK463 BK470 HB hHeld ⊢
           refine zu 0 ?_
           refine zt 1 ?_
           refine zo 2 (fun K hK => ?_)
           refine goes_ Tryd.func45 zk rfl #[.int .i64 ((rd_T66 l0_3 x4_2).f0), .int .i64 0, .int .i64 4] (by rfl) rfl rfl zm ?_
           with_reducible refine (saronref00_Sits.calls ((rd_T66 l0_3 x4_2).f0) 0 4 false _ A37.out).mono ?_
           rintro e w' ⟨rfl, ⟨nd, rfl⟩⟩
           refine ⟨_, rfl, ?_⟩
           refine hK.out _ _ ⟨vb BK470 0, vb BK470 1, vb BK470 2, vb BK470 3⟩ (fun hHeld => ?_)
           clear hK K
           refine zr 53 _ ?_
           refine zu 3 ?_
           refine zn 4 ?_
           refine zn 5 ?_
           refine zn 6 ?_
           refine zn 7 ?_
           refine zn 8 ?_
           refine zn 9 ?_
           refine zn 10 ?_
           refine zn 11 ?_
           refine zn 12 ?_
           refine zn 13 ?_
           refine zn 14 ?_
           refine zn 15 ?_
           refine zu 16 ?_
           refine zu 17 ?_
           refine zn 18 ?_
           refine zn 19 ?_
           refine zn 20 ?_
           refine zu 21 ?_
           refine zu 22 ?_
           refine zd ?_
           try go_wp2
           go_roundg kj30
           case measure => have := HJ1.out; have := HK2.out; have := HJ30.out; omega
           case rel => exact ⟨(false), (wrap64 (x4_2 + 1)), ze, ze, H', ⟨by have := HJ1.out; have := HK2.out; have := HJ30.out; omega⟩, ⟨zc BK463⟩, ⟨zb⟩⟩
         ·rw [if_neg c36] at H
          exact absurd H (by simp)
        ·rw [if_neg c35] at H
         exact absurd H (by simp)
       ·replace c34 := Bool.eq_false_iff.mpr c34
        subst c34
        have H1 : (some x3_2) = some r := by rw [if_neg (show ¬ (false = true) by decide)] at H; exact H
        clear H
        have H := H1
        clear H1
        obtain rfl := Option.some.inj H
        go_wp2
        go_ret
        exact ⟨zf, zb⟩
end Go.Proofs.YtagkfkdoibnhfaaDoor.H
end
section
namespace Go.Proofs.YtagkfkdoibnhfaaDoor.K
open Go.RowKit Go.Proofs.YtagkfkdoibnhfaaDoorW.PrintWords Go.Proofs.YtagkfkdoibnhfaaDoorW.PrintMore Go.Proofs.YtagkfkdoibnhfaaDoor.H
namespace O
theorem sits_f (a b c : Int) : saronref00_Sits.f a b c = some (decide (b ≤ a) && decide (a ≤ c)) := by
 unfold saronref00_Sits.f
 by_cases h : b ≤ a <;> simp [h]
theorem good_f (x y a b : Int) : saronref00_Good.f x y a b = some (decide (a ≤ x) && decide (x ≤ y) && decide (y ≤ b)) := by
 unfold saronref00_Good.f
 by_cases h : a ≤ x <;> by_cases h' : x ≤ y <;> simp [h, h']
theorem up1 (i : Nat) (h : (i : Int) < 9223372036854775807) : wrap64 ((i : Int) + 1) = ((i + 1 : Nat) : Int) := by rw [w64 (by omega) (by omega)]; simp
theorem okScale_get {T O L : Int} {R : List S66} (h : okScale T O L R = true) (i : Nat) (hi : i < R.length) : okReg (T * O) R[i] = true := by
 unfold okScale at h
 simp only [Bool.and_eq_true, List.all_eq_true] at h
 exact h.2 _ (List.getElem_mem hi)
theorem sound_false (T O L : Int) (R : List S66) (k : Nat) (i : Int) (hk : 2 ≤ k) : saronlaw06_sound.l0 k false i T O L R = some false := by
 obtain ⟨k, rfl⟩ : ∃ z, k = z + 2 := ⟨k - 2, by omega⟩
 simp [saronlaw06_sound.l0, saronlaw06_sound.j2]
theorem sound_l0 (T O L : Int) (R : List S66) (hS : okScale T O L R = true) (d : Nat) : ∀ (k i : Nat), R.length - i = d → i ≤ R.length → 2 * d + 2 ≤ k → saronlaw06_sound.l0 k true (i : Int) T O L R = some true := by
 obtain ⟨t1, t2, t3, t4, t5, t6, t7, t8, t9, hok⟩ := okScale_regs hS
 have mr := mul_range t1 t2 t3 t4
 induction d with
 | zero =>
  intro k i hd hi hk
  obtain ⟨k, rfl⟩ : ∃ z, k = z + 2 := ⟨k - 2, by omega⟩
  have hdec : decide ((i : Int) < (R.length : Int)) = false := decide_eq_false (by omega)
  simp only [saronlaw06_sound.l0, saronlaw06_sound.j2, hdec, if_true]
  rw [if_neg (by simp)]
 | succ d ih =>
  intro k i hd hi hk
  obtain ⟨k, rfl⟩ : ∃ z, k = z + 2 := ⟨k - 2, by omega⟩
  have hlt : i < R.length := by omega
  have hdec : decide ((i : Int) < (R.length : Int)) = true := decide_eq_true (by omega)
  have e : regAt R (i : Int) = R[i] := by unfold regAt; simp [hlt]
  have hr := okScale_get hS i hlt
  simp only [okReg, Bool.and_eq_true, decide_eq_true_eq] at hr
  obtain ⟨⟨⟨⟨⟨⟨⟨r1, r2⟩, r3⟩, r4⟩, r5⟩, r6⟩, r7⟩, r8⟩ := hr
  simp only [saronlaw06_sound.l0, saronlaw06_sound.j2, hdec, if_true]
  rw [if_pos (by omega), if_pos (by omega), rd66 R i hlt, sits_f, Option.bind_some, if_pos (by rw [decide_eq_true r1, decide_eq_true r2]; rfl)]
  simp only [saronref00_Band.f, Option.bind_some]
  rw [good_f, Option.bind_some, w64 (n := T * O) (by omega) (by omega), w64 (by omega) (by omega), if_pos (by rw [decide_eq_true r3, decide_eq_true r4, decide_eq_true r6]; rfl), sits_f, Option.bind_some, decide_eq_true r7, decide_eq_true r8, up1 i (by omega)]
  exact ih k (i + 1) (by omega) (by omega) (by omega)
theorem sound_f (T O L : Int) (R : List S66) (hR : R.length ≤ 9223372036854775807) (k : Nat) (hk : 2 * R.length + 10 ≤ k) : saronlaw06_sound.f k T O L R = some (okScale T O L R) := by
 unfold saronlaw06_sound.f
 rw [check_f T O L R hR k (by omega), Option.bind_some]
 obtain ⟨k, rfl⟩ : ∃ z, k = z + 1 := ⟨k - 1, by omega⟩
 cases hS : okScale T O L R
 ·rw [if_neg (by simp)]
  simp only [saronlaw06_sound.j0]
  exact sound_false _ _ _ _ _ _ (by omega)
 ·obtain ⟨t1, t2, t3, t4, t5, t6, t7, t8, t9, hok⟩ := okScale_regs hS
  rw [if_pos rfl, if_pos rfl, sits_f, Option.bind_some, if_pos (by rw [decide_eq_true t1, decide_eq_true t2]; rfl), sits_f, Option.bind_some, if_pos (by rw [decide_eq_true t3, decide_eq_true t4]; rfl), sits_f, Option.bind_some, if_pos (by rw [decide_eq_true t5, decide_eq_true t6]; rfl), if_pos ((tmod_zero _ _).2 t7), sits_f, Option.bind_some, decide_eq_true (by omega : (1 : Int) ≤ (R.length : Int)), decide_eq_true (by omega : (R.length : Int) ≤ 5)]
  simp only [saronlaw06_sound.j0]
  exact sound_l0 T O L R hS R.length k 0 (Nat.sub_zero _) (Nat.zero_le _) (by omega)
end O
end Go.Proofs.YtagkfkdoibnhfaaDoor.K
end
section
namespace Go.Proofs.YtagkfkdoibnhfaaDoor.H
open Go.RowKit Go.Proofs.YtagkfkdoibnhfaaDoorW.PrintWords Go.Proofs.YtagkfkdoibnhfaaDoorW.PrintLast Go.Proofs.YtagkfkdoibnhfaaDoorW.PrintMore
attribute [local go_sem] max2_int min2_int max_two min_two max_three min_three max_four min_four   -- for this text's walks alone
set_option linter.unusedVariables false
set_option linter.unusedSimpArgs false
open Go.Proofs.YtagkfkdoibnhfaaDoor.K
end Go.Proofs.YtagkfkdoibnhfaaDoor.H
end
section
namespace Go.Proofs.YtagkfkdoibnhfaaDoor.K
open Go.RowKit Go.Proofs.YtagkfkdoibnhfaaDoorW.PrintWords Go.Proofs.YtagkfkdoibnhfaaDoorW.PrintMore Go.Proofs.YtagkfkdoibnhfaaDoor.H
namespace O
theorem equal_self_l0 (l : List Int) (hl : l.length ≤ 9223372036854775807) : ∀ (d k i : Nat), l.length - i = d → i ≤ l.length → d + 1 ≤ k → saronref00_Equal.l0 k l l true (i : Int) = some true
 | 0, k, i, hd, hi, hk => by
  obtain ⟨k, rfl⟩ : ∃ m, k = m + 1 := ⟨k - 1, by omega⟩
  simp only [saronref00_Equal.l0, if_true]
  rw [if_neg (by omega)]
 | d + 1, k, i, hd, hi, hk => by
  obtain ⟨k, rfl⟩ : ∃ m, k = m + 1 := ⟨k - 1, by omega⟩
  simp only [saronref00_Equal.l0, if_true]
  rw [if_pos (by omega), if_pos (by omega), if_pos (by omega), up1 i (by omega), beq_self_eq_true]
  exact equal_self_l0 l hl d k (i + 1) (by omega) (by omega) (by omega)
theorem equal_self' (l : List Int) (hl : l.length ≤ 9223372036854775807) (k : Nat) (hk : l.length + 1 ≤ k) : saronref00_Equal.f k l l = some true := by
 unfold saronref00_Equal.f
 rw [beq_self_eq_true]
 exact equal_self_l0 l hl l.length k 0 rfl (by omega) (by omega)
theorem min_mul (n l : Int) (hn : 1 ≤ n) (hl : 1 ≤ l) : 1 ≤ min 1000000 (n * l) ∧ (1 < min 1000000 (n * l) ↔ 1 < n ∨ 1 < l) := by
 by_cases h : l = 1
 ·subst h
  rw [Int.mul_one]
  omega
 ·have h1 : 1 * 2 ≤ n * l := Int.mul_le_mul hn (by omega) (by omega) (by omega)
  omega
theorem many_fold (f : Int → Nat) : ∀ (ps : List Int) (n : Int), 1 ≤ n → (∀ p ∈ ps, 1 ≤ f p) → 1 ≤ ps.foldl (fun n p => min 1000000 (n * (f p : Int))) n ∧ (1 < ps.foldl (fun n p => min 1000000 (n * (f p : Int))) n ↔ 1 < n ∨ (ps.any fun p => decide (1 < f p)) = true)
 | [], n, hn, h => by simp [hn]
 | p :: ps, n, hn, h => by
  have h1 := h p (by simp)
  obtain ⟨a, b⟩ := min_mul n (f p : Int) hn (by omega)
  obtain ⟨c, d⟩ := many_fold f ps _ a (fun q hq => h q (by simp [hq]))
  rw [List.foldl_cons]
  refine ⟨c, d.trans ?_⟩
  rw [b, List.any_cons, Bool.or_eq_true, decide_eq_true_eq, or_assoc]
  have : (1 : Int) < (f p : Int) ↔ 1 < f p := by omega
  rw [this]
def several (T O L : Int) (R : List S66) (hs : List S60) : Bool := (irange 0 (L / 2 - 1)).any (severalAt T O R hs)
theorem many_one {T O L : Int} {R : List S66} {hs : List S60} (h : canAll T O L R hs = true) : 1 ≤ manyOf T O L R hs ∧ (1 < manyOf T O L R hs ↔ several T O L R hs = true) := by
 obtain ⟨a, b⟩ := many_fold (fun p => (choices T O R hs p).length) (irange 0 (L / 2 - 1)) 1 (Int.le_refl _) (fun p hp => by
  obtain ⟨h0, h1⟩ := irange_mem_iff.1 hp
  obtain ⟨q, hq⟩ := canAll_pos h p h0 h1
  exact List.length_pos_of_mem hq)
 refine ⟨a, b.trans ?_⟩
 rw [show ((1 : Int) < 1) = False from by simp, false_or]
 rfl
theorem choices_nodup (T O : Int) (R : List S66) (hs : List S60) (p : Int) : (choices T O R hs p).Nodup := by
 unfold choices
 exact (pairs_nodup _).filter _
section
variable (T O L : Int) (R : List S66) (hs : List S60) (hS : okScale T O L R = true) (hH : okHeard L R hs = true) (hC : canAll T O L R hs = true)
include hS hH hC
end
end O
end Go.Proofs.YtagkfkdoibnhfaaDoor.K
end
section
namespace Go.Proofs.YtagkfkdoibnhfaaDoor.K
open Go.RowKit Go.Proofs.YtagkfkdoibnhfaaDoorW.PrintWords Go.Proofs.YtagkfkdoibnhfaaDoorW.PrintMore Go.Proofs.YtagkfkdoibnhfaaDoor.H
namespace O
def True1 (T : Int) (R : List S66) (t : List Int) (x : S60) : Prop :=
 0 ≤ x.f0 ∧ x.f0 < R.length ∧ x.f1.length = (partOf T R x.f0 t).length ∧ ∀ k, k < x.f1.length → x.f1.getD k 0 = -2 ∨ x.f1.getD k 0 = (partOf T R x.f0 t).getD k 0
section
variable {T O L : Int} {R : List S66} {hs : List S60} {t : List Int} (hS : okScale T O L R = true) (hL : (t.length : Int) = L) (ht : ∀ x ∈ t, 0 ≤ x ∧ x < T * O) (hT : ∀ x ∈ hs, True1 T R t x)
include hS hL
include ht
omit ht
include hT
include ht
omit ht
include ht
end
end O
end Go.Proofs.YtagkfkdoibnhfaaDoor.K
end
section
namespace Go.Proofs.YtagkfkdoibnhfaaDoor.H
open Go.RowKit Go.Proofs.YtagkfkdoibnhfaaDoorW.PrintWords Go.Proofs.YtagkfkdoibnhfaaDoorW.PrintLast Go.Proofs.YtagkfkdoibnhfaaDoorW.PrintMore
attribute [local go_sem] max2_int min2_int max_two min_two max_three min_three max_four min_four   -- for this text's walks alone
set_option linter.unusedVariables false
set_option linter.unusedSimpArgs false
open Go.Proofs.YtagkfkdoibnhfaaDoor.K
end Go.Proofs.YtagkfkdoibnhfaaDoor.H
end
section
namespace Go.Proofs.YtagkfkdoibnhfaaDoor.H
open Go.RowKit Go.Proofs.YtagkfkdoibnhfaaDoorW.PrintWords Go.Proofs.YtagkfkdoibnhfaaDoorW.PrintLast Go.Proofs.YtagkfkdoibnhfaaDoorW.PrintMore
attribute [local go_sem] max2_int min2_int max_two min_two max_three min_three max_four min_four   -- for this text's walks alone
set_option linter.unusedVariables false
set_option linter.unusedSimpArgs false
end Go.Proofs.YtagkfkdoibnhfaaDoor.H
end
section
namespace Go.Proofs.YtagkfkdoibnhfaaDoor.H
open Go.RowKit Go.Proofs.YtagkfkdoibnhfaaDoorW.PrintWords Go.Proofs.YtagkfkdoibnhfaaDoorW.PrintLast Go.Proofs.YtagkfkdoibnhfaaDoorW.PrintMore
attribute [local go_sem] max2_int min2_int max_two min_two max_three min_three max_four min_four   -- for this text's walks alone
set_option linter.unusedVariables false
set_option linter.unusedSimpArgs false
open Go.Proofs.YtagkfkdoibnhfaaDoor.K
end Go.Proofs.YtagkfkdoibnhfaaDoor.H
end
section
namespace Go.Proofs.YtagkfkdoibnhfaaDoor.K
open Go.RowKit Go.Proofs.YtagkfkdoibnhfaaDoorW.PrintWords Go.Proofs.YtagkfkdoibnhfaaDoorW.PrintMore Go.Proofs.YtagkfkdoibnhfaaDoor.H
namespace O
theorem turn_any (a b : Int) (hb : 1 ≤ b) (hb' : b ≤ 9223372036854775807) : saronref00_Turn.f a b = some (a % b) := by
 unfold saronref00_Turn.f
 rw [if_neg (by omega), if_neg (by omega)]
 have h := Int.tmod_eq_emod (a := a) (b := b)
 have h1 := Int.emod_nonneg a (by omega : b ≠ 0)
 have h2 := Int.emod_lt_of_pos a (by omega : 0 < b)
 have hn : (b.natAbs : Int) = b := by omega
 split at h
 ·rw [if_neg (by omega), h]; simp
 ·rw [if_pos (by omega), w64 (by omega) (by omega)]
  congr 1
  omega
theorem where_mem (x : Int) (l : List Int) (hl : l.length ≤ 9223372036854775807) : ∀ (d k i : Nat), l.length - i = d → d + 1 ≤ k → (∃ j, i ≤ j ∧ j < l.length ∧ l.getD j 0 = x) → ∃ v, saronref00_Where.l0 k l x (i : Int) = some v ∧ 0 ≤ v
 | 0, k, i, hd, hk, ⟨j, h1, h2, _⟩ => by omega
 | d + 1, k, i, hd, hk, ⟨j, h1, h2, h3⟩ => by
  obtain ⟨k, rfl⟩ : ∃ z, k = z + 1 := ⟨k - 1, by omega⟩
  simp only [saronref00_Where.l0]
  rw [if_pos (by omega), if_pos (by omega)]
  by_cases hx : rd l (i : Int) = x
  ·rw [if_pos hx]
   exact ⟨_, rfl, by omega⟩
  ·rw [if_neg hx, up1 i (by omega)]
   refine where_mem x l hl d k (i + 1) (by omega) (by omega) ⟨j, ?_, h2, h3⟩
   have : j ≠ i := by
    rintro rfl
    exact hx h3
   omega
section
variable {T O L : Int} {R : List S66} (hS : okScale T O L R = true)
include hS
end
end O
end Go.Proofs.YtagkfkdoibnhfaaDoor.K
end
section
namespace Go.Proofs.YtagkfkdoibnhfaaDoor.K
open Go.RowKit Go.Proofs.YtagkfkdoibnhfaaDoorW.PrintWords Go.Proofs.YtagkfkdoibnhfaaDoorW.PrintMore Go.Proofs.YtagkfkdoibnhfaaDoor.H
namespace O
section
variable {T O L : Int} {R : List S66} (hS : okScale T O L R = true)
include hS
end
def changed (hs : List S60) (j m : Nat) (v : Int) (x : S60) : List S60 := hs.set j ⟨x.f0, x.f1.set m v⟩
theorem irange_nodup (lo hi : Int) : (irange lo hi).Nodup := by
 unfold irange
 refine List.Pairwise.map _ (fun a b h => ?_) List.nodup_range
 intro h'
 exact h (by omega)
section
variable {T O L : Int} {R : List S66} (hS : okScale T O L R = true)
include hS
end
end O
end Go.Proofs.YtagkfkdoibnhfaaDoor.K
end
section
namespace Go.Proofs.YtagkfkdoibnhfaaDoor.H
open Go.RowKit Go.Proofs.YtagkfkdoibnhfaaDoorW.PrintWords Go.Proofs.YtagkfkdoibnhfaaDoorW.PrintLast Go.Proofs.YtagkfkdoibnhfaaDoorW.PrintMore
attribute [local go_sem] max2_int min2_int max_two min_two max_three min_three max_four min_four   -- for this text's walks alone
set_option linter.unusedVariables false
set_option linter.unusedSimpArgs false
open Go.Proofs.YtagkfkdoibnhfaaDoor.K
end Go.Proofs.YtagkfkdoibnhfaaDoor.H
end
section
namespace Go.Proofs.YtagkfkdoibnhfaaDoor.K
open Go.RowKit Go.Proofs.YtagkfkdoibnhfaaDoorW.PrintWords Go.Proofs.YtagkfkdoibnhfaaDoorW.PrintMore Go.Proofs.YtagkfkdoibnhfaaDoor.H
namespace O
theorem ok_changed {L : Int} {R : List S66} {hs : List S60} (hH : okHeard L R hs = true) (j m : Nat) (v : Int) (hv : -2 ≤ v) (hv' : v ≤ 40) (x : S60) (hj : hs[j]? = some x) : okHeard L R (changed hs j m v x) = true := by
 unfold okHeard changed at *
 simp only [Bool.and_eq_true, decide_eq_true_eq, List.all_eq_true, List.length_set] at hH ⊢
 refine ⟨hH.1, fun y hy => ?_⟩
 rcases List.mem_or_eq_of_mem_set hy with hy | rfl
 ·exact hH.2 y hy
 ·have := hH.2 x (List.mem_of_getElem? hj)
  unfold okHeard1 at *
  simp only [Bool.and_eq_true, decide_eq_true_eq, List.all_eq_true, List.length_set] at this ⊢
  refine ⟨this.1, fun n hn => ?_⟩
  rcases List.mem_or_eq_of_mem_set hn with hn | rfl
  ·exact this.2 n hn
  ·exact ⟨hv, hv'⟩
theorem heard_pos {T O L : Int} {R : List S66} {hs : List S60} (hS : okScale T O L R = true) (hH : okHeard L R hs = true) (j : Nat) (hj : j < hs.length) : 1 ≤ hs[j].f1.length ∧ hs[j].f1.length ≤ 40 := by
 obtain ⟨t1, t2, t3, t4, t5, t6, t7, t8, t9, hok⟩ := okScale_regs hS
 obtain ⟨hh5, hh⟩ := okHeard_get hH
 obtain ⟨g1, g2, g3, g4⟩ := hh j hj
 have hwl := width_le (regAt R hs[j].f0)
 have hwp := width_pos (regAt R hs[j].f0)
 have a : L / 2 * (width (regAt R hs[j].f0) : Int) ≤ 8 * 4 := Int.mul_le_mul (by omega) (by omega) (by omega) (by omega)
 have b : 1 * 1 ≤ L / 2 * (width (regAt R hs[j].f0) : Int) := Int.mul_le_mul (by omega) (by omega) (by omega) (by omega)
 omega
section
variable (T O L : Int) (R : List S66) (hs : List S60) (bits : List Int) (least : Int) (hS : okScale T O L R = true) (hH : okHeard L R hs = true) (hb : bits.length ≤ 9223372036854775807) (hle : least = leastOf T O L R hs)
include hS hH hb hle
end
end O
end Go.Proofs.YtagkfkdoibnhfaaDoor.K
end
section
namespace Go.Proofs.YtagkfkdoibnhfaaDoor.K
open Go.RowKit Go.Proofs.YtagkfkdoibnhfaaDoorW.PrintWords Go.Proofs.YtagkfkdoibnhfaaDoorW.PrintMore Go.Proofs.YtagkfkdoibnhfaaDoor.H
namespace O
def Weaker (T : Int) (R : List S66) (hs hs' : List S60) : Prop := ∀ p a b, miss T R hs p a b = 0 → miss T R hs' p a b = 0
theorem miss_zero_iff (T : Int) (R : List S66) (hs : List S60) (p a b : Int) : miss T R hs p a b = 0 ↔ ∀ x ∈ hs, missOf (x.f1.drop (p.toNat * width (regAt R x.f0))) (strokes T R x.f0 a b) = 0 := by
 unfold miss
 induction hs with
 | nil => simp
 | cons y l ih =>
  rw [List.map_cons, List.sum_cons]
  constructor
  ·intro h x hx
   rcases List.mem_cons.1 hx with rfl | hx
   ·omega
   ·exact ih.1 (by omega) x hx
  ·intro h
   have h1 := h y (by simp)
   have h2 := ih.2 (fun x hx => h x (by simp [hx]))
   omega
theorem weaker_of_sub {T : Int} {R : List S66} {hs hs' : List S60} (h : ∀ x ∈ hs', x ∈ hs) : Weaker T R hs hs' := fun p a b h0 => (miss_zero_iff T R hs' p a b).2 fun x hx => (miss_zero_iff T R hs p a b).1 h0 x (h x hx)
theorem missOf_lost (was l : List Int) (q m : Nat) (h : missOf (was.drop q) l = 0) : missOf ((was.set m (-2)).drop q) l = 0 := by
 unfold missOf at h ⊢
 rw [List.countP_eq_zero] at h ⊢
 intro k hk
 have h1 := h k hk
 rw [List.getD_eq_getElem?_getD, List.getElem?_drop, List.getElem?_set]
 rw [List.getD_eq_getElem?_getD, List.getElem?_drop] at h1
 by_cases hm : m = q + k
 ·rw [if_pos hm]
  split
  ·simp
  ·rename_i hlt
   rw [← hm, List.getElem?_eq_none (by omega)] at h1
   simpa using h1
 ·rw [if_neg hm]
  exact h1
theorem weaker_lost {T : Int} {R : List S66} {hs : List S60} (j m : Nat) (x : S60) (hx : x ∈ hs) : Weaker T R hs (changed hs j m (-2) x) := by
 intro p a b h0
 rw [miss_zero_iff] at h0 ⊢
 intro y hy
 unfold changed at hy
 rcases List.mem_or_eq_of_mem_set hy with hy | rfl
 ·exact h0 y hy
 ·exact missOf_lost _ _ _ _ (h0 x hx)
section
variable {T O L : Int} {R : List S66} {hs hs' : List S60} (hw : Weaker T R hs hs')
include hw
theorem weaker_len (p : Int) : (choices T O R hs p).length ≤ (choices T O R hs' p).length := by
 unfold choices
 rw [← List.countP_eq_length_filter, ← List.countP_eq_length_filter]
 refine List.countP_mono_left fun q _ h => ?_
 exact decide_eq_true (hw p q.1 q.2 (of_decide_eq_true h))
theorem weaker_mem (p : Int) (q : Int × Int) (h : q ∈ choices T O R hs p) : q ∈ choices T O R hs' p := by
 rw [choices_mem'] at h ⊢
 exact ⟨h.1, hw p q.1 q.2 h.2⟩
theorem weaker_can (h : canAll T O L R hs = true) : canAll T O L R hs' = true := by
 unfold canAll at h ⊢
 rw [List.all_eq_true] at h ⊢
 intro p hp
 have h1 := h p hp
 have h2 := weaker_len (O := O) hw p
 cases hc : choices T O R hs' p with
 | cons => rfl
 | nil =>
  rw [hc] at h2
  cases hd : choices T O R hs p with
  | nil => rw [hd] at h1; simp at h1
  | cons => rw [hd] at h2; simp at h2
theorem weaker_canOf (i t : Int) (h : t ∈ canOf T O R hs i) : t ∈ canOf T O R hs' i := by
 rw [canOf_mem] at h ⊢
 obtain ⟨q, hq, h1⟩ := h
 exact ⟨q, weaker_mem hw _ q hq, h1⟩
end
theorem fold_mono (f g : Int → Nat) (h : ∀ p, f p ≤ g p) : ∀ (ps : List Int) (n m : Int), 0 ≤ n → n ≤ m → ps.foldl (fun n p => min 1000000 (n * (f p : Int))) n ≤ ps.foldl (fun n p => min 1000000 (n * (g p : Int))) m
 | [], n, m, h0, hn => hn
 | p :: ps, n, m, h0, hn => by
  rw [List.foldl_cons, List.foldl_cons]
  have h1 : n * (f p : Int) ≤ m * (g p : Int) := Int.mul_le_mul hn (by have := h p; omega) (by omega) (by omega)
  have h2 : 0 ≤ n * (f p : Int) := Int.mul_nonneg h0 (by omega)
  exact fold_mono f g h ps _ _ (by omega) (by omega)
def manyV (T O L : Int) (R : List S66) (hs : List S60) : Int := if canAll T O L R hs then manyOf T O L R hs else 0
theorem manyV_pos {T O L : Int} {R : List S66} (hs : List S60) : 0 ≤ manyV T O L R hs ∧ (0 < manyV T O L R hs ↔ canAll T O L R hs = true) := by
 unfold manyV
 cases h : canAll T O L R hs
 ·simp
 ·have := (many_one h).1
  simp only [if_true, iff_true]
  omega
theorem weaker_many {T O L : Int} {R : List S66} {hs hs' : List S60} (hw : Weaker T R hs hs') : manyV T O L R hs ≤ manyV T O L R hs' := by
 cases h : canAll T O L R hs
 ·have := (manyV_pos (T := T) (O := O) (L := L) (R := R) hs').1
  unfold manyV at this ⊢
  rw [h]
  simpa using this
 ·unfold manyV
  rw [h, weaker_can hw h]
  exact fold_mono _ _ (fun p => weaker_len hw p) _ 1 1 (by omega) (by omega)
theorem same_choices {T O : Int} {R : List S66} {hs hs' : List S60} (h1 : Weaker T R hs hs') (h2 : Weaker T R hs' hs) (p : Int) : choices T O R hs p = choices T O R hs' p := by
 unfold choices
 refine List.filter_congr fun q _ => ?_
 rw [decide_eq_decide]
 exact ⟨h1 p q.1 q.2, h2 p q.1 q.2⟩
theorem same_can {T O L : Int} {R : List S66} {hs hs' : List S60} (h1 : Weaker T R hs hs') (h2 : Weaker T R hs' hs) : canAll T O L R hs = canAll T O L R hs' := by
 unfold canAll
 simp only [same_choices h1 h2]
theorem same_many {T O L : Int} {R : List S66} {hs hs' : List S60} (h1 : Weaker T R hs hs') (h2 : Weaker T R hs' hs) : manyV T O L R hs = manyV T O L R hs' := by
 unfold manyV manyOf
 rw [same_can h1 h2]
 simp only [same_choices h1 h2]
theorem same_canOf {T O : Int} {R : List S66} {hs hs' : List S60} (h1 : Weaker T R hs hs') (h2 : Weaker T R hs' hs) (i : Int) : canOf T O R hs i = canOf T O R hs' i := by
 unfold canOf
 simp only [same_choices h1 h2]
theorem Many_ok {T O L : Int} {R : List S66} {hs : List S60} (hS : okScale T O L R = true) (hH : okHeard L R hs = true) : Many T O L R hs = (manyV T O L R hs, 0) := by
 unfold Many manyV
 rw [hS, hH]
 rfl
theorem Can_is {T O L : Int} {R : List S66} {hs : List S60} (hS : okScale T O L R = true) (hH : okHeard L R hs = true) (i : Int) (h0 : 0 ≤ i) (h1 : i < L) : Can T O L R hs i = if canAll T O L R hs then (canOf T O R hs i, 0) else ([], 62) := by
 unfold Can askedErr
 rw [if_pos hS, if_pos hH, decide_eq_true h0, decide_eq_true h1]
 cases canAll T O L R hs <;> rfl
theorem ok_part {L : Int} {R : List S66} {hs hs' : List S60} (hH : okHeard L R hs = true) (h1 : 1 ≤ hs'.length) (h5 : hs'.length ≤ 5) (h : ∀ x ∈ hs', x ∈ hs) : okHeard L R hs' = true := by
 unfold okHeard at hH ⊢
 simp only [Bool.and_eq_true, decide_eq_true_eq, List.all_eq_true] at hH ⊢
 exact ⟨⟨h1, h5⟩, fun x hx => hH.2 x (h x hx)⟩
end O
end Go.Proofs.YtagkfkdoibnhfaaDoor.K
end
section
namespace Go.Proofs.YtagkfkdoibnhfaaDoor.K
open Go.RowKit Go.Proofs.YtagkfkdoibnhfaaDoorW.PrintWords Go.Proofs.YtagkfkdoibnhfaaDoorW.PrintMore Go.Proofs.YtagkfkdoibnhfaaDoor.H
namespace O
theorem canOf_len {T O L : Int} {R : List S66} (hS : okScale T O L R = true) (hs : List S60) (i : Int) : (canOf T O R hs i).length ≤ 21 := by
 obtain ⟨t1, t2, t3, t4, t5, t6, t7, t8, t9, hok⟩ := okScale_regs hS
 have hTO : T * O ≤ 21 := Int.mul_le_mul (c := 7) (d := 3) t2 t4 (by omega) (by omega)
 unfold canOf
 refine Nat.le_trans (List.length_filter_le _ _) ?_
 rw [irange_len]
 omega
section
variable (T O L : Int) (R : List S66) (hs : List S60) (t : List Int) (n : Int) (hS : okScale T O L R = true) (hL : (t.length : Int) = L) (ht : ∀ x ∈ t, 0 ≤ x ∧ x < T * O) (hT : ∀ x ∈ hs, True1 T R t x) (h1 : 1 ≤ hs.length) (h5 : hs.length ≤ 5)
include hS hL ht hT h1 h5
end
end O
end Go.Proofs.YtagkfkdoibnhfaaDoor.K
end
section
namespace Go.Proofs.YtagkfkdoibnhfaaDoor.H
open Go.RowKit Go.Proofs.YtagkfkdoibnhfaaDoorW.PrintWords Go.Proofs.YtagkfkdoibnhfaaDoorW.PrintLast Go.Proofs.YtagkfkdoibnhfaaDoorW.PrintMore
attribute [local go_sem] max2_int min2_int max_two min_two max_three min_three max_four min_four   -- for this text's walks alone
set_option linter.unusedVariables false
set_option linter.unusedSimpArgs false
end Go.Proofs.YtagkfkdoibnhfaaDoor.H
end
section
namespace Go.Proofs.YtagkfkdoibnhfaaDoor.H
open Go.RowKit Go.Proofs.YtagkfkdoibnhfaaDoorW.PrintWords Go.Proofs.YtagkfkdoibnhfaaDoorW.PrintLast Go.Proofs.YtagkfkdoibnhfaaDoorW.PrintMore
attribute [local go_sem] max2_int min2_int max_two min_two max_three min_three max_four min_four   -- for this text's walks alone
set_option linter.unusedVariables false
set_option linter.unusedSimpArgs false
end Go.Proofs.YtagkfkdoibnhfaaDoor.H
end
section
namespace Go.Proofs.YtagkfkdoibnhfaaDoor.K
open Go.RowKit Go.Proofs.YtagkfkdoibnhfaaDoor.H
theorem sits_f (a b c : Int) : saronref00_Sits.f a b c = some (decide (b ≤ a) && decide (a ≤ c)) := by
 unfold saronref00_Sits.f
 by_cases h : b ≤ a <;> simp [h]
theorem good_f (x y a b : Int) : saronref00_Good.f x y a b = some (decide (a ≤ x) && decide (x ≤ y) && decide (y ≤ b)) := by
 unfold saronref00_Good.f
 by_cases h : a ≤ x <;> by_cases h' : x ≤ y <;> simp [h, h']
end Go.Proofs.YtagkfkdoibnhfaaDoor.K
end
section
namespace Go.Proofs.YtagkfkdoibnhfaaDoor.H
open Go.RowKit Go.Proofs.YtagkfkdoibnhfaaDoorW.PrintWords Go.Proofs.YtagkfkdoibnhfaaDoorW.PrintLast Go.Proofs.YtagkfkdoibnhfaaDoorW.PrintMore
attribute [local go_sem] max2_int min2_int max_two min_two max_three min_three max_four min_four   -- for this text's walks alone
set_option linter.unusedVariables false
set_option linter.unusedSimpArgs false
end Go.Proofs.YtagkfkdoibnhfaaDoor.H
end
section
namespace Go.Proofs.YtagkfkdoibnhfaaDoor.H
open Go.RowKit Go.Proofs.YtagkfkdoibnhfaaDoorW.PrintWords Go.Proofs.YtagkfkdoibnhfaaDoorW.PrintLast Go.Proofs.YtagkfkdoibnhfaaDoorW.PrintMore
attribute [local go_sem] max2_int min2_int max_two min_two max_three min_three max_four min_four   -- for this text's walks alone
set_option linter.unusedVariables false
set_option linter.unusedSimpArgs false
end Go.Proofs.YtagkfkdoibnhfaaDoor.H
end
section
namespace Go.Proofs.YtagkfkdoibnhfaaDoor.H
open Go.RowKit Go.Proofs.YtagkfkdoibnhfaaDoorW.PrintWords Go.Proofs.YtagkfkdoibnhfaaDoorW.PrintLast Go.Proofs.YtagkfkdoibnhfaaDoorW.PrintMore
attribute [local go_sem] max2_int min2_int max_two min_two max_three min_three max_four min_four   -- for this text's walks alone
set_option linter.unusedVariables false
set_option linter.unusedSimpArgs false
end Go.Proofs.YtagkfkdoibnhfaaDoor.H
end
section
namespace Go.Proofs.YtagkfkdoibnhfaaDoor.H
open Go.RowKit Go.Proofs.YtagkfkdoibnhfaaDoorW.PrintWords Go.Proofs.YtagkfkdoibnhfaaDoorW.PrintLast Go.Proofs.YtagkfkdoibnhfaaDoorW.PrintMore
attribute [local go_sem] max2_int min2_int max_two min_two max_three min_three max_four min_four   -- for this text's walks alone
set_option linter.unusedVariables false
set_option linter.unusedSimpArgs false
end Go.Proofs.YtagkfkdoibnhfaaDoor.H
end
section
namespace Go.Proofs.YtagkfkdoibnhfaaDoor.H
open Go.RowKit Go.Proofs.YtagkfkdoibnhfaaDoorW.PrintWords Go.Proofs.YtagkfkdoibnhfaaDoorW.PrintLast Go.Proofs.YtagkfkdoibnhfaaDoorW.PrintMore
attribute [local go_sem] max2_int min2_int max_two min_two max_three min_three max_four min_four   -- for this text's walks alone
set_option linter.unusedVariables false
set_option linter.unusedSimpArgs false
open Go.Proofs.YtagkfkdoibnhfaaDoor.K
end Go.Proofs.YtagkfkdoibnhfaaDoor.H
end
section
namespace Go.Proofs.YtagkfkdoibnhfaaDoor.H
open Go.RowKit Go.Proofs.YtagkfkdoibnhfaaDoorW.PrintWords Go.Proofs.YtagkfkdoibnhfaaDoorW.PrintLast Go.Proofs.YtagkfkdoibnhfaaDoorW.PrintMore
attribute [local go_sem] max2_int min2_int max_two min_two max_three min_three max_four min_four   -- for this text's walks alone
set_option linter.unusedVariables false
set_option linter.unusedSimpArgs false
end Go.Proofs.YtagkfkdoibnhfaaDoor.H
end
section
namespace Go.Proofs.YtagkfkdoibnhfaaDoor.H
open Go.RowKit Go.Proofs.YtagkfkdoibnhfaaDoorW.PrintWords Go.Proofs.YtagkfkdoibnhfaaDoorW.PrintLast Go.Proofs.YtagkfkdoibnhfaaDoorW.PrintMore
attribute [local go_sem] max2_int min2_int max_two min_two max_three min_three max_four min_four   -- for this text's walks alone
set_option linter.unusedVariables false
set_option linter.unusedSimpArgs false
end Go.Proofs.YtagkfkdoibnhfaaDoor.H
end
section
namespace Go.Proofs.YtagkfkdoibnhfaaDoor.H
open Go.RowKit Go.Proofs.YtagkfkdoibnhfaaDoorW.PrintWords Go.Proofs.YtagkfkdoibnhfaaDoorW.PrintLast Go.Proofs.YtagkfkdoibnhfaaDoorW.PrintMore
attribute [local go_sem] max2_int min2_int max_two min_two max_three min_three max_four min_four   -- for this text's walks alone
set_option linter.unusedVariables false
set_option linter.unusedSimpArgs false
end Go.Proofs.YtagkfkdoibnhfaaDoor.H
end
section
namespace Go.Proofs.YtagkfkdoibnhfaaDoor.H
open Go.RowKit Go.Proofs.YtagkfkdoibnhfaaDoorW.PrintWords Go.Proofs.YtagkfkdoibnhfaaDoorW.PrintLast Go.Proofs.YtagkfkdoibnhfaaDoorW.PrintMore
attribute [local go_sem] max2_int min2_int max_two min_two max_three min_three max_four min_four   -- for this text's walks alone
set_option linter.unusedVariables false
set_option linter.unusedSimpArgs false
end Go.Proofs.YtagkfkdoibnhfaaDoor.H
end
section
namespace Go.Proofs.YtagkfkdoibnhfaaDoor.H
open Go.RowKit Go.Proofs.YtagkfkdoibnhfaaDoorW.PrintWords Go.Proofs.YtagkfkdoibnhfaaDoorW.PrintLast Go.Proofs.YtagkfkdoibnhfaaDoorW.PrintMore
attribute [local go_sem] max2_int min2_int max_two min_two max_three min_three max_four min_four   -- for this text's walks alone
set_option linter.unusedVariables false
set_option linter.unusedSimpArgs false
end Go.Proofs.YtagkfkdoibnhfaaDoor.H
end
section
namespace Go.Proofs.YtagkfkdoibnhfaaDoor.H
open Go.RowKit Go.Proofs.YtagkfkdoibnhfaaDoorW.PrintWords Go.Proofs.YtagkfkdoibnhfaaDoorW.PrintLast Go.Proofs.YtagkfkdoibnhfaaDoorW.PrintMore
attribute [local go_sem] max2_int min2_int max_two min_two max_three min_three max_four min_four   -- for this text's walks alone
set_option linter.unusedVariables false
set_option linter.unusedSimpArgs false
end Go.Proofs.YtagkfkdoibnhfaaDoor.H
end
section
namespace Go.Proofs.YtagkfkdoibnhfaaDoor.K
open Go.RowKit Go.Proofs.YtagkfkdoibnhfaaDoorW.PrintWords Go.Proofs.YtagkfkdoibnhfaaDoorW.PrintMore Go.Proofs.YtagkfkdoibnhfaaDoor.H
theorem rd60 (l : List S60) (i : Nat) (h : i < l.length) : rd_T60 l (i : Int) = l[i] := by
 unfold rd_T60
 simp [h]
theorem up1 (i : Nat) (h : (i : Int) < 9223372036854775807) : wrap64 ((i : Int) + 1) = ((i + 1 : Nat) : Int) := by rw [w64 (by omega) (by omega)]; simp
end Go.Proofs.YtagkfkdoibnhfaaDoor.K
end
section
namespace Go.Proofs.YtagkfkdoibnhfaaDoor.K
open Go.RowKit Go.Proofs.YtagkfkdoibnhfaaDoorW.PrintWords Go.Proofs.YtagkfkdoibnhfaaDoorW.PrintMore Go.Proofs.YtagkfkdoibnhfaaDoor.H
theorem rd_get (l : List Int) (i : Nat) : rd l (i : Int) = l.getD i 0 := by unfold rd; rw [Int.toNat_natCast]
end Go.Proofs.YtagkfkdoibnhfaaDoor.K
end
section
namespace Go.Proofs.YtagkfkdoibnhfaaDoor.H
open Go.RowKit Go.Proofs.YtagkfkdoibnhfaaDoorW.PrintWords Go.Proofs.YtagkfkdoibnhfaaDoorW.PrintLast Go.Proofs.YtagkfkdoibnhfaaDoorW.PrintMore
attribute [local go_sem] max2_int min2_int max_two min_two max_three min_three max_four min_four   -- for this text's walks alone
set_option linter.unusedVariables false
set_option linter.unusedSimpArgs false
def saronlaw06_all.l0 : Nat → List Int → List Int → Int → Option (Bool)
 | 0, _, _, _ => none
 | k + 1, x0, x1, x5 => if x5 < (x0.length : Int) then (if 0 ≤ x5 then ((saronref00_Where.f k x1 (rd x0 x5)).bind fun t658 => (if t658 < 0 then (some false) else (saronlaw06_all.l0 k x0 x1 (wrap64 (x5 + 1))))) else (none)) else (some true)
def saronlaw06_all.f (k : Nat) (l0 : List Int) (l1 : List Int) : Option (Bool) := saronlaw06_all.l0 k l0 l1 0
set_option maxHeartbeats 8000000 in
set_option maxRecDepth 100000 in
theorem saronlaw06_all.calls (k : Nat) (A0 : Option Addr) (c0 : Nat) (l0 : List Int) (A1 : Option Addr) (c1 : Nat) (l1 : List Int) (r : Bool) (w : World) (hr0 : Kd.C (Kd.int .i64) w A0 l0.length l0) (hc0 : l0.length ≤ c0) (hr1 : Kd.C (Kd.int .i64) w A1 l1.length l1) (hc1 : l1.length ≤ c1) (h : saronlaw06_all.f k l0 l1 = some r) :
  Calls Tryd.prog 46 #[.slice A0 l0.length c0, .slice A1 l1.length c1] w fun e w' => e = .returned (.bool r) ∧ Drawn0 w w' := by
 have HR0 := zh hr0
 have HC0 := zh hc0
 clear hr0 hc0
 have HR1 := zh hr1
 have HC1 := zh hc1
 clear hr1 hc1
 have H : (saronlaw06_all.l0 k l0 l1 0) = some r := h
 clear h
 have H' := zh H
 clear H
 go_enter Tryd.func46, Tryd.ntmps46
 go_wp2
 go_loopg [5] k (fun kq v5 w' => ∃ (x5_1 : Int), v5 = .int .i64 x5_1 ∧ Aside0 (saronlaw06_all.l0 kq l0 l1 x5_1 = some r) ∧ Aside0 (kq ≤ k) ∧ Drawn0 w w')
 case atStart => exact ⟨(0), ze, H', ⟨Nat.le_refl _⟩, by repeat (first | exact Drawn0.refl _ | apply Drawn0.step)⟩
 case round =>
  clear H'
  try clear c1
  try clear p2
  obtain ⟨x5_1, rfl, HA, HK1, ⟨m1, rfl⟩⟩ := hrel
  cases gk with
  | zero => exact absurd HA.out (by simp [saronlaw06_all.l0])
  | succ k1 =>
   have H := HA.out
   clear HA
   simp only [saronlaw06_all.l0] at H
   by_cases c3 : x5_1 < (l0.length : Int)
   ·rw [if_pos c3] at H
    have c3b0 : decide (x5_1 < (l0.length : Int)) = true := decide_eq_true c3
    clear c3
    by_cases c4 : 0 ≤ x5_1
    ·rw [if_pos c4] at H
     have c4b0 : decide (0 ≤ x5_1) = true := decide_eq_true c4
     clear c4
     replace H := Option.bind_eq_some_iff.mp H
     obtain ⟨t658, A50, H⟩ := H
     replace H : (if t658 < 0 then (some false) else (saronlaw06_all.l0 k1 l0 l1 (wrap64 (x5_1 + 1)))) = some r := H
     have A5 := zh A50
     clear A50
     by_cases c6 : t658 < 0
     ·rw [if_pos c6] at H
      have c6b0 : decide (t658 < 0) = true := decide_eq_true c6
      clear c6
      obtain rfl := Option.some.inj H
      have p657 : 0 ≤ (x5_1 : Int) := of_decide_eq_true zs
      have q657 : x5_1 < (l0.length : Int) := of_decide_eq_true zs
      obtain ⟨ad657, e657, hx657_0⟩ := Kd.at_int HR0.out x5_1 p657 q657
      cases e657
      replace p657 := eq_true p657
      replace q657 := eq_true q657
      go_wp2_with (first | ((with_reducible refine gate_callee (f := 43) rfl ?_); refine goesL_ (some 17) rfl rfl Tryd.func43 zk rfl #[.slice A1 l1.length c1, .int .i64 (rd l0 x5_1)] rfl zm ?_; (with_reducible refine (saronref00_Where.calls k1 _ _ l1 (rd l0 x5_1) t658 _ ?side1 ?side2 A5.out).mono ?_); (case side1 => repeat (first | exact HR1.out | (with_reducible refine Kd.C_alloc ?_ _) | (with_reducible refine Kd.C_drewN ?_ _) | (with_reducible refine Kd.C_drew ?_))); (case side2 => exact HC1.out); rintro e w' ⟨rfl, ⟨nd, rfl⟩⟩; refine ⟨_, rfl, ?_⟩))
      go_ret
      exact ⟨ze, by repeat (first | exact Drawn0.refl _ | apply Drawn0.step)⟩
     ·rw [if_neg c6] at H
      have c6b0 : decide (t658 < 0) = false := decide_eq_false c6
      clear c6
      have H' := zh H
      clear H
      have p657 : 0 ≤ (x5_1 : Int) := of_decide_eq_true zs
      have q657 : x5_1 < (l0.length : Int) := of_decide_eq_true zs
      obtain ⟨ad657, e657, hx657_0⟩ := Kd.at_int HR0.out x5_1 p657 q657
      cases e657
      replace p657 := eq_true p657
      replace q657 := eq_true q657
      go_wp2_with (first | ((with_reducible refine gate_callee (f := 43) rfl ?_); refine goesL_ (some 17) rfl rfl Tryd.func43 zk rfl #[.slice A1 l1.length c1, .int .i64 (rd l0 x5_1)] rfl zm ?_; (with_reducible refine (saronref00_Where.calls k1 _ _ l1 (rd l0 x5_1) t658 _ ?side1 ?side2 A5.out).mono ?_); (case side1 => repeat (first | exact HR1.out | (with_reducible refine Kd.C_alloc ?_ _) | (with_reducible refine Kd.C_drewN ?_ _) | (with_reducible refine Kd.C_drew ?_))); (case side2 => exact HC1.out); rintro e w' ⟨rfl, ⟨nd, rfl⟩⟩; refine ⟨_, rfl, ?_⟩))
      go_roundg k1
      case measure => have := HK1.out; omega
      case rel => exact ⟨(wrap64 (x5_1 + 1)), ze, H', ⟨by have := HK1.out; omega⟩, by repeat (first | exact Drawn0.refl _ | apply Drawn0.step)⟩
    ·rw [if_neg c4] at H
     exact absurd H (by simp)
   ·rw [if_neg c3] at H
    have c3b0 : decide (x5_1 < (l0.length : Int)) = false := decide_eq_false c3
    clear c3
    obtain rfl := Option.some.inj H
    go_wp2
    go_ret
    exact ⟨ze, by repeat (first | exact Drawn0.refl _ | apply Drawn0.step)⟩
end Go.Proofs.YtagkfkdoibnhfaaDoor.H
end
section
namespace Go.Proofs.YtagkfkdoibnhfaaDoor.H
open Go.RowKit Go.Proofs.YtagkfkdoibnhfaaDoorW.PrintWords Go.Proofs.YtagkfkdoibnhfaaDoorW.PrintLast Go.Proofs.YtagkfkdoibnhfaaDoorW.PrintMore
attribute [local go_sem] max2_int min2_int max_two min_two max_three min_three max_four min_four   -- for this text's walks alone
set_option linter.unusedVariables false
set_option linter.unusedSimpArgs false
open Go.Proofs.YtagkfkdoibnhfaaDoor.K
mutual
def saronlaw06_KernelLosing.j0 : Nat → List (S60) → Int → Int → Bool → Int → Int → Int → List (S66) → Int → Int → Int → Option (Bool)
 | 0, _, _, _, _, _, _, _, _, _, _, _ => none
 | k + 1, x1, x7, x8, x37, x184000, x184001, x184002, x184003, x185000, x185001, x185002 => if x37 = true then (if x8 = 60 then (if x7 = 0 then ((saronlaw06_works.f).bind fun t188 => (some t188)) else (some false)) else (if x8 = 61 then (if x7 = 0 then ((saronlaw06_works.f).bind fun t189 => (some t189)) else (some false)) else (some false))) else (if x8 = 0 then ((saronref00_Turn.f x185000 (x1.length : Int)).bind fun t191 => ((saronref00_Turn.f x185002 x184002).bind fun t192 => ((some (([] : List (S60)) : List (S60))).bind fun y193 => (if y193.length + x1.length < 4398046511104 then ((some (y193 ++ x1 : List (S60))).bind fun y196 => ((some (([] : List Int) : List Int)).bind fun y199 => (if 0 ≤ t191 then (if t191 < (x1.length : Int) then (if y199.length + ((rd_T60 x1 t191).f1).length < 17592186044416 then ((some (y199 ++ ((rd_T60 x1 t191).f1) : List Int)).bind fun y203 => (if (y203.length : Int) = 0 then (some false) else ((saronref00_Turn.f x185001 (y203.length : Int)).bind fun t206 => (if 0 ≤ t206 then (if t206 < (y203.length : Int) then ((saronlaw06_of.f ((rd_T60 x1 t191).f0) (y203.set (t206 : Int).toNat (-2))).bind fun bt209 => (if t191 < (y196.length : Int) then ((some (y196.set (t191 : Int).toNat (⟨bt209.1, bt209.2⟩ : S60) : List (S60))).bind fun y213 => ((kernel_Many.f x184000 x184001 x184002 x184003 y213).bind fun bt214 => ((kernel_Can.f x184000 x184001 x184002 x184003 x1 t192).bind fun bt216 => ((kernel_Can.f x184000 x184001 x184002 x184003 y213 t192).bind fun bt220 => (if bt214.2 = 0 then (if bt214.1 < x7 then (saronlaw06_KernelLosing.j1 k x1 x7 t191 t192 bt216.1 bt216.2 true x184000 x184001 x184002 x184003) else (if ((bt216.2 == 0) != (decide (x7 > 0))) = true then (saronlaw06_KernelLosing.j1 k x1 x7 t191 t192 bt216.1 bt216.2 true x184000 x184001 x184002 x184003) else (if ((bt220.2 == 0) != (decide (bt214.1 > 0))) = true then (saronlaw06_KernelLosing.j1 k x1 x7 t191 t192 bt216.1 bt216.2 true x184000 x184001 x184002 x184003) else (if bt216.2 = 0 then ((saronlaw06_all.f k bt216.1 bt220.1).bind fun t224 => (saronlaw06_KernelLosing.j1 k x1 x7 t191 t192 bt216.1 bt216.2 (!t224) x184000 x184001 x184002 x184003)) else (saronlaw06_KernelLosing.j1 k x1 x7 t191 t192 bt216.1 bt216.2 false x184000 x184001 x184002 x184003))))) else (saronlaw06_KernelLosing.j1 k x1 x7 t191 t192 bt216.1 bt216.2 true x184000 x184001 x184002 x184003)))))) else (none))) else (none)) else (none))))) else (none)) else (none)) else (none)))) else (none))))) else (if x8 = 61 then (if x7 = 0 then ((saronlaw06_works.f).bind fun t190 => (some t190)) else (some false)) else (some false)))
def saronlaw06_KernelLosing.j1 : Nat → List (S60) → Int → Int → Int → List Int → Int → Bool → Int → Int → Int → List (S66) → Option (Bool)
 | 0, _, _, _, _, _, _, _, _, _, _, _ => none
 | k + 1, x1, x7, x9, x10, x15, x16, x152, x184000, x184001, x184002, x184003 => if x152 = true then (some false) else (if (x1.length : Int) > 1 then (if 0 ≤ (wrap64 ((x1.length : Int) - 1)) then (if (wrap64 ((x1.length : Int) - 1)) ≤ (x1.length : Int) then ((kernel_Many.f x184000 x184001 x184002 x184003 (x1.take ((wrap64 ((x1.length : Int) - 1)) : Int).toNat)).bind fun bt230 => (if bt230.2 = 0 then (if bt230.1 < x7 then (some false) else (saronlaw06_KernelLosing.j2 k x1 x7 x9 x10 x15 x16 x184000 x184001 x184002 x184003)) else (some false))) else (none)) else (none)) else (saronlaw06_KernelLosing.j2 k x1 x7 x9 x10 x15 x16 x184000 x184001 x184002 x184003))
def saronlaw06_KernelLosing.j2 : Nat → List (S60) → Int → Int → Int → List Int → Int → Int → Int → Int → List (S66) → Option (Bool)
 | 0, _, _, _, _, _, _, _, _, _, _ => none
 | k + 1, x1, x7, x9, x10, x15, x16, x184000, x184001, x184002, x184003 => if (x1.length : Int) = 5 then ((saronlaw06_works.f).bind fun t232 => (some t232)) else ((some (([] : List (S60)) : List (S60))).bind fun y233 => (if y233.length + x1.length < 4398046511104 then ((some (y233 ++ x1 : List (S60))).bind fun y236 => (if 0 ≤ x9 then (if x9 < (x1.length : Int) then (if y236.length < 4398046511104 then ((some (y236 ++ [(⟨(rd_T60 x1 x9).f0, (rd_T60 x1 x9).f1⟩ : S60)] : List (S60))).bind fun y240 => ((kernel_Many.f x184000 x184001 x184002 x184003 y240).bind fun bt243 => ((kernel_Can.f x184000 x184001 x184002 x184003 y240 x10).bind fun bt245 => (if bt243.2 = 0 then (if bt243.1 = x7 then (if bt245.2 = x16 then ((saronref00_Equal.f k x15 bt245.1).bind fun t249 => (if t249 = true then ((saronlaw06_works.f).bind fun t250 => (some t250)) else (some false))) else (some false)) else (some false)) else (some false))))) else (none)) else (none)) else (none))) else (none)))
end
def saronlaw06_KernelLosing.f (k : Nat) (a0_0 : Int) (a0_1 : Int) (a0_2 : Int) (l0_3 : List (S66)) (l1 : List (S60)) (a2_0 : Int) (a2_1 : Int) (a2_2 : Int) : Option (Bool) := (kernel_Many.f a0_0 a0_1 a0_2 l0_3 l1).bind fun bt185 => ((saronlaw06_sound.f k a0_0 a0_1 a0_2 l0_3).bind fun t187 => (if t187 = true then (saronlaw06_KernelLosing.j0 k l1 bt185.1 bt185.2 ((l1.length : Int) == 0) a0_0 a0_1 a0_2 l0_3 a2_0 a2_1 a2_2) else (saronlaw06_KernelLosing.j0 k l1 bt185.1 bt185.2 true a0_0 a0_1 a0_2 l0_3 a2_0 a2_1 a2_2)))
end Go.Proofs.YtagkfkdoibnhfaaDoor.H
end
section
namespace Go.Proofs.YtagkfkdoibnhfaaDoor.K
open Go.RowKit Go.Proofs.YtagkfkdoibnhfaaDoorW.PrintWords Go.Proofs.YtagkfkdoibnhfaaDoorW.PrintMore Go.Proofs.YtagkfkdoibnhfaaDoor.H
namespace O
theorem all_l0 (a b : List Int) (ha : a.length ≤ 100) (hb : b.length ≤ 100) (h : ∀ x ∈ a, x ∈ b) : ∀ (d k i : Nat), a.length - i = d → i ≤ a.length → d + 200 ≤ k → saronlaw06_all.l0 k a b (i : Int) = some true
 | 0, k, i, hd, hi, hk => by
  obtain ⟨k, rfl⟩ : ∃ z, k = z + 1 := ⟨k - 1, by omega⟩
  simp only [saronlaw06_all.l0]
  rw [if_neg (by omega)]
 | d + 1, k, i, hd, hi, hk => by
  obtain ⟨k, rfl⟩ : ∃ z, k = z + 1 := ⟨k - 1, by omega⟩
  have hlt : i < a.length := by omega
  obtain ⟨j, hj, he⟩ := List.getElem_of_mem (h a[i] (List.getElem_mem hlt))
  have hg : rd a (i : Int) = a[i] := by rw [rd_get, List.getD_eq_getElem?_getD, List.getElem?_eq_getElem hlt, Option.getD_some]
  obtain ⟨v, hv, hv0⟩ := where_mem a[i] b (by omega) b.length k 0 (by omega) (by omega) ⟨j, by omega, hj, by rw [List.getD_eq_getElem?_getD, List.getElem?_eq_getElem hj, Option.getD_some]; exact he⟩
  have hv' : saronref00_Where.f k b a[i] = some v := hv
  simp only [saronlaw06_all.l0]
  rw [if_pos (by omega), if_pos (by omega), hg, hv', Option.bind_some, if_neg (by omega), up1 i (by omega)]
  exact all_l0 a b ha hb h d k (i + 1) (by omega) (by omega) (by omega)
theorem all_f (a b : List Int) (ha : a.length ≤ 100) (hb : b.length ≤ 100) (h : ∀ x ∈ a, x ∈ b) (k : Nat) (hk : 300 ≤ k) : saronlaw06_all.f k a b = some true := all_l0 a b ha hb h a.length k 0 (by omega) (by omega) (by omega)
section
variable (T O L : Int) (R : List S66) (hs : List S60) (place : Int) (j : Nat) (hS : okScale T O L R = true) (hH : okHeard L R hs = true) (hj : j < hs.length) (h0 : 0 ≤ place) (h1 : place < L)
include hS hH hj h0 h1
theorem losing_j2 (k : Nat) (hk : 200 ≤ k) : saronlaw06_KernelLosing.j2 k hs (manyV T O L R hs) (j : Int) place (Can T O L R hs place).1 (Can T O L R hs place).2 T O L R = some true := by
 obtain ⟨k, rfl⟩ : ∃ z, k = z + 1 := ⟨k - 1, by omega⟩
 have hh1 : 1 ≤ hs.length ∧ hs.length ≤ 5 := by
  unfold okHeard at hH
  simp only [Bool.and_eq_true, decide_eq_true_eq] at hH
  exact hH.1
 simp only [saronlaw06_KernelLosing.j2]
 by_cases h5 : (hs.length : Int) = 5
 ·rw [if_pos h5]
  rfl
 ·have e60 : rd_T60 hs (j : Int) = hs[j] := rd60 hs j hj
  have hmem : ∀ x ∈ hs ++ [hs[j]], x ∈ hs := fun x hx => by
   rcases List.mem_append.1 hx with hx | hx
   ·exact hx
   ·rw [List.mem_singleton] at hx; subst hx; exact List.getElem_mem hj
  have hok : okHeard L R (hs ++ [hs[j]]) = true := ok_part hH (by simp) (by simp; omega) hmem
  have w1 : Weaker T R hs (hs ++ [hs[j]]) := weaker_of_sub hmem
  have w2 : Weaker T R (hs ++ [hs[j]]) hs := weaker_of_sub fun x hx => List.mem_append.2 (.inl hx)
  have hcl := canOf_len hS hs place
  rw [if_neg h5, Option.bind_some, if_pos (by simp; omega), Option.bind_some, List.nil_append, if_pos (by omega), if_pos (by omega), if_pos (by omega), Option.bind_some, e60]
  unfold kernel_Many.f kernel_Can.f
  show ((some (Many T O L R (hs ++ [hs[j]]))).bind fun bt243 => (some (Can T O L R (hs ++ [hs[j]]) place)).bind fun bt245 => _) = _
  have eC : Can T O L R (hs ++ [hs[j]]) place = Can T O L R hs place := by rw [Can_is hS hok place h0 h1, Can_is hS hH place h0 h1, ← same_can w1 w2, ← same_canOf w1 w2]
  have hlen : (Can T O L R hs place).1.length ≤ 21 := by
   rw [Can_is hS hH place h0 h1]
   split
   ·exact hcl
   ·simp
  rw [Option.bind_some, Option.bind_some, Many_ok hS hok, eC, ← same_many w1 w2, if_pos rfl, if_pos rfl, if_pos rfl, equal_self' _ (by omega) k (by omega), Option.bind_some, if_pos rfl]
  rfl
theorem losing_j1 (k : Nat) (hk : 300 ≤ k) : saronlaw06_KernelLosing.j1 k hs (manyV T O L R hs) (j : Int) place (Can T O L R hs place).1 (Can T O L R hs place).2 false T O L R = some true := by
 obtain ⟨k, rfl⟩ : ∃ z, k = z + 1 := ⟨k - 1, by omega⟩
 have hh1 : 1 ≤ hs.length ∧ hs.length ≤ 5 := by
  unfold okHeard at hH
  simp only [Bool.and_eq_true, decide_eq_true_eq] at hH
  exact hH.1
 simp only [saronlaw06_KernelLosing.j1]
 have hend := losing_j2 T O L R hs place j hS hH hj h0 h1 k (by omega)
 by_cases h2 : (hs.length : Int) > 1
 ·have hmem : ∀ x ∈ hs.take (hs.length - 1), x ∈ hs := fun x hx => List.mem_of_mem_take hx
  have hok : okHeard L R (hs.take (hs.length - 1)) = true := ok_part hH (by rw [List.length_take]; omega) (by rw [List.length_take]; omega) hmem
  have hle := weaker_many (T := T) (O := O) (L := L) (weaker_of_sub (T := T) (R := R) hmem)
  have ew : wrap64 ((hs.length : Int) - 1) = ((hs.length - 1 : Nat) : Int) := by rw [w64 (by omega) (by omega)]; omega
  rw [if_neg (by simp), if_pos h2, ew, if_pos (by omega), if_pos (by omega), Int.toNat_natCast]
  unfold kernel_Many.f
  rw [Option.bind_some, Many_ok hS hok, if_pos rfl, if_neg (by show ¬ manyV T O L R (hs.take (hs.length - 1)) < manyV T O L R hs; omega)]
  exact hend
 ·rw [if_neg (by simp), if_neg h2]
  exact hend
end
theorem losing_law (T O L : Int) (R : List S66) (hs : List S60) (n0 n1 n2 : Int) (hR : R.length ≤ 9223372036854775807) (k : Nat) (hk : 2 * R.length + 1000 ≤ k) : saronlaw06_KernelLosing.f k T O L R hs n0 n1 n2 = some true := by
 unfold saronlaw06_KernelLosing.f
 unfold kernel_Many.f
 rw [Option.bind_some, sound_f T O L R hR k (by omega), Option.bind_some]
 obtain ⟨k, rfl⟩ : ∃ z, k = z + 1 := ⟨k - 1, by omega⟩
 cases hS : okScale T O L R
 ·have e2 : Many T O L R hs = (0, 60) := by unfold Many; rw [hS]; rfl
  rw [e2, if_neg (by simp)]
  rw [saronlaw06_KernelLosing.j0, if_pos rfl, if_pos rfl, if_pos rfl]
  rfl
 cases hH : okHeard L R hs
 ·have e2 : Many T O L R hs = (0, 61) := by unfold Many; rw [hS, hH]; rfl
  rw [e2, if_pos rfl]
  rw [saronlaw06_KernelLosing.j0]
  cases ((hs.length : Int) == 0)
  ·rw [if_neg (by simp), if_neg (by decide), if_pos rfl, if_pos rfl]
   rfl
  ·rw [if_pos rfl, if_neg (by decide), if_pos rfl, if_pos rfl]
   rfl
 obtain ⟨t1, t2, t3, t4, t5, t6, t7, t8, t9, hok⟩ := okScale_regs hS
 have hh1 : 1 ≤ hs.length ∧ hs.length ≤ 5 := by
  have h := hH
  unfold okHeard at h
  simp only [Bool.and_eq_true, decide_eq_true_eq] at h
  exact h.1
 have hz : ((hs.length : Int) == 0) = false := beq_eq_false_iff_ne.2 (by omega)
 rw [Many_ok hS hH, if_pos rfl, hz]
 rw [saronlaw06_KernelLosing.j0]
 have r1 := Int.emod_nonneg n0 (show (hs.length : Int) ≠ 0 by omega)
 have r2 := Int.emod_lt_of_pos n0 (show 0 < (hs.length : Int) by omega)
 have r3 := Int.emod_nonneg n2 (show L ≠ 0 by omega)
 have r4 := Int.emod_lt_of_pos n2 (show 0 < L by omega)
 rw [if_neg (by simp), if_pos rfl, turn_any n0 _ (by omega) (by omega), Option.bind_some, turn_any n2 _ (by omega) (by omega), Option.bind_some]
 generalize n0 % (hs.length : Int) = kk at *
 generalize n2 % L = place at *
 obtain ⟨j, rfl⟩ : ∃ j : Nat, kk = (j : Int) := ⟨kk.toNat, by omega⟩
 have hj : j < hs.length := by omega
 have e60 : rd_T60 hs (j : Int) = hs[j] := rd60 hs j hj
 obtain ⟨p1, p2⟩ := heard_pos hS hH j hj
 rw [Option.bind_some, if_pos (by simp; omega), Option.bind_some, List.nil_append, Option.bind_some, if_pos r1, if_pos r2, e60, if_pos (by simp; omega), Option.bind_some, List.nil_append, if_neg (by omega)]
 have s1 := Int.emod_nonneg n1 (show (hs[j].f1.length : Int) ≠ 0 by omega)
 have s2 := Int.emod_lt_of_pos n1 (show 0 < (hs[j].f1.length : Int) by omega)
 rw [turn_any n1 _ (by omega) (by omega), Option.bind_some, if_pos s1, if_pos s2]
 generalize n1 % (hs[j].f1.length : Int) = mm at *
 obtain ⟨m, rfl⟩ : ∃ m : Nat, mm = (m : Int) := ⟨mm.toNat, by omega⟩
 have hg : hs[j]? = some hs[j] := List.getElem?_eq_getElem hj
 have hch : okHeard L R (changed hs j m (-2) hs[j]) = true := ok_changed hH j m (-2) (by omega) (by omega) hs[j] hg
 have hw : Weaker T R hs (changed hs j m (-2) hs[j]) := weaker_lost j m hs[j] (List.getElem_mem hj)
 have hmany := weaker_many (O := O) (L := L) hw
 unfold saronlaw06_of.f kernel_Can.f
 rw [Option.bind_some, if_pos r2, Option.bind_some, Int.toNat_natCast, Int.toNat_natCast]
 show ((some (Many T O L R (changed hs j m (-2) hs[j]))).bind fun bt214 => (some (Can T O L R hs place)).bind fun bt216 => (some (Can T O L R (changed hs j m (-2) hs[j]) place)).bind fun bt220 => _) = _
 rw [Option.bind_some, Option.bind_some, Option.bind_some, Many_ok hS hch, if_pos rfl, if_neg (by show ¬ manyV T O L R (changed hs j m (-2) hs[j]) < manyV T O L R hs; omega)]
 have hend := losing_j1 T O L R hs place j hS hH hj r3 r4 k (by omega)
 have c1 := Can_is hS hH place r3 r4
 have c2 := Can_is hS hch place r3 r4
 have q1 := (manyV_pos (T := T) (O := O) (L := L) (R := R) hs).2
 have q2 := (manyV_pos (T := T) (O := O) (L := L) (R := R) (changed hs j m (-2) hs[j])).2
 have b1 : (((Can T O L R hs place).2 == 0) != decide (manyV T O L R hs > 0)) = false := by
  rw [c1]
  cases hC : canAll T O L R hs
  ·rw [hC] at q1
   rw [decide_eq_false (by simpa using q1)]
   rfl
  ·rw [decide_eq_true (q1.2 hC)]
   rfl
 have b2 : (((Can T O L R (changed hs j m (-2) hs[j]) place).2 == 0) != decide (manyV T O L R (changed hs j m (-2) hs[j]) > 0)) = false := by
  rw [c2]
  cases hC : canAll T O L R (changed hs j m (-2) hs[j])
  ·rw [hC] at q2
   rw [decide_eq_false (by simpa using q2)]
   rfl
  ·rw [decide_eq_true (q2.2 hC)]
   rfl
 rw [b1, if_neg (by simp), b2, if_neg (by simp)]
 split
 ·rename_i he
  have hC : canAll T O L R hs = true := by
   cases hC : canAll T O L R hs
   ·rw [c1, hC] at he
    simp at he
   ·rfl
  have hC2 := weaker_can hw hC
  have l1 := canOf_len hS hs place
  have l2 := canOf_len hS (changed hs j m (-2) hs[j]) place
  have ha : saronlaw06_all.f k (Can T O L R hs place).1 (Can T O L R (changed hs j m (-2) hs[j]) place).1 = some true := by
   rw [c1, c2, hC, hC2]
   exact all_f _ _ (by show (canOf T O R hs place).length ≤ 100; omega) (by show (canOf T O R (changed hs j m (-2) hs[j]) place).length ≤ 100; omega) (fun x hx => weaker_canOf hw place x hx) k (by omega)
  rw [ha, Option.bind_some]
  exact hend
 ·exact hend
end O
end Go.Proofs.YtagkfkdoibnhfaaDoor.K
end
section
namespace Go.Proofs.YtagkfkdoibnhfaaDoor.K
open Go.RowKit Go.Proofs.YtagkfkdoibnhfaaDoorW.PrintWords Go.Proofs.YtagkfkdoibnhfaaDoor.H
theorem view60 {w : World} {A : Option Addr} {xs : List S60} {c e base : Nat} (hC : Kd.C k60 w A xs.length xs) (hc : xs.length ≤ c) : Kd.V k60 e w base (fun _ => True) (.slice A xs.length c) xs := by
 refine Kd.V_mk hc ?_
 intro W' hW
 have hle : w.heap.size ≤ W'.heap.size := by
  rcases Nat.lt_or_ge W'.heap.size w.heap.size with h | h
  ·exact absurd (heap_lt (hW W'.heap.size trivial h) h) (Nat.lt_irrefl _)
  ·exact h
 have h2 : Kd.C k60 { w with heap := W'.heap } A xs.length xs := Kd.C_below hC ⟨rfl, rfl, rfl, hle, fun k hk => hW k trivial hk⟩
 exact h2
end Go.Proofs.YtagkfkdoibnhfaaDoor.K
end
section
namespace Go.Proofs.YtagkfkdoibnhfaaDoor.H
open Go.RowKit Go.Proofs.YtagkfkdoibnhfaaDoorW.PrintWords Go.Proofs.YtagkfkdoibnhfaaDoorW.PrintLast Go.Proofs.YtagkfkdoibnhfaaDoorW.PrintMore
structure Since (w wq X : World) : Prop where
 size : wq.heap.size ≤ X.heap.size
 same : ∀ k, k < wq.heap.size → X.heap[k]? = wq.heap[k]?
 below : Below w.heap.size w X
section
variable {w wq X X' : World} {row : Option Nat} {OK : Nat → Prop} {lo hi : Nat} {vL : Value} {x : S60}
theorem Since.refl (hB : Below w.heap.size w wq) : Since w wq wq := ⟨Nat.le_refl _, fun _ _ => rfl, hB⟩
theorem Since.step (h : Since w wq X) (hb : Below w.heap.size w X') (hg : X.grownBy X' row) (hr : ∀ k, row = some k → wq.heap.size ≤ k) : Since w wq X' :=
 ⟨Nat.le_trans h.size hg.size, fun k hk => (hg.block k (Nat.lt_of_lt_of_le hk h.size) (fun e => Nat.not_lt.2 (hr k e.symm) hk)).trans (h.same k hk), hb⟩
theorem Since.V {α : Type} {d : Kd α} {e base : Nat} {ok : Nat → Prop} {v : Value} {xs : List α} (h : Since w wq X) (hv : Kd.V d e wq base ok v xs) : Kd.V d e X base (fun k => ok k ∧ k < wq.heap.size) v xs := Kd.V_step (Kd.V_bound hv) (fun k _ hlt => h.same k hlt)
theorem Since.blk {g : Nat} {o : Obj} (h : Since w wq X) (hb : wq.heap[g]? = some o) : X.heap[g]? = some o := (h.same g (blk_lt hb)).trans hb
theorem Since.cell {a : Addr} {v : Value} (h : Since w wq X) (hc : wq.cell? a = some v) : X.cell? a = some v := (World.cell?_of_block (h.same a.block (World.block_lt_of_cell? wq a hc))).trans hc
structure Lit (w wq X : World) (OK : Nat → Prop) (vL : Value) (x : S60) (lo hi : Nat) : Prop where
 v : Kd.V k60 60 X w.heap.size (fun k => (OK k ∧ k < wq.heap.size) ∨ (lo ≤ k ∧ k < hi)) vL [x]
 lo_le : wq.heap.size ≤ lo
 hi_le : hi ≤ X.heap.size
theorem Lit.mk' (hN : Kd.N k60 60 X' w.heap.size (fun k => (OK k ∧ k < wq.heap.size) ∨ X.heap.size ≤ k) vL [x]) (hs : wq.heap.size ≤ X.heap.size) : Lit w wq X' OK vL x X.heap.size X'.heap.size :=
 ⟨Kd.V_mono (Kd.V_bound (Kd.N_V hN)) (fun k hk => hk.1.elim .inl (fun h => .inr ⟨h, hk.2⟩)), hs, Nat.le_refl _⟩
theorem Lit.step (h : Lit w wq X OK vL x lo hi) (hg : X.grownBy X' row) (hr : ∀ k, row = some k → wq.heap.size ≤ k ∧ (k < lo ∨ hi ≤ k)) : Lit w wq X' OK vL x lo hi :=
 ⟨Kd.V_step h.v (fun k hk hlt => hg.block k hlt (fun e => by have := hr k e.symm; rcases hk with hk | hk <;> omega)), h.lo_le, Nat.le_trans h.hi_le hg.size⟩
theorem N_quiet {α : Type} {d : Kd α} {e base : Nat} {ok : Nat → Prop} {v : Value} {xs : List α} (h : Kd.N d e X base ok v xs) (hg : X.grownBy X' none) : Kd.N d e X' base ok v xs :=
 Kd.N_mono (Kd.N_step (Kd.N_bound h) (fun k _ hlt => hg.block k hlt (by simp))) (fun _ hk => hk.1)
theorem own_new {v1 : Value} (hs : wq.heap.size ≤ X.heap.size) (hn : ∃ b, v1.ownBlock = some b ∧ X.heap.size ≤ b) : ∀ k, v1.ownBlock = some k → wq.heap.size ≤ k := fun k e => by
 obtain ⟨b, e1, e2⟩ := hn
 rw [e] at e1
 injection e1 with e1
 omega
theorem own_grown {v v1 : Value} (hs : wq.heap.size ≤ X.heap.size) (ho : ∀ k, v.ownBlock = some k → wq.heap.size ≤ k) (hat : v1.ownBlock = v.ownBlock ∨ ∃ b, v1.ownBlock = some b ∧ X.heap.size ≤ b) : ∀ k, v1.ownBlock = some k → wq.heap.size ≤ k := fun k e => by
 rcases hat with h | h
 ·exact ho k (h ▸ e)
 ·exact own_new hs h k e
theorem apart_new {v1 : Value} (hh : hi ≤ X.heap.size) (hn : ∃ b, v1.ownBlock = some b ∧ X.heap.size ≤ b) : ∀ k, v1.ownBlock = some k → k < lo ∨ hi ≤ k := fun k e => by
 obtain ⟨b, e1, e2⟩ := hn
 rw [e] at e1
 injection e1 with e1
 omega
theorem apart_grown {v v1 : Value} (hh : hi ≤ X.heap.size) (ho : ∀ k, v.ownBlock = some k → k < lo ∨ hi ≤ k) (hat : v1.ownBlock = v.ownBlock ∨ ∃ b, v1.ownBlock = some b ∧ X.heap.size ≤ b) : ∀ k, v1.ownBlock = some k → k < lo ∨ hi ≤ k := fun k e => by
 rcases hat with h | h
 ·exact ho k (h ▸ e)
 ·exact apart_new hh h k e
theorem Lit.told {v : Value} (h : Lit w wq X OK vL x lo hi) (hp : ∀ k, v.ownBlock = some k → k < lo ∨ hi ≤ k) : Kd.V k60 60 X w.heap.size (fun k => (OK k ∧ k < wq.heap.size) ∨ (wq.heap.size ≤ k ∧ some k ≠ v.ownBlock)) vL [x] :=
 Kd.V_mono h.v (fun k hk => hk.elim .inl (fun g => .inr ⟨Nat.le_trans h.lo_le g.1, fun e => by have := hp k e.symm; omega⟩))
end
end Go.Proofs.YtagkfkdoibnhfaaDoor.H
end
