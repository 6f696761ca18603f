/- KernelWrongly: for every scale, anything heard and any numbers that choose the kernel and the strokes the law returns true, and each argument reads afterwards as it read before. Condition: when the call begins the package's table of rules reads as the program's text lays it; the card ties that to the text. -/
import Derived.ArgAppend
import Derived.Below
import Derived.BigQuiet
import Derived.ChangeKeysEq
import Derived.Deep.AppendLies
import Derived.Deep.CutBlock
import Derived.Deep.DeepCutAuto
import Derived.Deep.Draws
import Derived.Deep.LoopGhost
import Derived.Deep.OwnRows
import Derived.Deep.QuietTactic
import Derived.Deep.RegionHeld3
import Derived.KernelRfl
import Derived.Laws.BitsLemmas
import Derived.Laws.BytesArg
import Derived.Laws.IdiomCopy
import Derived.Laws.MakeOwn
import Derived.Laws.OwnMore
import Derived.Laws.Rows
import Derived.Laws.Slices
import Derived.Lib.AppendStr
import Derived.Lib.ConvBytes
import Derived.Maps.AppendAt
import Derived.OrdersHeld
import Derived.OwnWalk
import Derived.RowKit
import Derived.RowKit3
import Derived.Tactics
import Derived.WalkKit
import Derived.WideLaws
import Derived.Test.YtagkfkdoibnhfaaDoorProg
import Derived.Test.YtagkfkdoibnhfaaDoorZB1
import Derived.Test.YtagkfkdoibnhfaaDoorZB2
import Derived.Test.YtagkfkdoibnhfaaDoorZB4
set_option linter.all false
namespace Go.Proofs
theorem dWr1 {p : Prop} (h : p := by repeat (first | (with_reducible exact HR747_1.out) | (with_reducible refine Kd.C_alloc ?_ _) | (with_reducible refine Kd.C_drewN ?_ _) | (with_reducible refine Kd.C_drew ?_) | exact HR747_1.out)) : p := h
theorem dWr2 {p : Prop} (h : p := by (with_reducible repeat (first | apply Kd.V_alloc | apply Kd.V_drewN | apply Kd.V_drew)); exact Kd.V_mono HO_1.out (fun _ hk => ⟨⟨hk.1, ⟨hk.2.2.2, hk.2.2.1⟩⟩, hk.2.1⟩)) : p := h
theorem dWr3 {p : Prop} (h : p := by first | exact q747 | exact of_decide_eq_true zs | (have e_ := (Kd.V_reads' HO_1.out).1; omega)) : p := h
end Go.Proofs
section
set_option linter.unusedVariables false
set_option linter.unusedSimpArgs false
namespace Go.Proofs.YtagkfkdoibnhfaaDoorW.PrintWords
open Go.RowKit
section
variable {P : Program} {ops : Array Oper} {o : Oper} {a : Act} {Q : Exit → Act → World → Prop} {K : Act → World → Prop}
theorem step_append_cells {w0 W : World} (base : Nat) (hw : Region.wanted o (yielded ops a.tmps) = true) (s x : Operand) (t e : TypeId) (z : Value) (size bytes : Nat)
  (ho : o.op = .call { callee := .builtin .append, args := #[s, x], argTypes := #[t, t] })
  (ht : P.underlying t = some (.slice e)) (hinfo : (P.info? e).map (fun i => (i.zero, i.size, i.bytes)) = some (some z, size, bytes)) (hz : z.cells.size = size) (hs0 : 0 < size) (hb0 : 0 < bytes)
  (v : Value) (n : Nat) (xs ys : List Value) (hs : a.eval s = v) (hx : a.eval x = .slice (some ⟨W.heap.size, 0, none⟩) 1 1) (hys : ys.length = size) (h1 : ∀ u ∈ ys, u.oneCell' = true)
  (HO : W.ownsRow base e size v n xs) (HB : Below base w0 W) (hbase : base ≤ W.heap.size) (hl : (n + 1) * bytes ≤ 140737488355328)
  (h : ∀ v1 w1, w1.ownsRow base e size v1 (n + 1) (xs ++ ys) → Below base w0 w1 → W.grownBy w1 v.ownBlock → (v1.ownBlock = v.ownBlock ∨ ∃ b, v1.ownBlock = some b ∧ W.heap.size ≤ b) → K (a.put o.dst v1) w1) :
  if Region.wanted o (yielded ops a.tmps) = true then Oper.wp P o a (W.alloc (.cells ys.toArray e)) K Q else K (a.put o.dst undef) (W.alloc (.cells ys.toArray e)) := by
 obtain ⟨i0, hi, hzz⟩ := Option.map_eq_some_iff.1 hinfo
 simp only [Prod.mk.injEq] at hzz
 obtain ⟨hz0, hz1, hz2⟩ := hzz
 have hlen : n + 1 ≤ 140737488355328 := Nat.le_trans (Nat.le_mul_of_pos_right _ hb0) hl
 rw [if_pos hw]
 obtain ⟨v1, w1, hr, hown, hg, _, hat⟩ := run_append_own_at (P := P) (W.alloc (.cells ys.toArray e)) base t o.type e i0 z size bytes ht hi hz0 hz1 hz2 hz hs0 v n xs (HO.alloc _) ⟨W.heap.size, 0, none⟩ 1 1 ys (by rw [hys]; simp)
  (by simpa using World.news_of_block (cs := ys.toArray) (t := e) (fr := (0, 0)) (heap_alloc_new W (.cells ys.toArray e))) h1 (by simp only [maxLen]; omega) hl (by simp; omega)
 unfold Oper.wp execOp
 simp only [ho, resolve, invoke, builtin, Sem.run_bind, Sem.run_pure, Result.andThen_ok, List.map_toArray, List.map_cons, List.map_nil, hs, hx, hr]
 refine h v1 w1 hown ((HB.alloc hbase _).grown hg (by simp; omega) (own_base HO)) (World.grownBy.trans (World.grownBy_alloc W _ _) hg) ?_
 rcases hat with hat | hat
 ·exact .inl hat
 ·exact .inr ⟨_, hat, by simp⟩
end
namespace Kd
section
variable {P : Program} {ops : Array Oper} {o : Oper} {a : Act} {Q : Exit → Act → World → Prop} {Kc : Act → World → Prop} {α : Type}
theorem R_append_step (d : Kd α) {w0 W : World} (base : Nat) (hw : Region.wanted o (yielded ops a.tmps) = true) (s x : Operand) (t e : TypeId) (z : Value) (bytes : Nat)
  (ho : o.op = .call { callee := .builtin .append, args := #[s, x], argTypes := #[t, t] })
  (ht : P.underlying t = some (.slice e)) (hinfo : (P.info? e).map (fun i => (i.zero, i.size, i.bytes)) = some (some z, d.sz, bytes)) (hz : z.cells.size = d.sz) (hs0 : 0 < d.sz) (hb0 : 0 < bytes)
  (v : Value) (xs : List α) (p : α) (cs : List Value) (ok okp : Nat → Prop) (hs : a.eval s = v) (hx : a.eval x = .slice (some ⟨W.heap.size, 0, none⟩) 1 1) (hp : d.M W base okp p cs) (hokp : ∀ k, okp k → ok k ∧ some k ≠ v.ownBlock) (hfresh : ∀ k, W.heap.size ≤ k → ok k)
  (HO : d.R e W base ok v xs) (HB : Below base w0 W) (hbase : base ≤ W.heap.size) (hl : (xs.length + 1) * bytes ≤ 140737488355328)
  (h : ∀ v1 w1, d.R e w1 base ok v1 (xs ++ [p]) → Below base w0 w1 → W.grownBy w1 v.ownBlock → (v1.ownBlock = v.ownBlock ∨ ∃ b, v1.ownBlock = some b ∧ W.heap.size ≤ b) → Kc (a.put o.dst v1) w1) :
  if Region.wanted o (yielded ops a.tmps) = true then Oper.wp P o a (W.alloc (.cells cs.toArray e)) Kc Q else Kc (a.put o.dst undef) (W.alloc (.cells cs.toArray e)) := by
 obtain ⟨h0, inner, hown, hr⟩ := HO
 refine step_append_cells base hw s x t e z d.sz bytes ho ht hinfo hz hs0 hb0 v xs.length inner cs hs hx (d.K_len (d.K_of_M hp)) (d.K_one (d.K_of_M hp)) hown HB hbase hl ?_
 intro v1 w1 hown1 hb1 hg1 hat1
 exact h v1 w1 (R_appended h0 hr hp hokp hfresh hown1 hg1 hat1) hb1 hg1 hat1
end
end Kd
namespace Kd
section
variable {α β : Type} {d : Kd α} {d' : Kd β} {e e' : Nat} {w w1 W : World} {base b b' : Nat} {ok ok' okv oku : Nat → Prop} {v u : Value} {xs : List α} {ys : List β}
theorem C_drew {A : Option Addr} {n : Nat} (h : d.C w A n xs) : d.C w.drew A n xs := C_below h (below_drew (Below.refl _ _))
end
end Kd
theorem seg_get {α : Type} (a seg : List α) (o : Nat) (h : o + seg.length ≤ a.length) (q : Nat) :
  (a.take o ++ seg ++ a.drop (o + seg.length))[q]? = if q < o then a[q]? else if q < o + seg.length then seg[q - o]? else a[q]? := by
 have hl : (a.take o).length = o := by rw [List.length_take]; omega
 rw [List.append_assoc]
 by_cases h1 : q < o
 ·rw [if_pos h1, List.getElem?_append_left (by omega), List.getElem?_take, if_pos h1]
 ·rw [if_neg h1, List.getElem?_append_right (by omega), hl]
  by_cases h2 : q < o + seg.length
  ·rw [if_pos h2, List.getElem?_append_left (by omega)]
  ·rw [if_neg h2, List.getElem?_append_right (by omega), List.getElem?_drop]
   congr 1
   omega
namespace Kd
section
variable {α : Type} {d : Kd α} {e base g n cap : Nat} {ok okp : Nat → Prop} {W : World} {xs : List α}
theorem R_seg (h : d.R e W base ok (.slice (some ⟨g, 0, none⟩) n cap) xs) (i : Int) (h0 : 0 ≤ i) (h1 : i < n) {c seg : List Value} {j : Nat} (hcl : c.length = d.sz) (hcc : ∀ j u, c[j]? = some u → W.cell? ⟨g, i.toNat * d.sz + j, none⟩ = some u)
  (hj : j + seg.length ≤ d.sz) {x' : α} (hM : d.M W base okp x' (c.take j ++ seg ++ c.drop (j + seg.length))) (hokp : ∀ k, okp k → ok k ∧ k ≠ g) :
  d.R e (W.setCells g (i.toNat * d.sz + j) seg) base ok (.slice (some ⟨g, 0, none⟩) n cap) (xs.set i.toNat x') ∧ W.grownBy (W.setCells g (i.toNat * d.sz + j) seg) (some g) := by
 obtain ⟨hn, hnc, _⟩ := R_reads' h
 obtain ⟨hok, inner, ho, hr⟩ := h
 have hil : i.toNat < xs.length := by omega
 have hseg : i.toNat * d.sz + d.sz ≤ inner.length := by rw [hr.1, ← Nat.succ_mul]; exact Nat.mul_le_mul_right _ hil
 have hin : inner.length = n * d.sz := by rw [hr.1, hn]
 obtain ⟨ho1, ho2⟩ := ho
 rcases ho2 with ⟨hv, _⟩ | ⟨g', cap', cur, hv, hb, hh, hnc', hcm, hcs, ht⟩
 ·cases hv
 injection hv with ha _ hc
 injection ha with ha
 injection ha with hg
 subst hg; subst hc
 have hfit : i.toNat * d.sz + j + seg.length ≤ cur.size := by
  have : n * d.sz ≤ cap * d.sz := Nat.mul_le_mul_right _ hnc
  omega
 obtain ⟨cur', h3, h4, h5⟩ := setCells_row seg (i.toNat * d.sz + j) W cur hh hfit
 obtain ⟨s1, s2, s3, s4⟩ := setCells_same g seg (i.toNat * d.sz + j) W
 have hfar : ∀ k, k ≠ g → (W.setCells g (i.toNat * d.sz + j) seg).heap[k]? = W.heap[k]? := fun k hk => setCells_far seg _ k hk
 have hcin : ∀ q, q < d.sz → c[q]? = inner[i.toNat * d.sz + q]? := by
  intro q hq
  have hq' : q < c.length := by omega
  have h6 := hcc q _ (List.getElem?_eq_getElem hq')
  rw [cell_of_row W g _ cur e (0, 0) hh] at h6
  rw [List.getElem?_eq_getElem hq', ← h6, ← ht, List.getElem?_take, if_pos (by rw [← hn]; omega), Array.getElem?_toList]
 refine ⟨⟨hok, inner.take (i.toNat * d.sz + j) ++ seg ++ inner.drop (i.toNat * d.sz + j + seg.length), ⟨?_, .inr ⟨g, cap, cur', by rw [List.length_set, hn], hb, h3, by rw [List.length_set, ← hn]; exact hnc, hcm, by rw [h4, hcs], ?_⟩⟩, ?_⟩,
  ⟨s1, s2, s3, by rw [s4]; exact Nat.le_refl _, fun k _ hk => hfar k (fun he => hk (by rw [he]))⟩⟩
 ·rw [List.length_set]
  simp only [List.length_append, List.length_take, List.length_drop]
  rw [hr.1] at hseg ⊢
  omega
 ·rw [List.length_set, ← hn]
  apply List.ext_getElem?
  intro q
  rw [List.getElem?_take, h5]
  rw [seg_get cur.toList seg (i.toNat * d.sz + j) (by rw [Array.length_toList]; omega) q, seg_get inner seg (i.toNat * d.sz + j) (by omega) q]
  have hcur : ∀ q, q < n * d.sz → cur.toList[q]? = inner[q]? := by
   intro q hq
   rw [← ht, List.getElem?_take, if_pos (by rw [← hn]; exact hq)]
  by_cases hq : q < n * d.sz
  ·rw [if_pos hq, hcur q hq]
  ·rw [if_neg hq, if_neg (by omega), if_neg (by omega), List.getElem?_eq_none (by omega)]
 ·refine ⟨?_, fun m p hm => ?_⟩
  ·rw [List.length_set]
   simp only [List.length_append, List.length_take, List.length_drop]
   rw [hr.1] at hseg ⊢
   omega
  ·have hml : m < xs.length := by
    have := (List.getElem?_eq_some_iff.1 hm).1
    rwa [List.length_set] at this
   have hmfit : m * d.sz + d.sz ≤ inner.length := by rw [hr.1, ← Nat.succ_mul]; exact Nat.mul_le_mul_right _ hml
   have hgo : some g = (Value.slice (some ⟨g, 0, none⟩) n cap).ownBlock := by simp [Value.ownBlock]
   by_cases hmi : m = i.toNat
   ·subst hmi
    rw [List.getElem?_set_self (by omega)] at hm
    injection hm with hm
    subst hm
    have hcells : ((inner.take (i.toNat * d.sz + j) ++ seg ++ inner.drop (i.toNat * d.sz + j + seg.length)).drop (i.toNat * d.sz)).take d.sz = c.take j ++ seg ++ c.drop (j + seg.length) := by
     apply List.ext_getElem?
     intro q
     rw [List.getElem?_take, List.getElem?_drop, seg_get inner seg _ (by omega), seg_get c seg j (by omega) q]
     by_cases hq : q < d.sz
     ·rw [if_pos hq, hcin q hq]
      by_cases hq1 : q < j
      ·rw [if_pos (by omega), if_pos hq1]
      ·rw [if_neg (by omega), if_neg hq1]
       by_cases hq2 : q < j + seg.length
       ·rw [if_pos (by omega), if_pos hq2]
        congr 1
        omega
       ·rw [if_neg (by omega), if_neg hq2]
     ·rw [if_neg hq, if_neg (by omega), if_neg (by omega), List.getElem?_eq_none (by omega)]
    rw [hcells]
    refine d.M_mono (fun k hk => ?_) (d.M_move (w1 := W.setCells g (i.toNat * d.sz + j) seg) (fun k hk => hfar k (hokp k hk).2) hM)
    exact ⟨(hokp k hk).1, fun he => (hokp k hk).2 (by rw [← hgo] at he; injection he)⟩
   ·rw [List.getElem?_set_ne (by omega)] at hm
    have hold := hr.2 m p hm
    have hcells : ((inner.take (i.toNat * d.sz + j) ++ seg ++ inner.drop (i.toNat * d.sz + j + seg.length)).drop (m * d.sz)).take d.sz = (inner.drop (m * d.sz)).take d.sz := by
     apply List.ext_getElem?
     intro q
     rw [List.getElem?_take, List.getElem?_take, List.getElem?_drop, List.getElem?_drop, seg_get inner seg _ (by omega)]
     by_cases hq : q < d.sz
     ·rw [if_pos hq, if_pos hq]
      rcases Nat.lt_or_gt_of_ne hmi with hlt | hgt
      ·have : m * d.sz + d.sz ≤ i.toNat * d.sz := by rw [← Nat.succ_mul]; exact Nat.mul_le_mul_right _ hlt
       rw [if_pos (by omega)]
      ·have : i.toNat * d.sz + d.sz ≤ m * d.sz := by rw [← Nat.succ_mul]; exact Nat.mul_le_mul_right _ hgt
       rw [if_neg (by omega), if_neg (by omega)]
     ·rw [if_neg hq, if_neg hq]
    rw [hcells]
    refine d.M_move (fun k hk => hfar k (fun he => hk.2 (by rw [he]; exact hgo))) hold
end
end Kd
theorem add_block (a : Addr) (i : Nat) : (a.add i).block = a.block := by unfold Addr.add; split <;> rfl
section
variable {P : Program} {ops : Array Oper} {rest : List Oper} {o : Oper} {a : Act} {Q : Exit → Act → World → Prop}
theorem store_event {W w1 : World} (hgd : o.guard = none) {t : TypeId} {p : Tmp} {v : Operand} (_ho : o.op = .store t (.tmp p) v) (hN : o.dst = none)
  (hrun : (execOp a.eval o).run P W = .ok .skip w1) (h : ∀ w', w' = w1 → wpList P ops Q rest a w') : wpList P ops Q (o :: rest) a W := by
 refine wpList_plain hgd fun K hK => ?_
 unfold Oper.wp
 rw [hrun]
 show K (a.put o.dst undef) w1
 rw [hN]
 exact hK _ _ (h _ rfl)
end
namespace Kd
section
variable {α : Type} {enc : α → Value} {h1 : ∀ x, (enc x).oneCell' = true} {e base g n cap : Nat} {ok : Nat → Prop} {W : World} {xs : List α}
theorem R_putg (h : (scalar enc h1).R e W base ok (.slice (some ⟨g, 0, none⟩) n cap) xs) (i : Int) (x : α) : (scalar enc h1).R e (W.setCell ⟨g, i.toNat, none⟩ (enc x)) base ok (.slice (some ⟨g, 0, none⟩) n cap) (xs.set i.toNat x) ∧ W.grownBy (W.setCell ⟨g, i.toNat, none⟩ (enc x)) (some g) := by
 obtain ⟨rfl, _⟩ := R_reads' h
 exact R_put h i x
end
end Kd
section
variable {P : Program} {ops : Array Oper} {rest : List Oper} {o : Oper} {a : Act} {Q : Exit → Act → World → Prop} {W : World}
theorem gate_store {t : TypeId} {p : Tmp} {v : Operand} (_ho : o.op = .store t (.tmp p) v) (h : wpList P ops Q (o :: rest) a W) : wpList P ops Q (o :: rest) a W := h
end
end Go.Proofs.YtagkfkdoibnhfaaDoorW.PrintWords
end
section
namespace Go.Proofs.YtagkfkdoibnhfaaDoorW.PrintWords
open Go.RowKit
section
variable {w W W2 : World} {S S2 S' : Nat → Prop}
theorem blk_kept {g : Nat} {o : Obj} (hb : W.heap[g]? = some o) (hk : Kept W W2 S) (hne : ¬ S g) : W2.heap[g]? = some o := (hk.2 g (blk_lt hb) hne).trans hb
end
end Go.Proofs.YtagkfkdoibnhfaaDoorW.PrintWords
end
section
namespace Go.Proofs.YtagkfkdoibnhfaaDoorW.PrintWords
open Go.RowKit
namespace Kd
section
variable {α β : Type} {d : Kd α} {e base n n' cc g N : Nat} {ok ok' okp S : Nat → Prop} {w w0 w1 W W1 : World} {A A' : Option Addr} {u v v1 : Value} {xs : List α} {xs' : List β} {d' : Kd β} {x : α} {c : List Value}
theorem F_bound (h : F d W ok A n xs) : F d W (fun k => ok k ∧ k < W.heap.size) A n xs := Foot.bound h
theorem F_far (h : F d W ok A n xs) {p : Addr} (hok : ∀ k, ok k → k ≠ p.block) (u : Value) : F d (W.setCell p u) ok A n xs := F_step h (fun k hk _ => Below.heap_setCell W p u k (hok k hk))
theorem F_kept (h : F d W ok A n xs) (hk : Kept W W1 S) (hok : ∀ k, ok k → ¬ S k) : F d W1 ok A n xs := F_step h (fun k ho hlt => hk.2 k hlt (hok k ho))
theorem F_elderB (h : F d W ok A n xs) (a : Nat) (ha : W.heap.size ≤ a) : F d W (fun k => ok k ∧ k ≠ a) A n xs := F_mono (F_bound h) (fun k hk => ⟨hk.1, by have := hk.2; omega⟩)
theorem F_after (h : F d W (fun k => ok k ∧ some k ≠ v.ownBlock) A n xs) (hg : W.grownBy W1 v.ownBlock) (hat : v1.ownBlock = v.ownBlock ∨ ∃ b, v1.ownBlock = some b ∧ W.heap.size ≤ b) : F d W1 (fun k => ok k ∧ some k ≠ v1.ownBlock) A n xs := by
 refine F_mono (Foot.step (F_bound h) (fun k hk hlt => hg.block k hlt hk.1.2)) (fun k hk => ⟨hk.1.1, ?_⟩)
 rcases hat with hat | ⟨b, hb, hle⟩
 ·rw [hat]; exact hk.1.2
 ·rw [hb]
  intro he
  injection he with he
  have := hk.2
  omega
theorem emptied (W : World) (g : Nat) : ∃ W' : World, (∀ k, k ≠ g → W'.heap[k]? = W.heap[k]?) ∧ ∀ a : Addr, a.block = g → W'.cell? a = none := by
 refine ⟨{ W with heap := W.heap.setIfInBounds g (.cells #[] 0) }, fun k hk => by simp [Ne.symm hk], fun a ha => ?_⟩
 subst ha
 by_cases hlt : a.block < W.heap.size
 ·simp [World.cell?, hlt]
 ·simp [World.cell?, hlt]
end
end Kd
end Go.Proofs.YtagkfkdoibnhfaaDoorW.PrintWords
end
section
namespace Go.Proofs.YtagkfkdoibnhfaaDoorW.PrintWords
open Go.RowKit
namespace Kd
section
variable {α : Type} {d : Kd α} {e base n cc g : Nat} {ok ok' okp S : Nat → Prop} {w w1 W W1 : World} {A : Option Addr} {u v v1 : Value} {xs : List α} {x : α} {c : List Value}
theorem F_get (h : F d W ok A n xs) (z : α) (i : Int) (h0 : 0 ≤ i) (h1 : i < n) :
  ∃ ad c, A = some ad ∧ c.length = d.sz ∧ FK d W ok (xs.getD i.toNat z) c ∧ (∀ j u, c[j]? = some u → W.cell? (ad.add (i.toNat * d.sz + j)) = some u) ∧ (0 < d.sz → ok ad.block) := by
 obtain ⟨ad, c, rfl, hcl, hK, hcc⟩ := C_get (F_now h) z i h0 h1
 have hin : 0 < d.sz → ok ad.block := by
  intro hs
  by_cases hk : ok ad.block
  ·exact hk
  ·obtain ⟨W', h2, h3⟩ := emptied W ad.block
   obtain ⟨ad', c', he, hcl', _, hcc'⟩ := C_get (h W' (fun k hk' _ => h2 k (fun e => hk (e ▸ hk')))) z i h0 h1
   injection he with he
   subst he
   have h4 := hcc' 0 _ (List.getElem?_eq_getElem (by omega))
   rw [h3 _ (add_block _ _)] at h4
   cases h4
 refine ⟨ad, c, rfl, hcl, fun W' hW => ?_, hcc, hin⟩
 obtain ⟨ad', c', he, hcl', hK', hcc'⟩ := C_get (h W' hW) z i h0 h1
 injection he with he
 subst he
 have hc : c = c' := by
  apply List.ext_getElem?
  intro j
  by_cases hj : j < d.sz
  ·have hb : W'.heap[ad.block]? = W.heap[ad.block]? := by
    have h5 := hcc j _ (List.getElem?_eq_getElem (by omega))
    have h6 := World.block_lt_of_cell? W _ h5
    rw [add_block] at h6
    exact hW _ (hin (by omega)) h6
   have h5 := hcc j _ (List.getElem?_eq_getElem (by omega))
   have h6 := hcc' j _ (List.getElem?_eq_getElem (by omega))
   have h7 : W'.cell? (ad.add (i.toNat * d.sz + j)) = W.cell? (ad.add (i.toNat * d.sz + j)) := by simp [World.cell?, add_block, hb]
   rw [h7, h5] at h6
   rw [List.getElem?_eq_getElem (by omega), List.getElem?_eq_getElem (by omega)]
   exact h6
  ·rw [List.getElem?_eq_none (by omega), List.getElem?_eq_none (by omega)]
 rw [hc]
 exact hK'
theorem F_rows (h : F d W ok A n xs) : ReadsRow (fun x c => FK d W ok x c) d.sz W A n xs := by
 obtain ⟨hl, hm, hn⟩ := F_now h
 refine ⟨hl, hm, fun hp => ?_⟩
 obtain ⟨ad, rfl, _⟩ := hn hp
 refine ⟨ad, rfl, fun j p hj => ?_⟩
 obtain ⟨hjl, hjp⟩ := List.getElem?_eq_some_iff.1 hj
 obtain ⟨ad', c, he, hcl, hK, hcc, _⟩ := F_get h p (j : Int) (by omega) (by omega)
 injection he with he
 subst he
 simp only [Int.toNat_natCast] at hK hcc
 rw [List.getD_eq_getElem?_getD, hj] at hK
 exact ⟨c, hcl, hK, hcc⟩
theorem N_base (h : N d e w base ok v xs) : ∀ k, v.ownBlock = some k → base ≤ k := by
 obtain ⟨_, rows, _, hR, _⟩ := h
 exact R_base hR
theorem N_ne (h : N d e w base ok v xs) {t : Nat} {cells : Array Value} (hb : w.heap[g]? = some (.cells cells t (0, 0))) (ht : e ≠ t) : some g ≠ v.ownBlock := by
 obtain ⟨_, rows, _, hR, _⟩ := h
 exact R_ne hR hb ht
theorem N_far (h : N d e w base ok v xs) {p : Addr} (hok : ∀ k, ok k → k ≠ p.block) (u : Value) : N d e (w.setCell p u) base ok v xs := N_step h (fun k ho _ => Below.heap_setCell w p u k (hok k ho))
theorem N_after (h : N d e W base (fun k => ok k ∧ some k ≠ u.ownBlock) v xs) {u1 : Value} (hg : W.grownBy w1 u.ownBlock) (hat : u1.ownBlock = u.ownBlock ∨ ∃ b, u1.ownBlock = some b ∧ W.heap.size ≤ b) : N d e w1 base (fun k => ok k ∧ some k ≠ u1.ownBlock) v xs := by
 refine N_mono (N_step (N_bound h) (fun k hk hlt => hg.block k hlt hk.1.2)) (fun k hk => ⟨hk.1.1, ?_⟩)
 rcases hat with hat | ⟨b, hb, hle⟩
 ·rw [hat]; exact hk.1.2
 ·rw [hb]
  intro he
  injection he with he
  have := hk.2
  omega
theorem N_form (h : N d e w base ok v xs) (hp : 0 < xs.length) : ∃ g cap, v = .slice (some ⟨g, 0, none⟩) xs.length cap ∧ base ≤ g ∧ g < w.heap.size ∧ ∃ cells, w.heap[g]? = some (.cells cells e (0, 0)) := by
 obtain ⟨_, rows, hl, hR, _⟩ := h
 rw [← hl] at hp ⊢
 exact R_form hR hp
theorem N_elem {n cap : Nat} (h : N d e W base ok (.slice (some ⟨g, 0, none⟩) n cap) xs) (z : α) (i : Int) (h0 : 0 ≤ i) (h1 : i < n) :
  ∃ c, c.length = d.sz ∧ FK d W (fun k => ok k ∧ k ≠ g) (xs.getD i.toNat z) c ∧ (∀ j u, c[j]? = some u → W.cell? ⟨g, i.toNat * d.sz + j, none⟩ = some u) ∧ ∀ j, W.frozen? ⟨g, i.toNat * d.sz + j, none⟩ = false := by
 obtain ⟨_, rows, hl, hR, hf⟩ := h
 have hn := (R_reads' hR).1
 obtain ⟨c, hcl, hM, hcc, hfr⟩ := R_elem hR [] i h0 h1
 have hil : i.toNat < rows.length := by omega
 have hil' : i.toNat < xs.length := by omega
 have hc : c = rows[i.toNat] := by
  have h2 := hM.1
  rwa [List.getD_eq_getElem?_getD, List.getElem?_eq_getElem hil] at h2
 refine ⟨c, hcl, ?_, hcc, hfr⟩
 rw [List.getD_eq_getElem?_getD, List.getElem?_eq_getElem hil']
 exact FK_mono (hf _ _ _ (List.getElem?_eq_getElem hil') (by rw [hc]; exact List.getElem?_eq_getElem hil)) (fun k hk => ⟨hk.1, fun he => hk.2 (by rw [he]; simp [Value.ownBlock])⟩)
theorem N_get {ad : Addr} {n cap : Nat} (h : N d e W base ok (.slice (some ad) n cap) xs) (z : α) (i : Int) (h0 : 0 ≤ i) (h1 : i < n) :
  ∃ c, c.length = d.sz ∧ FK d W (fun k => ok k ∧ some k ≠ (Value.slice (some ad) n cap).ownBlock) (xs.getD i.toNat z) c ∧ ∀ j u, c[j]? = some u → W.cell? (ad.add (i.toNat * d.sz + j)) = some u := by
 obtain ⟨g, rfl⟩ : ∃ g, ad = ⟨g, 0, none⟩ := by
  obtain ⟨_, rows, _, hR, _⟩ := h
  exact R_head hR
 obtain ⟨c, hcl, hM, hcc, _⟩ := N_elem h z i h0 h1
 refine ⟨c, hcl, FK_mono hM (fun k hk => ⟨hk.1, fun he => hk.2 (by simpa [Value.ownBlock] using he)⟩), fun j u hu => ?_⟩
 rw [add_at, Nat.zero_add]
 exact hcc j u hu
end
end Kd
end Go.Proofs.YtagkfkdoibnhfaaDoorW.PrintWords
end
section
namespace Go.Proofs.YtagkfkdoibnhfaaDoorW.PrintWords
open Go.RowKit
namespace Kd
section
variable {α : Type} {d : Kd α} {e base n cap g : Nat} {ok ok' okp : Nat → Prop} {w w1 W : World} {v v1 : Value} {xs ys : List α}
theorem N_written {rows : List (List Value)} {i : Int} {x' : α} {c' : List Value} (h0 : ∀ k, (Value.slice (some ⟨g, 0, none⟩) n cap).ownBlock = some k → ok k) (hl : rows.length = xs.length) (hf : ∀ (j : Nat) (x : α) (c : List Value), xs[j]? = some x → rows[j]? = some c → FK d W (fun k => ok k ∧ some k ≠ (Value.slice (some ⟨g, 0, none⟩) n cap).ownBlock) x c)
  (hR : (raw d.sz).R e w1 base (fun _ => True) (.slice (some ⟨g, 0, none⟩) n cap) (rows.set i.toNat c')) (hg : W.grownBy w1 (some g)) (hM : FK d W okp x' c') (hokp : ∀ k, okp k → ok k ∧ k ≠ g) : N d e w1 base ok (.slice (some ⟨g, 0, none⟩) n cap) (xs.set i.toNat x') := by
 have hgo : some g = (Value.slice (some ⟨g, 0, none⟩) n cap).ownBlock := by simp [Value.ownBlock]
 refine ⟨h0, rows.set i.toNat c', by rw [List.length_set, List.length_set, hl], raw_tight hR, fun j x c hx hc => ?_⟩
 have hjl : j < xs.length := by have := (List.getElem?_eq_some_iff.1 hx).1; rwa [List.length_set] at this
 by_cases hji : j = i.toNat
 ·subst hji
  rw [List.getElem?_set_self hjl] at hx
  rw [List.getElem?_set_self (by omega)] at hc
  injection hx with hx
  injection hc with hc
  rw [← hx, ← hc]
  exact FK_mono (FK_step hM (fun k hk hlt => hg.block k hlt (fun he => (hokp k hk).2 (by injection he)))) (fun k hk => ⟨(hokp k hk).1, fun he => (hokp k hk).2 (by rw [← hgo] at he; injection he)⟩)
 ·rw [List.getElem?_set_ne (Ne.symm hji)] at hx hc
  exact FK_step (hf j x c hx hc) (fun k hk hlt => hg.block k hlt (by rw [hgo]; exact hk.2))
theorem N_seg (h : N d e W base ok (.slice (some ⟨g, 0, none⟩) n cap) xs) (i : Int) (h0 : 0 ≤ i) (h1 : i < n) {c seg : List Value} {j : Nat} (hcl : c.length = d.sz) (hcc : ∀ j u, c[j]? = some u → W.cell? ⟨g, i.toNat * d.sz + j, none⟩ = some u)
  (hj : j + seg.length ≤ d.sz) {x' : α} (hM : FK d W okp x' (c.take j ++ seg ++ c.drop (j + seg.length))) (hokp : ∀ k, okp k → ok k ∧ k ≠ g) :
  N d e (W.setCells g (i.toNat * d.sz + j) seg) base ok (.slice (some ⟨g, 0, none⟩) n cap) (xs.set i.toNat x') ∧ W.grownBy (W.setCells g (i.toNat * d.sz + j) seg) (some g) := by
 obtain ⟨hown, rows, hl, hR, hf⟩ := h
 obtain ⟨h2, h3⟩ := R_seg (raw_any hR) i h0 h1 (c := c) (seg := seg) (j := j) (x' := c.take j ++ seg ++ c.drop (j + seg.length)) (okp := fun _ => False) hcl hcc hj ⟨rfl, d.K_len (FK_now hM), d.K_one (FK_now hM)⟩ (fun _ hk => hk.elim)
 exact ⟨N_written hown hl hf h2 h3 hM hokp, h3⟩
theorem reads_raw {Rr : α → List Value → Prop} {sz m : Nat} {A : Option Addr} (h : ReadsRow Rr sz W A m ys) (hR : ∀ x c, Rr x c → c.length = sz ∧ ∀ u ∈ c, u.oneCell' = true) :
  ∃ news : List (List Value), news.length = ys.length ∧ ReadsRow (fun x cs => cs = x ∧ cs.length = sz ∧ ∀ u ∈ cs, u.oneCell' = true) sz W A m news ∧ ∀ (j : Nat) (x : α) (c : List Value), ys[j]? = some x → news[j]? = some c → Rr x c := by
 rcases Nat.eq_zero_or_pos m with h0 | hp
 ·have hy : ys = [] := List.eq_nil_of_length_eq_zero (h.1.trans h0)
  subst hy
  exact ⟨[], rfl, ⟨h0 ▸ rfl, h.2.1, fun hp => by omega⟩, fun j x c hx => by simp at hx⟩
 ·obtain ⟨ad, rfl, _⟩ := h.2.2 hp
  obtain ⟨inner, hr, hc⟩ := ReadsRow.inner_ h
  refine ⟨chunks sz ys.length inner, chunks_length _ _ _, ⟨by rw [chunks_length]; exact h.1, h.2.1, fun _ => ⟨ad, rfl, fun j p hj => ?_⟩⟩, fun j x c hx hcc => ?_⟩
  ·have hjl : j < ys.length := by have := (List.getElem?_eq_some_iff.1 hj).1; rwa [chunks_length] at this
   have hpe := chunks_get hj
   have hq := hR _ _ (hr.2 j _ (List.getElem?_eq_getElem hjl))
   rw [← hpe] at hq
   refine ⟨p, hq.1, ⟨rfl, hq⟩, fun i u hu => ?_⟩
   have hu2 : inner[j * sz + i]? = some u := by
    rw [hpe, List.getElem?_take] at hu
    split at hu
    ·rw [List.getElem?_drop] at hu
     exact hu
    ·cases hu
   exact hc _ u hu2
  ·rw [chunks_get hcc]
   exact hr.2 j x hx
end
section
variable {P : Program} {ops : Array Oper} {rest : List Oper} {o : Oper} {a : Act} {Q : Exit → Act → World → Prop} {Kc : Act → World → Prop} {α : Type}
theorem N_append_rows (d : Kd α) {w0 W : World} (base : Nat) (hgd : o.guard = none) (s x : Operand) (t e : TypeId) (z : Value) (bytes : Nat)
  (ho : o.op = .call { callee := .builtin .append, args := #[s, x], argTypes := #[t, t] })
  (ht : P.underlying t = some (.slice e)) (hinfo : (P.info? e).map (fun i => (i.zero, i.size, i.bytes)) = some (some z, d.sz, bytes)) (hz : z.cells.size = d.sz) (hs0 : 0 < d.sz) (hb0 : 0 < bytes)
  (v : Value) (xs ys : List α) (A : Option Addr) (m c : Nat) (ok okp : Nat → Prop) (hs : a.eval s = v) (hx : a.eval x = .slice A m c)
  (HO : N d e W base ok v xs) (HR : F d W okp A m ys) (hokp : ∀ k, okp k → ok k ∧ some k ≠ v.ownBlock) (hfresh : ∀ k, W.heap.size ≤ k → ok k)
  (HB : Below base w0 W) (hbase : base ≤ W.heap.size) (hl : (xs.length + m) * bytes ≤ 140737488355328)
  (h : ∀ v1 w1, N d e w1 base ok v1 (xs ++ ys) → Below base w0 w1 → W.grownBy w1 v.ownBlock → (v1.ownBlock = v.ownBlock ∨ ∃ b, v1.ownBlock = some b ∧ W.heap.size ≤ b) → wpList P ops Q rest (a.put o.dst v1) w1) :
  wpList P ops Q (o :: rest) a W := by
 obtain ⟨h0, rows, hlr, hR, hf⟩ := HO
 obtain ⟨news, hnl, hnr, hnf⟩ := reads_raw (F_rows HR) (fun y c hk => ⟨d.K_len (FK_now hk), d.K_one (FK_now hk)⟩)
 refine R_append_rows (raw d.sz) base hgd s x t e z bytes ho ht hinfo hz hs0 hb0 v rows news A m c (fun _ => True) (fun _ => False) hs hx (raw_any hR) hnr (fun _ _ hk => hk) (fun _ hk => hk.elim) (fun _ _ => trivial) HB hbase (by rw [hlr]; exact hl) ?_
 intro v1 w1 hr hb hg hat
 exact h v1 w1 (N_appended h0 hlr hf hnl hnf hokp hfresh hr hg hat) hb hg hat
end
end Kd
end Go.Proofs.YtagkfkdoibnhfaaDoorW.PrintWords
end
section
namespace Go.Proofs.YtagkfkdoibnhfaaDoorW.PrintWords
open Go.RowKit
theorem drewN_self (w : World) (n : Nat) : w.drewN n = w.drewN n := rfl
end Go.Proofs.YtagkfkdoibnhfaaDoorW.PrintWords
namespace Go.Proofs.YtagkfkdoibnhfaaDoorW.PrintWords
open Go.RowKit
namespace Kd
section
variable {α β : Type} {d : Kd α} {e base base' n m c g N' lo hi : Nat} {ok ok' S : Nat → Prop} {w W w1 : World} {A : Option Addr} {ad : Addr} {u v v1 : Value} {xs : List α}
theorem V_F (h : V d e W base ok (.slice A n c) xs) : F d W ok A n xs := by
 obtain ⟨hn, _, hf⟩ := V_at h
 rw [hn]
 exact hf
theorem V_bound (h : V d e W base ok v xs) : V d e W base (fun k => ok k ∧ k < W.heap.size) v xs := V_map h (fun _ hf => F_bound hf)
theorem V_far (h : V d e W base ok v xs) {p : Addr} (hok : ∀ k, ok k → k ≠ p.block) (u : Value) : V d e (W.setCell p u) base ok v xs := V_map h (fun _ hf => F_far hf hok u)
theorem V_kept (h : V d e W base ok v xs) (hk : Kept W w1 S) (hok : ∀ k, ok k → ¬ S k) : V d e w1 base ok v xs := V_map h (fun _ hf => F_kept hf hk hok)
theorem V_after (h : V d e W base (fun k => ok k ∧ some k ≠ u.ownBlock) v xs) (hg : W.grownBy w1 u.ownBlock) (hat : v1.ownBlock = u.ownBlock ∨ ∃ b, v1.ownBlock = some b ∧ W.heap.size ≤ b) : V d e w1 base (fun k => ok k ∧ some k ≠ v1.ownBlock) v xs := V_map h (fun _ hf => F_after hf hg hat)
theorem V_afterv (h : V d e W base (fun k => ok k ∧ some k ≠ v.ownBlock) u xs) (hg : W.grownBy w1 v.ownBlock) (hat : v1.ownBlock = v.ownBlock ∨ ∃ b, v1.ownBlock = some b ∧ W.heap.size ≤ b) : V d e w1 base (fun k => ok k ∧ some k ≠ v1.ownBlock) u xs := V_after h hg hat
theorem N_afterv (h : N d e W base (fun k => ok k ∧ some k ≠ v.ownBlock) u xs) (hg : W.grownBy w1 v.ownBlock) (hat : v1.ownBlock = v.ownBlock ∨ ∃ b, v1.ownBlock = some b ∧ W.heap.size ≤ b) : N d e w1 base (fun k => ok k ∧ some k ≠ v1.ownBlock) u xs := N_after h hg hat
theorem V_elderB (h : V d e W base ok v xs) (a : Nat) (ha : W.heap.size ≤ a) : V d e W base (fun k => ok k ∧ k ≠ a) v xs := V_map h (fun _ hf => F_elderB hf a ha)
theorem V_keptB (h : V d e W base ok v xs) (hk : Kept W w1 S) (hne : ∀ k, ok k → ¬ S k) : V d e w1 base (fun k => ok k ∧ (¬ S k ∧ k < W.heap.size)) v xs :=
 V_kept (V_mono (V_bound h) (fun k hk => ⟨hk.1, hne k hk.1, hk.2⟩)) hk (fun _ hk => hk.2.1)
theorem V_get (h : V d e W base ok (.slice (some ad) n c) xs) (z : α) (i : Int) (h0 : 0 ≤ i) (h1 : i < n) :
  ∃ cs, cs.length = d.sz ∧ FK d W ok (xs.getD i.toNat z) cs ∧ ∀ j u, cs[j]? = some u → W.cell? (ad.add (i.toNat * d.sz + j)) = some u := by
 obtain ⟨ad', cs, he, hcl, hK, hcc, _⟩ := F_get (V_F h) z i h0 h1
 injection he with he
 subst he
 exact ⟨cs, hcl, hK, hcc⟩
end
end Kd
end Go.Proofs.YtagkfkdoibnhfaaDoorW.PrintWords
end
section
namespace Go.Proofs.YtagkfkdoibnhfaaDoor.H
open Go.RowKit Go.Proofs.YtagkfkdoibnhfaaDoorW.PrintWords Go.Proofs.YtagkfkdoibnhfaaDoorW.PrintLast Go.Proofs.YtagkfkdoibnhfaaDoorW.PrintMore
set_option linter.unusedVariables false
set_option linter.unusedSimpArgs false
theorem k60_openF {W : World} {ok : Nat → Prop} {x : S60} {cs : List Value} (h : Kd.FK k60 W ok x cs) : ∃ A1 c1, cs = [.int .i64 x.f0, .slice A1 x.f1.length c1] ∧ x.f1.length ≤ c1 ∧ Kd.F (Kd.int .i64) W ok A1 x.f1.length x.f1 := by
 obtain ⟨A1, c1, rfl, l1, _⟩ := k60_open (Kd.FK_now h)
 exact ⟨A1, c1, rfl, l1, (fun W' hW => by obtain ⟨A1_, c1_, he, l1_, g1_⟩ := k60_open (h W' hW); injection (Option.some.inj (show some (Value.slice A1 x.f1.length c1) = some (Value.slice A1_ x.f1.length c1_) from congrArg (fun l => l[1]?) he)) with ha_ _ _; rw [ha_]; exact g1_)⟩
end Go.Proofs.YtagkfkdoibnhfaaDoor.H
end
section
namespace Go.Proofs.YtagkfkdoibnhfaaDoor.K
open Go.RowKit Go.Proofs.YtagkfkdoibnhfaaDoorW.PrintWords Go.Proofs.YtagkfkdoibnhfaaDoorW.PrintMore Go.Proofs.YtagkfkdoibnhfaaDoor.H
namespace O
theorem irange_mem_iff {x lo hi : Int} : x ∈ irange lo hi ↔ lo ≤ x ∧ x ≤ hi := by
 unfold irange
 rw [List.mem_map]
 constructor
 ·rintro ⟨i, hi, rfl⟩
  rw [List.mem_range] at hi
  omega
 ·rintro ⟨h1, h2⟩
  exact ⟨(x - lo).toNat, by rw [List.mem_range]; omega, by omega⟩
theorem irange_len (lo hi : Int) : (irange lo hi).length = (hi + 1 - lo).toNat := by unfold irange; simp
theorem choices_mem' {T O : Int} {R : List S66} {hs : List S60} {p : Int} {q : Int × Int} : q ∈ choices T O R hs p ↔ q ∈ pairsOf (T * O) ∧ miss T R hs p q.1 q.2 = 0 := by
 unfold choices
 rw [List.mem_filter, decide_eq_true_eq]
theorem pairs_mem_iff {m : Int} {q : Int × Int} : q ∈ pairsOf m ↔ (0 ≤ q.1 ∧ q.1 ≤ m - 1) ∧ 0 ≤ q.2 ∧ q.2 ≤ m - 1 := by
 unfold pairsOf
 rw [List.mem_flatMap]
 constructor
 ·rintro ⟨a, ha, h⟩
  rw [List.mem_map] at h
  obtain ⟨b, hb, rfl⟩ := h
  exact ⟨irange_mem_iff.1 ha, irange_mem_iff.1 hb⟩
 ·rintro ⟨h1, h2⟩
  exact ⟨q.1, irange_mem_iff.2 h1, List.mem_map.2 ⟨q.2, irange_mem_iff.2 h2, rfl⟩⟩
theorem canAll_pos {T O L : Int} {R : List S66} {hs : List S60} (h : canAll T O L R hs = true) (p : Int) (h0 : 0 ≤ p) (h1 : p ≤ L / 2 - 1) : ∃ q, q ∈ choices T O R hs p := by
 unfold canAll at h
 rw [List.all_eq_true] at h
 have := h p (irange_mem_iff.2 ⟨h0, h1⟩)
 cases hc : choices T O R hs p
 ·rw [hc] at this; simp at this
 ·exact ⟨_, List.mem_cons_self⟩
end O
end Go.Proofs.YtagkfkdoibnhfaaDoor.K
end
section
namespace Go.Proofs.YtagkfkdoibnhfaaDoor.K
open Go.RowKit Go.Proofs.YtagkfkdoibnhfaaDoorW.PrintWords Go.Proofs.YtagkfkdoibnhfaaDoorW.PrintMore Go.Proofs.YtagkfkdoibnhfaaDoor.H
namespace O
theorem flatMap_length {α : Type} (f : α → List Int) (W : Nat) (hW : ∀ x, (f x).length = W) : ∀ l : List α, (l.flatMap f).length = l.length * W
 | [] => by simp
 | x :: l => by rw [List.flatMap_cons, List.length_append, hW, flatMap_length f W hW l, List.length_cons, Nat.add_mul, Nat.one_mul, Nat.add_comm]
def Single (T O L : Int) (R : List S66) (hs : List S60) (q : Int → Int × Int) : Prop := ∀ p, 0 ≤ p → p ≤ L / 2 - 1 → choices T O R hs p = [q p]
theorem won_flat {T O L : Int} {R : List S66} {hs : List S60} {q : Int → Int × Int} (h : Single T O L R hs q) : wonOf T O L R hs = (irange 0 (L / 2 - 1)).flatMap fun p => [(q p).1, (q p).2] := by
 unfold wonOf
 rw [List.flatMap_def, List.flatMap_def]
 congr 1
 apply List.map_congr_left
 intro p hp
 obtain ⟨h0, h1⟩ := irange_mem_iff.1 hp
 rw [h p h0 h1]
section
variable {T O L : Int} {R : List S66} {hs : List S60} {q : Int → Int × Int} (hS : okScale T O L R = true) (hH : okHeard L R hs = true) (h : Single T O L R hs q)
include hS h
theorem won_len : ((wonOf T O L R hs).length : Int) = L := by
 obtain ⟨t1, t2, t3, t4, t5, t6, t7, t8, t9, hok⟩ := okScale_regs hS
 rw [won_flat h, flatMap_length _ 2 (fun _ => rfl), irange_len]
 omega
theorem single_mem (p : Int) (h0 : 0 ≤ p) (h1 : p ≤ L / 2 - 1) : ((0 ≤ (q p).1 ∧ (q p).1 ≤ T * O - 1) ∧ 0 ≤ (q p).2 ∧ (q p).2 ≤ T * O - 1) ∧ miss T R hs p (q p).1 (q p).2 = 0 := by
 have := choices_mem'.1 (show q p ∈ choices T O R hs p by rw [h p h0 h1]; simp)
 exact ⟨pairs_mem_iff.1 this.1, this.2⟩
theorem won_ok (r : Int) (h0 : 0 ≤ r) (h1 : r < R.length) : okPart T O L R (wonOf T O L R hs) r = true := by
 unfold okPart
 simp only [Bool.and_eq_true, decide_eq_true_eq, List.all_eq_true]
 refine ⟨⟨⟨won_len hS h, h0⟩, h1⟩, fun x hx => ?_⟩
 rw [won_flat h, List.mem_flatMap] at hx
 obtain ⟨p, hp, hx⟩ := hx
 obtain ⟨g0, g1⟩ := irange_mem_iff.1 hp
 have := (single_mem hS h p g0 g1).1
 simp only [List.mem_cons, List.not_mem_nil, or_false] at hx
 rcases hx with rfl | rfl <;> omega
include hH
end
end O
end Go.Proofs.YtagkfkdoibnhfaaDoor.K
end
section
namespace Go.Proofs.YtagkfkdoibnhfaaDoor.H
open Go.RowKit Go.Proofs.YtagkfkdoibnhfaaDoorW.PrintWords Go.Proofs.YtagkfkdoibnhfaaDoorW.PrintLast Go.Proofs.YtagkfkdoibnhfaaDoorW.PrintMore
set_option linter.unusedVariables false
set_option linter.unusedSimpArgs false
def saronref00_Nth.f (l0 : List Int) (a1 : Int) : Option (Int) := if (l0.length : Int) = 0 then (some 0) else ((saronref00_Turn.f a1 (l0.length : Int)).bind fun t476 => (if 0 ≤ t476 then (if t476 < (l0.length : Int) then (some (rd l0 t476)) else (none)) else (none)))
set_option maxHeartbeats 8000000 in
set_option maxRecDepth 100000 in
theorem saronref00_Nth.calls (A0 : Option Addr) (c0 : Nat) (l0 : List Int) (a1 : Int) (r : Int) (w : World) (hr0 : Kd.C (Kd.int .i64) w A0 l0.length l0) (hc0 : l0.length ≤ c0) (h : saronref00_Nth.f l0 a1 = some r) :
  Calls Tryd.prog 47 #[.slice A0 l0.length c0, .int .i64 a1] w fun e w' => e = .returned (.int .i64 r) ∧ Drawn0 w w' := by
 have HR0 := zh hr0
 have HC0 := zh hc0
 clear hr0 hc0
 have H : (if (l0.length : Int) = 0 then (some 0) else ((saronref00_Turn.f a1 (l0.length : Int)).bind fun t476 => (if 0 ≤ t476 then (if t476 < (l0.length : Int) then (some (rd l0 t476)) else (none)) else (none)))) = some r := h
 clear h
 by_cases c3 : (l0.length : Int) = 0
 ·rw [if_pos c3] at H
  have c3b0 : ((l0.length : Int) == 0) = true := beq_iff_eq.mpr c3
  have c3b1 : ((l0.length : Int) != 0) = false := bne_eq_false_iff_eq.mpr c3
  clear c3
  obtain rfl := Option.some.inj H
  go_enter Tryd.func47, Tryd.ntmps47
  go_wp2
  go_ret
  exact ⟨ze, by repeat (first | exact Drawn0.refl _ | apply Drawn0.step)⟩
 ·rw [if_neg c3] at H
  have c3b0 : ((l0.length : Int) == 0) = false := beq_eq_false_iff_ne.mpr c3
  have c3b1 : ((l0.length : Int) != 0) = true := bne_iff_ne.mpr c3
  have c3b2 : ¬ (l0 = []) := fun h_ => c3 (by rw [h_]; rfl)
  replace H := Option.bind_eq_some_iff.mp H
  obtain ⟨t476, A40, H⟩ := H
  replace H : (if 0 ≤ t476 then (if t476 < (l0.length : Int) then (some (rd l0 t476)) else (none)) else (none)) = some r := H
  have A4 := zh A40
  clear A40
  by_cases c5 : 0 ≤ t476
  ·rw [if_pos c5] at H
   have c5b0 : decide (0 ≤ t476) = true := decide_eq_true c5
   clear c5
   by_cases c6 : t476 < (l0.length : Int)
   ·rw [if_pos c6] at H
    have c6b0 : decide (t476 < (l0.length : Int)) = true := decide_eq_true c6
    clear c6
    obtain rfl := Option.some.inj H
    go_enter Tryd.func47, Tryd.ntmps47
    go_wp2_with (first | ((with_reducible refine gate_callee (f := 42) rfl ?_); refine goesL_ (some 12) rfl rfl Tryd.func42 zk rfl #[.int .i64 a1, .int .i64 (l0.length : Int)] rfl zm ?_; (with_reducible refine (saronref00_Turn.calls a1 (l0.length : Int) t476 _ A4.out).mono ?_); rintro e w' ⟨rfl, ⟨nd, rfl⟩⟩; refine ⟨_, rfl, ?_⟩; have p477 : 0 ≤ (t476 : Int) := of_decide_eq_true zs; have q477 : t476 < (l0.length : Int) := of_decide_eq_true zs; obtain ⟨ad477, e477, hx477_0⟩ := Kd.at_int HR0.out t476 p477 q477; cases e477; replace p477 := eq_true p477; replace q477 := eq_true q477))
    go_ret
    exact ⟨ze, by repeat (first | exact Drawn0.refl _ | apply Drawn0.step)⟩
   ·rw [if_neg c6] at H
    exact absurd H (by simp)
  ·rw [if_neg c5] at H
   exact absurd H (by simp)
def saronref00_Plain.f (a0 : Int) : Option (Int) := if a0 < 0 then (some (wrap64 (-a0))) else (some a0)
set_option maxHeartbeats 8000000 in
set_option maxRecDepth 100000 in
theorem saronref00_Plain.calls (a0 : Int) (r : Int) (w : World) (h : saronref00_Plain.f a0 = some r) :
  Calls Tryd.prog 48 #[.int .i64 a0] w fun e w' => e = .returned (.int .i64 r) ∧ Drawn0 w w' := by
 have H : (if a0 < 0 then (some (wrap64 (-a0))) else (some a0)) = some r := h
 clear h
 by_cases c2 : a0 < 0
 ·rw [if_pos c2] at H
  have c2b0 : decide (a0 < 0) = true := decide_eq_true c2
  clear c2
  obtain rfl := Option.some.inj H
  go_enter Tryd.func48, Tryd.ntmps48
  go_wp2
  go_ret
  exact ⟨ze, by repeat (first | exact Drawn0.refl _ | apply Drawn0.step)⟩
 ·rw [if_neg c2] at H
  have c2b0 : decide (a0 < 0) = false := decide_eq_false c2
  clear c2
  obtain rfl := Option.some.inj H
  go_enter Tryd.func48, Tryd.ntmps48
  go_wp2
  go_ret
  exact ⟨ze, by repeat (first | exact Drawn0.refl _ | apply Drawn0.step)⟩
end Go.Proofs.YtagkfkdoibnhfaaDoor.H
end
section
namespace Go.Proofs.YtagkfkdoibnhfaaDoor.H
open Go.RowKit Go.Proofs.YtagkfkdoibnhfaaDoorW.PrintWords Go.Proofs.YtagkfkdoibnhfaaDoorW.PrintLast Go.Proofs.YtagkfkdoibnhfaaDoorW.PrintMore
attribute [local go_sem] max2_int min2_int max_two min_two max_three min_three max_four min_four   -- for this text's walks alone
set_option linter.unusedVariables false
set_option linter.unusedSimpArgs false
mutual
def saronlaw06_sound.j0 : Nat → Bool → Int → Int → Int → List (S66) → Option (Bool)
 | 0, _, _, _, _, _ => none
 | k + 1, x3, x464000, x464001, x464002, x464003 => saronlaw06_sound.l0 k x3 0 x464000 x464001 x464002 x464003
def saronlaw06_sound.l0 : Nat → Bool → Int → Int → Int → Int → List (S66) → Option (Bool)
 | 0, _, _, _, _, _, _ => none
 | k + 1, x3, x4, x464000, x464001, x464002, x464003 => if x3 = true then (saronlaw06_sound.j2 k x3 x4 (decide (x4 < (x464003.length : Int))) x464000 x464001 x464002 x464003) else (saronlaw06_sound.j2 k x3 x4 false x464000 x464001 x464002 x464003)
def saronlaw06_sound.j2 : Nat → Bool → Int → Bool → Int → Int → Int → List (S66) → Option (Bool)
 | 0, _, _, _, _, _, _, _ => none
 | k + 1, x3, x4, x43, x464000, x464001, x464002, x464003 => if x43 = true then (if 0 ≤ x4 then (if x4 < (x464003.length : Int) then ((saronref00_Sits.f ((rd_T66 x464003 x4).f0) 0 4).bind fun t471 => (if t471 = true then ((saronref00_Band.f ((rd_T66 x464003 x4).f1) ((rd_T66 x464003 x4).f2)).bind fun bt472 => ((saronref00_Good.f bt472.1 bt472.2 0 (wrap64 ((wrap64 (x464000 * x464001)) - 1))).bind fun t474 => (if t474 = true then ((saronref00_Sits.f ((rd_T66 x464003 x4).f3) (-6) 6).bind fun t475 => (saronlaw06_sound.l0 k t475 (wrap64 (x4 + 1)) x464000 x464001 x464002 x464003)) else (saronlaw06_sound.l0 k false (wrap64 (x4 + 1)) x464000 x464001 x464002 x464003)))) else (saronlaw06_sound.l0 k false (wrap64 (x4 + 1)) x464000 x464001 x464002 x464003))) else (none)) else (none)) else (some x3)
end
def saronlaw06_sound.f (k : Nat) (a0_0 : Int) (a0_1 : Int) (a0_2 : Int) (l0_3 : List (S66)) : Option (Bool) := (kernel_Check.f k a0_0 a0_1 a0_2 l0_3).bind fun t464 => (if t464 = 0 then ((saronref00_Sits.f a0_0 2 7).bind fun t465 => (if t465 = true then ((saronref00_Sits.f a0_1 1 3).bind fun t466 => (if t466 = true then ((saronref00_Sits.f a0_2 2 16).bind fun t467 => (if t467 = true then (if (Int.tmod a0_2 2) = 0 then ((saronref00_Sits.f (l0_3.length : Int) 1 5).bind fun t468 => (saronlaw06_sound.j0 k t468 a0_0 a0_1 a0_2 l0_3)) else (saronlaw06_sound.j0 k false a0_0 a0_1 a0_2 l0_3)) else (saronlaw06_sound.j0 k false a0_0 a0_1 a0_2 l0_3))) else (saronlaw06_sound.j0 k false a0_0 a0_1 a0_2 l0_3))) else (saronlaw06_sound.j0 k false a0_0 a0_1 a0_2 l0_3))) else (saronlaw06_sound.j0 k false a0_0 a0_1 a0_2 l0_3))
def saronlaw06_sound.T6 : Bool × List (List Nat × List Nat) := (true, [([], []), ([0], [0]), ([1], [1]), ([2, 2], [2]), ([3], [3]), ([4, 3], [3, 4]), ([3], [3]), ([6, 3], [3, 6]), ([5, 7, 3, 3], [3, 5, 7]), ([3], [3]), ([9, 3], [3, 9]), ([3], [3]), ([11, 3], [3, 11]), ([10, 12, 3], [3, 10, 12]), ([13, 3], [3, 13]), ([8, 14, 8, 3], [3, 8, 14]), ([3, 15], [3, 15]), ([16, 15], [16]), ([17], [17]), ([18, 17], [17, 18]), ([19, 17, 17], [17, 19]), ([17, 20], [17, 20]), ([21, 20, 0, 1, 2, 3, 4, 5, 6, 7, 8, 9, 10, 11, 12, 13, 14, 15, 16, 17, 18, 19, 20, 21], [21])])
def saronlaw06_sound.B6 : List Nat := [0, 1, 3, 7, 15, 31, 15, 79, 255, 15, 527, 15, 2063, 7695, 15887, 32767, 65535, 131071, 262143, 524287, 1048575, 2097151, 4194303]
theorem saronlaw06_sound.tab6 : rtab .any (opsOf Tryd.f39 6) = saronlaw06_sound.T6 := by kernel_rfl
theorem saronlaw06_sound.bits6 : waitsOk saronlaw06_sound.T6.2 saronlaw06_sound.B6 = true := by kernel_rfl
set_option maxHeartbeats 8000000 in
set_option maxRecDepth 100000 in
theorem saronlaw06_sound.calls (k : Nat) (a0_0 : Int) (a0_1 : Int) (a0_2 : Int) (A0_3 : Option Addr) (c0_3 : Nat) (l0_3 : List (S66)) (r : Bool) (w : World) (hr0_3 : Kd.C k66 w A0_3 l0_3.length l0_3) (hc0_3 : l0_3.length ≤ c0_3) (h : saronlaw06_sound.f k a0_0 a0_1 a0_2 l0_3 = some r) :
  Calls Tryd.prog 39 #[.agg #[.int .i64 a0_0, .int .i64 a0_1, .int .i64 a0_2, .slice A0_3 l0_3.length c0_3]] w fun e w' => e = .returned (.bool r) ∧ Below w.heap.size w w' := by
 have hu24 := Tryd.underlying24
 have hu66 := Tryd.underlying66
 have HR0_3 := zh hr0_3
 have HC0_3 := zh hc0_3
 clear hr0_3 hc0_3
 have HB := zh (Below.refl w.heap.size w)
 have H : ((kernel_Check.f k a0_0 a0_1 a0_2 l0_3).bind fun t464 => (if t464 = 0 then ((saronref00_Sits.f a0_0 2 7).bind fun t465 => (if t465 = true then ((saronref00_Sits.f a0_1 1 3).bind fun t466 => (if t466 = true then ((saronref00_Sits.f a0_2 2 16).bind fun t467 => (if t467 = true then (if (Int.tmod a0_2 2) = 0 then ((saronref00_Sits.f (l0_3.length : Int) 1 5).bind fun t468 => (saronlaw06_sound.j0 k t468 a0_0 a0_1 a0_2 l0_3)) else (saronlaw06_sound.j0 k false a0_0 a0_1 a0_2 l0_3)) else (saronlaw06_sound.j0 k false a0_0 a0_1 a0_2 l0_3))) else (saronlaw06_sound.j0 k false a0_0 a0_1 a0_2 l0_3))) else (saronlaw06_sound.j0 k false a0_0 a0_1 a0_2 l0_3))) else (saronlaw06_sound.j0 k false a0_0 a0_1 a0_2 l0_3))) = some r := h
 clear h
 have HC2 := zh H
 clear H
 go_enter Tryd.func39, Tryd.ntmps39
 go_upto_region 1 with (first | ((with_reducible refine gate_dst (N := 1) rfl ?_); (try (refine gate_guard (by rfl) ?_; dsimp only)); refine box_event ?hg (N := 1) ?hd (cs := #[.int .i64 a0_0, .int .i64 a0_1, .int .i64 a0_2, .slice A0_3 l0_3.length c0_3]) (t := 24) ?hr ?_; (case hd => rfl); (case hg => rfl); (case hr => first | (go_simp; done) | (go_simp; rfl)); intro gb463 hg w3 hbox hb; have n0_ := zh (below_step zb hb); have n1_ := zh (hbox); have n2_ := zh ((by rw [hg]; exact (below_size zb) : w.heap.size ≤ gb463)); have n3_ := zh ((by rw [hg]; exact (below_size zb) : w.heap.size ≤ gb463)); clear HB; have HB := n0_; have BK463 := n1_; have GW463 := n2_; have GE463 := n3_; clear n0_ n1_ n2_ n3_; clear hb hbox hg))
 (try simp only [Act.put, List.setIfInBounds_toArray, List.set_cons_zero, List.set_cons_succ])
 go_cut [3] (fun v3 wc => ∃ (kq : Nat) (x3_1 : Bool), v3 = .bool x3_1 ∧ Aside0 (saronlaw06_sound.j0 kq x3_1 a0_0 a0_1 a0_2 l0_3 = some r) ∧ Aside0 (kq ≤ k) ∧ Aside0 (wc.heap[gb463]? = some (.cells #[.int .i64 a0_0, .int .i64 a0_1, .int .i64 a0_2, (.slice A0_3 l0_3.length c0_3)] 24 (0, 0))) ∧ Aside0 (Below w.heap.size w wc))
 case first =>
  have H := HC2.out
  clear HC2
  replace H := Option.bind_eq_some_iff.mp H
  obtain ⟨t464, A40, H⟩ := H
  replace H : (if t464 = 0 then ((saronref00_Sits.f a0_0 2 7).bind fun t465 => (if t465 = true then ((saronref00_Sits.f a0_1 1 3).bind fun t466 => (if t466 = true then ((saronref00_Sits.f a0_2 2 16).bind fun t467 => (if t467 = true then (if (Int.tmod a0_2 2) = 0 then ((saronref00_Sits.f (l0_3.length : Int) 1 5).bind fun t468 => (saronlaw06_sound.j0 k t468 a0_0 a0_1 a0_2 l0_3)) else (saronlaw06_sound.j0 k false a0_0 a0_1 a0_2 l0_3)) else (saronlaw06_sound.j0 k false a0_0 a0_1 a0_2 l0_3))) else (saronlaw06_sound.j0 k false a0_0 a0_1 a0_2 l0_3))) else (saronlaw06_sound.j0 k false a0_0 a0_1 a0_2 l0_3))) else (saronlaw06_sound.j0 k false a0_0 a0_1 a0_2 l0_3)) = some r := H
  have A4 := zh A40
  clear A40
  by_cases c5 : t464 = 0
  ·rw [if_pos c5] at H
   have c5b0 : (t464 == 0) = true := beq_iff_eq.mpr c5
   have c5b1 : (t464 != 0) = false := bne_eq_false_iff_eq.mpr c5
   clear c5
   (first | rw [c5b0] | (simp only [i64_w, i32_w]; rw [c5b0]) | skip)
   replace H := Option.bind_eq_some_iff.mp H
   obtain ⟨t465, A60, H⟩ := H
   replace H : (if t465 = true then ((saronref00_Sits.f a0_1 1 3).bind fun t466 => (if t466 = true then ((saronref00_Sits.f a0_2 2 16).bind fun t467 => (if t467 = true then (if (Int.tmod a0_2 2) = 0 then ((saronref00_Sits.f (l0_3.length : Int) 1 5).bind fun t468 => (saronlaw06_sound.j0 k t468 a0_0 a0_1 a0_2 l0_3)) else (saronlaw06_sound.j0 k false a0_0 a0_1 a0_2 l0_3)) else (saronlaw06_sound.j0 k false a0_0 a0_1 a0_2 l0_3))) else (saronlaw06_sound.j0 k false a0_0 a0_1 a0_2 l0_3))) else (saronlaw06_sound.j0 k false a0_0 a0_1 a0_2 l0_3)) = some r := H
   have A6 := zh A60
   clear A60
   by_cases c7 : t465 = true
   ·subst c7
    have H1 : ((saronref00_Sits.f a0_1 1 3).bind fun t466 => (if t466 = true then ((saronref00_Sits.f a0_2 2 16).bind fun t467 => (if t467 = true then (if (Int.tmod a0_2 2) = 0 then ((saronref00_Sits.f (l0_3.length : Int) 1 5).bind fun t468 => (saronlaw06_sound.j0 k t468 a0_0 a0_1 a0_2 l0_3)) else (saronlaw06_sound.j0 k false a0_0 a0_1 a0_2 l0_3)) else (saronlaw06_sound.j0 k false a0_0 a0_1 a0_2 l0_3))) else (saronlaw06_sound.j0 k false a0_0 a0_1 a0_2 l0_3))) = some r := by rw [if_pos rfl] at H; exact H
    clear H
    have H := H1
    clear H1
    replace H := Option.bind_eq_some_iff.mp H
    obtain ⟨t466, A80, H⟩ := H
    replace H : (if t466 = true then ((saronref00_Sits.f a0_2 2 16).bind fun t467 => (if t467 = true then (if (Int.tmod a0_2 2) = 0 then ((saronref00_Sits.f (l0_3.length : Int) 1 5).bind fun t468 => (saronlaw06_sound.j0 k t468 a0_0 a0_1 a0_2 l0_3)) else (saronlaw06_sound.j0 k false a0_0 a0_1 a0_2 l0_3)) else (saronlaw06_sound.j0 k false a0_0 a0_1 a0_2 l0_3))) else (saronlaw06_sound.j0 k false a0_0 a0_1 a0_2 l0_3)) = some r := H
    have A8 := zh A80
    clear A80
    by_cases c9 : t466 = true
    ·subst c9
     have H1 : ((saronref00_Sits.f a0_2 2 16).bind fun t467 => (if t467 = true then (if (Int.tmod a0_2 2) = 0 then ((saronref00_Sits.f (l0_3.length : Int) 1 5).bind fun t468 => (saronlaw06_sound.j0 k t468 a0_0 a0_1 a0_2 l0_3)) else (saronlaw06_sound.j0 k false a0_0 a0_1 a0_2 l0_3)) else (saronlaw06_sound.j0 k false a0_0 a0_1 a0_2 l0_3))) = some r := by rw [if_pos rfl] at H; exact H
     clear H
     have H := H1
     clear H1
     replace H := Option.bind_eq_some_iff.mp H
     obtain ⟨t467, A100, H⟩ := H
     replace H : (if t467 = true then (if (Int.tmod a0_2 2) = 0 then ((saronref00_Sits.f (l0_3.length : Int) 1 5).bind fun t468 => (saronlaw06_sound.j0 k t468 a0_0 a0_1 a0_2 l0_3)) else (saronlaw06_sound.j0 k false a0_0 a0_1 a0_2 l0_3)) else (saronlaw06_sound.j0 k false a0_0 a0_1 a0_2 l0_3)) = some r := H
     have A10 := zh A100
     clear A100
     by_cases c11 : t467 = true
     ·subst c11
      have H1 : (if (Int.tmod a0_2 2) = 0 then ((saronref00_Sits.f (l0_3.length : Int) 1 5).bind fun t468 => (saronlaw06_sound.j0 k t468 a0_0 a0_1 a0_2 l0_3)) else (saronlaw06_sound.j0 k false a0_0 a0_1 a0_2 l0_3)) = some r := by rw [if_pos rfl] at H; exact H
      clear H
      have H := H1
      clear H1
      by_cases c12 : (Int.tmod a0_2 2) = 0
      ·rw [if_pos c12] at H
       have c12b0 : ((Int.tmod a0_2 2) == 0) = true := beq_iff_eq.mpr c12
       have c12b1 : ((Int.tmod a0_2 2) != 0) = false := bne_eq_false_iff_eq.mpr c12
       clear c12
       replace H := Option.bind_eq_some_iff.mp H
       obtain ⟨t468, A130, H⟩ := H
       replace H : (saronlaw06_sound.j0 k t468 a0_0 a0_1 a0_2 l0_3) = some r := H
       have A13 := zh A130
       clear A130
       have H' := zh H
       clear H
       have hcz14_0 : w3.cell? ⟨gb463, 0, none⟩ = some (.int .i64 a0_0) := vb BK463 0
       have hcz14_1 : w3.cell? ⟨gb463, 1, none⟩ = some (.int .i64 a0_1) := vb BK463 1
       have hcz14_2 : w3.cell? ⟨gb463, 2, none⟩ = some (.int .i64 a0_2) := vb BK463 2
       have hcz14_3 : w3.cell? ⟨gb463, 3, none⟩ = some (.slice A0_3 l0_3.length c0_3) := vb BK463 3
       have hfz14_0 := blk_frozen BK463.out 0
       have hfz14_1 := blk_frozen BK463.out 1
       have hfz14_2 := blk_frozen BK463.out 2
       have hfz14_3 := blk_frozen BK463.out 3
       go_wp2_with (first | ((with_reducible refine gate_callee (f := 19) rfl ?_); refine goesL_ (some 7) rfl rfl Tryd.func19 zk rfl #[.agg #[.int .i64 a0_0, .int .i64 a0_1, .int .i64 a0_2, .slice A0_3 l0_3.length c0_3]] rfl zm ?_; (with_reducible refine (kernel_Check.calls k a0_0 a0_1 a0_2 _ _ l0_3 t464 _ ?side1 ?side2 A4.out).mono ?_); (case side1 => repeat (first | exact (Kd.C_below HR0_3.out HB.out) | (with_reducible refine Kd.C_alloc ?_ _) | (with_reducible refine Kd.C_drewN ?_ _) | (with_reducible refine Kd.C_drew ?_))); (case side2 => exact HC0_3.out); rintro e w15 ⟨rfl, hb⟩; refine ⟨_, rfl, ?_⟩; have n0_ := zh (blk_below (g := gb463) (o := .cells #[.int .i64 a0_0, .int .i64 a0_1, .int .i64 a0_2, .slice A0_3 l0_3.length c0_3] 24 (0, 0)) (zc BK463) hb); have n1_ := zh (below_step zb hb); clear BK463; clear HB; have BK463 := n0_; have HB := n1_; clear n0_ n1_; (try clear hb); (try clear hb2); (try clear hk); (try clear hi); have hcz16_0 : w15.cell? ⟨gb463, 0, none⟩ = some (.int .i64 a0_0) := vb BK463 0; have hcz16_1 : w15.cell? ⟨gb463, 1, none⟩ = some (.int .i64 a0_1) := vb BK463 1; have hcz16_2 : w15.cell? ⟨gb463, 2, none⟩ = some (.int .i64 a0_2) := vb BK463 2; have hcz16_3 : w15.cell? ⟨gb463, 3, none⟩ = some (.slice A0_3 l0_3.length c0_3) := vb BK463 3; have hfz16_0 := blk_frozen BK463.out 0; have hfz16_1 := blk_frozen BK463.out 1; have hfz16_2 := blk_frozen BK463.out 2; have hfz16_3 := blk_frozen BK463.out 3) | (go_at_call 45; (with_reducible refine (saronref00_Sits.calls a0_0 2 7 true _ A6.out).mono ?_); rintro e w' ⟨rfl, ⟨nd, rfl⟩⟩) | (go_at_call 45; (with_reducible refine (saronref00_Sits.calls a0_1 1 3 true _ A8.out).mono ?_); rintro e w' ⟨rfl, ⟨nd, rfl⟩⟩) | (go_at_call 45; (with_reducible refine (saronref00_Sits.calls a0_2 2 16 true _ A10.out).mono ?_); rintro e w' ⟨rfl, ⟨nd, rfl⟩⟩) | (go_at_call 45; (with_reducible refine (saronref00_Sits.calls (l0_3.length : Int) 1 5 t468 _ A13.out).mono ?_); rintro e w' ⟨rfl, ⟨nd, rfl⟩⟩))
       go_meet
       case rel => exact ⟨_, (t468), ze, H', ⟨zo1⟩, ⟨zc BK463⟩, ⟨zb⟩⟩
      ·rw [if_neg c12] at H
       have c12b0 : ((Int.tmod a0_2 2) == 0) = false := beq_eq_false_iff_ne.mpr c12
       have c12b1 : ((Int.tmod a0_2 2) != 0) = true := bne_iff_ne.mpr c12
       have H' := zh H
       clear H
       have hcz17_0 : w3.cell? ⟨gb463, 0, none⟩ = some (.int .i64 a0_0) := vb BK463 0
       have hcz17_1 : w3.cell? ⟨gb463, 1, none⟩ = some (.int .i64 a0_1) := vb BK463 1
       have hcz17_2 : w3.cell? ⟨gb463, 2, none⟩ = some (.int .i64 a0_2) := vb BK463 2
       have hcz17_3 : w3.cell? ⟨gb463, 3, none⟩ = some (.slice A0_3 l0_3.length c0_3) := vb BK463 3
       have hfz17_0 := blk_frozen BK463.out 0
       have hfz17_1 := blk_frozen BK463.out 1
       have hfz17_2 := blk_frozen BK463.out 2
       have hfz17_3 := blk_frozen BK463.out 3
       go_wp2_with (first | ((with_reducible refine gate_callee (f := 19) rfl ?_); refine goesL_ (some 7) rfl rfl Tryd.func19 zk rfl #[.agg #[.int .i64 a0_0, .int .i64 a0_1, .int .i64 a0_2, .slice A0_3 l0_3.length c0_3]] rfl zm ?_; (with_reducible refine (kernel_Check.calls k a0_0 a0_1 a0_2 _ _ l0_3 t464 _ ?side1 ?side2 A4.out).mono ?_); (case side1 => repeat (first | exact (Kd.C_below HR0_3.out HB.out) | (with_reducible refine Kd.C_alloc ?_ _) | (with_reducible refine Kd.C_drewN ?_ _) | (with_reducible refine Kd.C_drew ?_))); (case side2 => exact HC0_3.out); rintro e w18 ⟨rfl, hb⟩; refine ⟨_, rfl, ?_⟩; have n0_ := zh (blk_below (g := gb463) (o := .cells #[.int .i64 a0_0, .int .i64 a0_1, .int .i64 a0_2, .slice A0_3 l0_3.length c0_3] 24 (0, 0)) (zc BK463) hb); have n1_ := zh (below_step zb hb); clear BK463; clear HB; have BK463 := n0_; have HB := n1_; clear n0_ n1_; (try clear hb); (try clear hb2); (try clear hk); (try clear hi); have hcz19_0 : w18.cell? ⟨gb463, 0, none⟩ = some (.int .i64 a0_0) := vb BK463 0; have hcz19_1 : w18.cell? ⟨gb463, 1, none⟩ = some (.int .i64 a0_1) := vb BK463 1; have hcz19_2 : w18.cell? ⟨gb463, 2, none⟩ = some (.int .i64 a0_2) := vb BK463 2; have hcz19_3 : w18.cell? ⟨gb463, 3, none⟩ = some (.slice A0_3 l0_3.length c0_3) := vb BK463 3; have hfz19_0 := blk_frozen BK463.out 0; have hfz19_1 := blk_frozen BK463.out 1; have hfz19_2 := blk_frozen BK463.out 2; have hfz19_3 := blk_frozen BK463.out 3) | (go_at_call 45; (with_reducible refine (saronref00_Sits.calls a0_0 2 7 true _ A6.out).mono ?_); rintro e w' ⟨rfl, ⟨nd, rfl⟩⟩) | (go_at_call 45; (with_reducible refine (saronref00_Sits.calls a0_1 1 3 true _ A8.out).mono ?_); rintro e w' ⟨rfl, ⟨nd, rfl⟩⟩) | (go_at_call 45; (with_reducible refine (saronref00_Sits.calls a0_2 2 16 true _ A10.out).mono ?_); rintro e w' ⟨rfl, ⟨nd, rfl⟩⟩))
       go_meet
       case rel => exact ⟨_, (false), ze, H', ⟨zo1⟩, ⟨zc BK463⟩, ⟨zb⟩⟩
     ·replace c11 := Bool.eq_false_iff.mpr c11
      subst c11
      have H1 : (saronlaw06_sound.j0 k false a0_0 a0_1 a0_2 l0_3) = some r := by rw [if_neg (show ¬ (false = true) by decide)] at H; exact H
      clear H
      have H := H1
      clear H1
      have H' := zh H
      clear H
      have hcz20_0 : w3.cell? ⟨gb463, 0, none⟩ = some (.int .i64 a0_0) := vb BK463 0
      have hcz20_1 : w3.cell? ⟨gb463, 1, none⟩ = some (.int .i64 a0_1) := vb BK463 1
      have hcz20_2 : w3.cell? ⟨gb463, 2, none⟩ = some (.int .i64 a0_2) := vb BK463 2
      have hcz20_3 : w3.cell? ⟨gb463, 3, none⟩ = some (.slice A0_3 l0_3.length c0_3) := vb BK463 3
      have hfz20_0 := blk_frozen BK463.out 0
      have hfz20_1 := blk_frozen BK463.out 1
      have hfz20_2 := blk_frozen BK463.out 2
      have hfz20_3 := blk_frozen BK463.out 3
      go_wp2_with (first | ((with_reducible refine gate_callee (f := 19) rfl ?_); refine goesL_ (some 7) rfl rfl Tryd.func19 zk rfl #[.agg #[.int .i64 a0_0, .int .i64 a0_1, .int .i64 a0_2, .slice A0_3 l0_3.length c0_3]] rfl zm ?_; (with_reducible refine (kernel_Check.calls k a0_0 a0_1 a0_2 _ _ l0_3 t464 _ ?side1 ?side2 A4.out).mono ?_); (case side1 => repeat (first | exact (Kd.C_below HR0_3.out HB.out) | (with_reducible refine Kd.C_alloc ?_ _) | (with_reducible refine Kd.C_drewN ?_ _) | (with_reducible refine Kd.C_drew ?_))); (case side2 => exact HC0_3.out); rintro e w21 ⟨rfl, hb⟩; refine ⟨_, rfl, ?_⟩; have n0_ := zh (blk_below (g := gb463) (o := .cells #[.int .i64 a0_0, .int .i64 a0_1, .int .i64 a0_2, .slice A0_3 l0_3.length c0_3] 24 (0, 0)) (zc BK463) hb); have n1_ := zh (below_step zb hb); clear BK463; clear HB; have BK463 := n0_; have HB := n1_; clear n0_ n1_; (try clear hb); (try clear hb2); (try clear hk); (try clear hi); have hcz22_0 : w21.cell? ⟨gb463, 0, none⟩ = some (.int .i64 a0_0) := vb BK463 0; have hcz22_1 : w21.cell? ⟨gb463, 1, none⟩ = some (.int .i64 a0_1) := vb BK463 1; have hcz22_2 : w21.cell? ⟨gb463, 2, none⟩ = some (.int .i64 a0_2) := vb BK463 2; have hcz22_3 : w21.cell? ⟨gb463, 3, none⟩ = some (.slice A0_3 l0_3.length c0_3) := vb BK463 3; have hfz22_0 := blk_frozen BK463.out 0; have hfz22_1 := blk_frozen BK463.out 1; have hfz22_2 := blk_frozen BK463.out 2; have hfz22_3 := blk_frozen BK463.out 3) | (go_at_call 45; (with_reducible refine (saronref00_Sits.calls a0_0 2 7 true _ A6.out).mono ?_); rintro e w' ⟨rfl, ⟨nd, rfl⟩⟩) | (go_at_call 45; (with_reducible refine (saronref00_Sits.calls a0_1 1 3 true _ A8.out).mono ?_); rintro e w' ⟨rfl, ⟨nd, rfl⟩⟩) | (go_at_call 45; (with_reducible refine (saronref00_Sits.calls a0_2 2 16 false _ A10.out).mono ?_); rintro e w' ⟨rfl, ⟨nd, rfl⟩⟩))
      go_meet
      case rel => exact ⟨_, (false), ze, H', ⟨zo1⟩, ⟨zc BK463⟩, ⟨zb⟩⟩
    ·replace c9 := Bool.eq_false_iff.mpr c9
     subst c9
     have H1 : (saronlaw06_sound.j0 k false a0_0 a0_1 a0_2 l0_3) = some r := by rw [if_neg (show ¬ (false = true) by decide)] at H; exact H
     clear H
     have H := H1
     clear H1
     have H' := zh H
     clear H
     have hcz23_0 : w3.cell? ⟨gb463, 0, none⟩ = some (.int .i64 a0_0) := vb BK463 0
     have hcz23_1 : w3.cell? ⟨gb463, 1, none⟩ = some (.int .i64 a0_1) := vb BK463 1
     have hcz23_2 : w3.cell? ⟨gb463, 2, none⟩ = some (.int .i64 a0_2) := vb BK463 2
     have hcz23_3 : w3.cell? ⟨gb463, 3, none⟩ = some (.slice A0_3 l0_3.length c0_3) := vb BK463 3
     have hfz23_0 := blk_frozen BK463.out 0
     have hfz23_1 := blk_frozen BK463.out 1
     have hfz23_2 := blk_frozen BK463.out 2
     have hfz23_3 := blk_frozen BK463.out 3
     go_wp2_with (first | ((with_reducible refine gate_callee (f := 19) rfl ?_); refine goesL_ (some 7) rfl rfl Tryd.func19 zk rfl #[.agg #[.int .i64 a0_0, .int .i64 a0_1, .int .i64 a0_2, .slice A0_3 l0_3.length c0_3]] rfl zm ?_; (with_reducible refine (kernel_Check.calls k a0_0 a0_1 a0_2 _ _ l0_3 t464 _ ?side1 ?side2 A4.out).mono ?_); (case side1 => repeat (first | exact (Kd.C_below HR0_3.out HB.out) | (with_reducible refine Kd.C_alloc ?_ _) | (with_reducible refine Kd.C_drewN ?_ _) | (with_reducible refine Kd.C_drew ?_))); (case side2 => exact HC0_3.out); rintro e w24 ⟨rfl, hb⟩; refine ⟨_, rfl, ?_⟩; have n0_ := zh (blk_below (g := gb463) (o := .cells #[.int .i64 a0_0, .int .i64 a0_1, .int .i64 a0_2, .slice A0_3 l0_3.length c0_3] 24 (0, 0)) (zc BK463) hb); have n1_ := zh (below_step zb hb); clear BK463; clear HB; have BK463 := n0_; have HB := n1_; clear n0_ n1_; (try clear hb); (try clear hb2); (try clear hk); (try clear hi); have hcz25_0 : w24.cell? ⟨gb463, 0, none⟩ = some (.int .i64 a0_0) := vb BK463 0; have hcz25_1 : w24.cell? ⟨gb463, 1, none⟩ = some (.int .i64 a0_1) := vb BK463 1; have hcz25_2 : w24.cell? ⟨gb463, 2, none⟩ = some (.int .i64 a0_2) := vb BK463 2; have hcz25_3 : w24.cell? ⟨gb463, 3, none⟩ = some (.slice A0_3 l0_3.length c0_3) := vb BK463 3; have hfz25_0 := blk_frozen BK463.out 0; have hfz25_1 := blk_frozen BK463.out 1; have hfz25_2 := blk_frozen BK463.out 2; have hfz25_3 := blk_frozen BK463.out 3) | (go_at_call 45; (with_reducible refine (saronref00_Sits.calls a0_0 2 7 true _ A6.out).mono ?_); rintro e w' ⟨rfl, ⟨nd, rfl⟩⟩) | (go_at_call 45; (with_reducible refine (saronref00_Sits.calls a0_1 1 3 false _ A8.out).mono ?_); rintro e w' ⟨rfl, ⟨nd, rfl⟩⟩))
     go_meet
     case rel => exact ⟨_, (false), ze, H', ⟨zo1⟩, ⟨zc BK463⟩, ⟨zb⟩⟩
   ·replace c7 := Bool.eq_false_iff.mpr c7
    subst c7
    have H1 : (saronlaw06_sound.j0 k false a0_0 a0_1 a0_2 l0_3) = some r := by rw [if_neg (show ¬ (false = true) by decide)] at H; exact H
    clear H
    have H := H1
    clear H1
    have H' := zh H
    clear H
    have hcz26_0 : w3.cell? ⟨gb463, 0, none⟩ = some (.int .i64 a0_0) := vb BK463 0
    have hcz26_1 : w3.cell? ⟨gb463, 1, none⟩ = some (.int .i64 a0_1) := vb BK463 1
    have hcz26_2 : w3.cell? ⟨gb463, 2, none⟩ = some (.int .i64 a0_2) := vb BK463 2
    have hcz26_3 : w3.cell? ⟨gb463, 3, none⟩ = some (.slice A0_3 l0_3.length c0_3) := vb BK463 3
    have hfz26_0 := blk_frozen BK463.out 0
    have hfz26_1 := blk_frozen BK463.out 1
    have hfz26_2 := blk_frozen BK463.out 2
    have hfz26_3 := blk_frozen BK463.out 3
    go_wp2_with (first | ((with_reducible refine gate_callee (f := 19) rfl ?_); refine goesL_ (some 7) rfl rfl Tryd.func19 zk rfl #[.agg #[.int .i64 a0_0, .int .i64 a0_1, .int .i64 a0_2, .slice A0_3 l0_3.length c0_3]] rfl zm ?_; (with_reducible refine (kernel_Check.calls k a0_0 a0_1 a0_2 _ _ l0_3 t464 _ ?side1 ?side2 A4.out).mono ?_); (case side1 => repeat (first | exact (Kd.C_below HR0_3.out HB.out) | (with_reducible refine Kd.C_alloc ?_ _) | (with_reducible refine Kd.C_drewN ?_ _) | (with_reducible refine Kd.C_drew ?_))); (case side2 => exact HC0_3.out); rintro e w27 ⟨rfl, hb⟩; refine ⟨_, rfl, ?_⟩; have n0_ := zh (blk_below (g := gb463) (o := .cells #[.int .i64 a0_0, .int .i64 a0_1, .int .i64 a0_2, .slice A0_3 l0_3.length c0_3] 24 (0, 0)) (zc BK463) hb); have n1_ := zh (below_step zb hb); clear BK463; clear HB; have BK463 := n0_; have HB := n1_; clear n0_ n1_; (try clear hb); (try clear hb2); (try clear hk); (try clear hi); have hcz28_0 : w27.cell? ⟨gb463, 0, none⟩ = some (.int .i64 a0_0) := vb BK463 0; have hcz28_1 : w27.cell? ⟨gb463, 1, none⟩ = some (.int .i64 a0_1) := vb BK463 1; have hcz28_2 : w27.cell? ⟨gb463, 2, none⟩ = some (.int .i64 a0_2) := vb BK463 2; have hcz28_3 : w27.cell? ⟨gb463, 3, none⟩ = some (.slice A0_3 l0_3.length c0_3) := vb BK463 3; have hfz28_0 := blk_frozen BK463.out 0; have hfz28_1 := blk_frozen BK463.out 1; have hfz28_2 := blk_frozen BK463.out 2; have hfz28_3 := blk_frozen BK463.out 3) | (go_at_call 45; (with_reducible refine (saronref00_Sits.calls a0_0 2 7 false _ A6.out).mono ?_); rintro e w' ⟨rfl, ⟨nd, rfl⟩⟩))
    go_meet
    case rel => exact ⟨_, (false), ze, H', ⟨zo1⟩, ⟨zc BK463⟩, ⟨zb⟩⟩
  ·rw [if_neg c5] at H
   have c5b0 : (t464 == 0) = false := beq_eq_false_iff_ne.mpr c5
   have c5b1 : (t464 != 0) = true := bne_iff_ne.mpr c5
   (first | rw [c5b0] | (simp only [i64_w, i32_w]; rw [c5b0]) | skip)
   have H' := zh H
   clear H
   have hcz29_0 : w3.cell? ⟨gb463, 0, none⟩ = some (.int .i64 a0_0) := vb BK463 0
   have hcz29_1 : w3.cell? ⟨gb463, 1, none⟩ = some (.int .i64 a0_1) := vb BK463 1
   have hcz29_2 : w3.cell? ⟨gb463, 2, none⟩ = some (.int .i64 a0_2) := vb BK463 2
   have hcz29_3 : w3.cell? ⟨gb463, 3, none⟩ = some (.slice A0_3 l0_3.length c0_3) := vb BK463 3
   have hfz29_0 := blk_frozen BK463.out 0
   have hfz29_1 := blk_frozen BK463.out 1
   have hfz29_2 := blk_frozen BK463.out 2
   have hfz29_3 := blk_frozen BK463.out 3
   go_wp2_with (first | ((with_reducible refine gate_callee (f := 19) rfl ?_); refine goesL_ (some 7) rfl rfl Tryd.func19 zk rfl #[.agg #[.int .i64 a0_0, .int .i64 a0_1, .int .i64 a0_2, .slice A0_3 l0_3.length c0_3]] rfl zm ?_; (with_reducible refine (kernel_Check.calls k a0_0 a0_1 a0_2 _ _ l0_3 t464 _ ?side1 ?side2 A4.out).mono ?_); (case side1 => repeat (first | exact (Kd.C_below HR0_3.out HB.out) | (with_reducible refine Kd.C_alloc ?_ _) | (with_reducible refine Kd.C_drewN ?_ _) | (with_reducible refine Kd.C_drew ?_))); (case side2 => exact HC0_3.out); rintro e w30 ⟨rfl, hb⟩; refine ⟨_, rfl, ?_⟩; have n0_ := zh (blk_below (g := gb463) (o := .cells #[.int .i64 a0_0, .int .i64 a0_1, .int .i64 a0_2, .slice A0_3 l0_3.length c0_3] 24 (0, 0)) (zc BK463) hb); have n1_ := zh (below_step zb hb); clear BK463; clear HB; have BK463 := n0_; have HB := n1_; clear n0_ n1_; (try clear hb); (try clear hb2); (try clear hk); (try clear hi)))
   go_meet
   case rel => exact ⟨_, (false), ze, H', ⟨zo1⟩, ⟨zc BK463⟩, ⟨zb⟩⟩
 case rest =>
  clear HC2
  try clear c1
  try clear p2
  try clear c3
  try clear c5
  try clear c5b0
  try clear c5b1
  try clear c7
  try clear c9
  try clear c11
  try clear c12
  try clear c12b0
  try clear c12b1
  try clear c19
  try clear hcz14_0
  try clear hcz14_1
  try clear hcz14_2
  try clear hcz14_3
  try clear hcz16_0
  try clear hcz16_1
  try clear hcz16_2
  try clear hcz16_3
  try clear hcz17_0
  try clear hcz17_1
  try clear hcz17_2
  try clear hcz17_3
  try clear hcz19_0
  try clear hcz19_1
  try clear hcz19_2
  try clear hcz19_3
  try clear hcz20_0
  try clear hcz20_1
  try clear hcz20_2
  try clear hcz20_3
  try clear hcz22_0
  try clear hcz22_1
  try clear hcz22_2
  try clear hcz22_3
  try clear hcz23_0
  try clear hcz23_1
  try clear hcz23_2
  try clear hcz23_3
  try clear hcz25_0
  try clear hcz25_1
  try clear hcz25_2
  try clear hcz25_3
  try clear hcz26_0
  try clear hcz26_1
  try clear hcz26_2
  try clear hcz26_3
  try clear hcz28_0
  try clear hcz28_1
  try clear hcz28_2
  try clear hcz28_3
  try clear hcz29_0
  try clear hcz29_1
  try clear hcz29_2
  try clear hcz29_3
  try clear hfz14_0
  try clear hfz14_1
  try clear hfz14_2
  try clear hfz14_3
  try clear hfz16_0
  try clear hfz16_1
  try clear hfz16_2
  try clear hfz16_3
  try clear hfz17_0
  try clear hfz17_1
  try clear hfz17_2
  try clear hfz17_3
  try clear hfz19_0
  try clear hfz19_1
  try clear hfz19_2
  try clear hfz19_3
  try clear hfz20_0
  try clear hfz20_1
  try clear hfz20_2
  try clear hfz20_3
  try clear hfz22_0
  try clear hfz22_1
  try clear hfz22_2
  try clear hfz22_3
  try clear hfz23_0
  try clear hfz23_1
  try clear hfz23_2
  try clear hfz23_3
  try clear hfz25_0
  try clear hfz25_1
  try clear hfz25_2
  try clear hfz25_3
  try clear hfz26_0
  try clear hfz26_1
  try clear hfz26_2
  try clear hfz26_3
  try clear hfz28_0
  try clear hfz28_1
  try clear hfz28_2
  try clear hfz28_3
  try clear hfz29_0
  try clear hfz29_1
  try clear hfz29_2
  try clear hfz29_3
  obtain ⟨kq, x3_1, rfl, HA, HJ1, BK463, HB⟩ := hcut
  cases kq with
  | zero => exact absurd HA.out (by simp [saronlaw06_sound.j0])
  | succ kj1 =>
   have H := HA.out
   clear HA
   simp only [saronlaw06_sound.j0] at H
   have H' := zh H
   clear H
   go_wp2
   go_loopg [3, 4] kj1 (fun kq v3 v4 w' => ∃ (x3_2 : Bool) (x4_2 : Int), v3 = .bool x3_2 ∧ v4 = .int .i64 x4_2 ∧ Aside0 (saronlaw06_sound.l0 kq x3_2 x4_2 a0_0 a0_1 a0_2 l0_3 = some r) ∧ Aside0 (kq ≤ kj1) ∧ Aside0 (w'.heap[gb463]? = some (.cells #[.int .i64 a0_0, .int .i64 a0_1, .int .i64 a0_2, (.slice A0_3 l0_3.length c0_3)] 24 (0, 0))) ∧ Aside0 (Below w.heap.size w w'))
   case atStart => exact ⟨(x3_1), (0), ze, ze, H', ⟨Nat.le_refl _⟩, ⟨zc BK463⟩, ⟨zb⟩⟩
   case round =>
    clear H'
    try clear c1
    try clear p2
    try clear c3
    try clear c5
    try clear c5b0
    try clear c5b1
    try clear c7
    try clear c9
    try clear c11
    try clear c12
    try clear c12b0
    try clear c12b1
    try clear c19
    try clear hcz14_0
    try clear hcz14_1
    try clear hcz14_2
    try clear hcz14_3
    try clear hcz16_0
    try clear hcz16_1
    try clear hcz16_2
    try clear hcz16_3
    try clear hcz17_0
    try clear hcz17_1
    try clear hcz17_2
    try clear hcz17_3
    try clear hcz19_0
    try clear hcz19_1
    try clear hcz19_2
    try clear hcz19_3
    try clear hcz20_0
    try clear hcz20_1
    try clear hcz20_2
    try clear hcz20_3
    try clear hcz22_0
    try clear hcz22_1
    try clear hcz22_2
    try clear hcz22_3
    try clear hcz23_0
    try clear hcz23_1
    try clear hcz23_2
    try clear hcz23_3
    try clear hcz25_0
    try clear hcz25_1
    try clear hcz25_2
    try clear hcz25_3
    try clear hcz26_0
    try clear hcz26_1
    try clear hcz26_2
    try clear hcz26_3
    try clear hcz28_0
    try clear hcz28_1
    try clear hcz28_2
    try clear hcz28_3
    try clear hcz29_0
    try clear hcz29_1
    try clear hcz29_2
    try clear hcz29_3
    try clear hfz14_0
    try clear hfz14_1
    try clear hfz14_2
    try clear hfz14_3
    try clear hfz16_0
    try clear hfz16_1
    try clear hfz16_2
    try clear hfz16_3
    try clear hfz17_0
    try clear hfz17_1
    try clear hfz17_2
    try clear hfz17_3
    try clear hfz19_0
    try clear hfz19_1
    try clear hfz19_2
    try clear hfz19_3
    try clear hfz20_0
    try clear hfz20_1
    try clear hfz20_2
    try clear hfz20_3
    try clear hfz22_0
    try clear hfz22_1
    try clear hfz22_2
    try clear hfz22_3
    try clear hfz23_0
    try clear hfz23_1
    try clear hfz23_2
    try clear hfz23_3
    try clear hfz25_0
    try clear hfz25_1
    try clear hfz25_2
    try clear hfz25_3
    try clear hfz26_0
    try clear hfz26_1
    try clear hfz26_2
    try clear hfz26_3
    try clear hfz28_0
    try clear hfz28_1
    try clear hfz28_2
    try clear hfz28_3
    try clear hfz29_0
    try clear hfz29_1
    try clear hfz29_2
    try clear hfz29_3
    try clear p2
    obtain ⟨x3_2, x4_2, rfl, rfl, HA, HK2, BK463, HB⟩ := hrel
    cases gk with
    | zero => exact absurd HA.out (by simp [saronlaw06_sound.l0])
    | succ k2 =>
     have H := HA.out
     clear HA
     simp only [saronlaw06_sound.l0] at H
     have HC31 := zh H
     clear H
     go_upto_region 3 with (fail)
     go_cut [43] (fun v43 wc => ∃ (kq : Nat) (x43_30 : Bool), v43 = .bool x43_30 ∧ Aside0 (saronlaw06_sound.j2 kq x3_2 x4_2 x43_30 a0_0 a0_1 a0_2 l0_3 = some r) ∧ Aside0 (kq ≤ k2) ∧ Aside0 (wc.heap[gb463]? = some (.cells #[.int .i64 a0_0, .int .i64 a0_1, .int .i64 a0_2, (.slice A0_3 l0_3.length c0_3)] 24 (0, 0))) ∧ Aside0 (Below w.heap.size w wc))
     case first =>
      have H := HC31.out
      clear HC31
      by_cases c32 : x3_2 = true
      ·subst c32
       have H1 : (saronlaw06_sound.j2 k2 true x4_2 (decide (x4_2 < (l0_3.length : Int))) a0_0 a0_1 a0_2 l0_3) = some r := by rw [if_pos rfl] at H; exact H
       clear H
       have H := H1
       clear H1
       have H' := zh H
       clear H
       have hcz33_0 : wr.cell? ⟨gb463, 0, none⟩ = some (.int .i64 a0_0) := vb BK463 0
       have hcz33_1 : wr.cell? ⟨gb463, 1, none⟩ = some (.int .i64 a0_1) := vb BK463 1
       have hcz33_2 : wr.cell? ⟨gb463, 2, none⟩ = some (.int .i64 a0_2) := vb BK463 2
       have hcz33_3 : wr.cell? ⟨gb463, 3, none⟩ = some (.slice A0_3 l0_3.length c0_3) := vb BK463 3
       have hfz33_0 := blk_frozen BK463.out 0
       have hfz33_1 := blk_frozen BK463.out 1
       have hfz33_2 := blk_frozen BK463.out 2
       have hfz33_3 := blk_frozen BK463.out 3
       go_wp2
       go_meet
       case rel => exact ⟨_, (decide (x4_2 < (l0_3.length : Int))), ze, H', ⟨by have := HJ1.out; have := HK2.out; first | omega | exact Nat.le_refl _⟩, ⟨zc BK463⟩, ⟨zb⟩⟩
      ·replace c32 := Bool.eq_false_iff.mpr c32
       subst c32
       have H1 : (saronlaw06_sound.j2 k2 false x4_2 false a0_0 a0_1 a0_2 l0_3) = some r := by rw [if_neg (show ¬ (false = true) by decide)] at H; exact H
       clear H
       have H := H1
       clear H1
       have H' := zh H
       clear H
       go_wp2
       go_meet
       case rel => exact ⟨_, (false), ze, H', ⟨by have := HJ1.out; have := HK2.out; first | omega | exact Nat.le_refl _⟩, ⟨zc BK463⟩, ⟨zb⟩⟩
     case rest =>
      clear HC31
      try clear c1
      try clear p2
      try clear c3
      try clear c5
      try clear c5b0
      try clear c5b1
      try clear c7
      try clear c9
      try clear c11
      try clear c12
      try clear c12b0
      try clear c12b1
      try clear c19
      try clear c32
      try clear hcz14_0
      try clear hcz14_1
      try clear hcz14_2
      try clear hcz14_3
      try clear hcz16_0
      try clear hcz16_1
      try clear hcz16_2
      try clear hcz16_3
      try clear hcz17_0
      try clear hcz17_1
      try clear hcz17_2
      try clear hcz17_3
      try clear hcz19_0
      try clear hcz19_1
      try clear hcz19_2
      try clear hcz19_3
      try clear hcz20_0
      try clear hcz20_1
      try clear hcz20_2
      try clear hcz20_3
      try clear hcz22_0
      try clear hcz22_1
      try clear hcz22_2
      try clear hcz22_3
      try clear hcz23_0
      try clear hcz23_1
      try clear hcz23_2
      try clear hcz23_3
      try clear hcz25_0
      try clear hcz25_1
      try clear hcz25_2
      try clear hcz25_3
      try clear hcz26_0
      try clear hcz26_1
      try clear hcz26_2
      try clear hcz26_3
      try clear hcz28_0
      try clear hcz28_1
      try clear hcz28_2
      try clear hcz28_3
      try clear hcz29_0
      try clear hcz29_1
      try clear hcz29_2
      try clear hcz29_3
      try clear hcz33_0
      try clear hcz33_1
      try clear hcz33_2
      try clear hcz33_3
      try clear hfz14_0
      try clear hfz14_1
      try clear hfz14_2
      try clear hfz14_3
      try clear hfz16_0
      try clear hfz16_1
      try clear hfz16_2
      try clear hfz16_3
      try clear hfz17_0
      try clear hfz17_1
      try clear hfz17_2
      try clear hfz17_3
      try clear hfz19_0
      try clear hfz19_1
      try clear hfz19_2
      try clear hfz19_3
      try clear hfz20_0
      try clear hfz20_1
      try clear hfz20_2
      try clear hfz20_3
      try clear hfz22_0
      try clear hfz22_1
      try clear hfz22_2
      try clear hfz22_3
      try clear hfz23_0
      try clear hfz23_1
      try clear hfz23_2
      try clear hfz23_3
      try clear hfz25_0
      try clear hfz25_1
      try clear hfz25_2
      try clear hfz25_3
      try clear hfz26_0
      try clear hfz26_1
      try clear hfz26_2
      try clear hfz26_3
      try clear hfz28_0
      try clear hfz28_1
      try clear hfz28_2
      try clear hfz28_3
      try clear hfz29_0
      try clear hfz29_1
      try clear hfz29_2
      try clear hfz29_3
      try clear hfz33_0
      try clear hfz33_1
      try clear hfz33_2
      try clear hfz33_3
      try clear p2
      obtain ⟨kq, x43_30, rfl, HA, HJ30, BK463, HB⟩ := hcut
      cases kq with
      | zero => exact absurd HA.out (by simp [saronlaw06_sound.j2])
      | succ kj30 =>
       have H := HA.out
       clear HA
       simp only [saronlaw06_sound.j2] at H
       by_cases c34 : x43_30 = true
       ·subst c34
        have H1 : (if 0 ≤ x4_2 then (if x4_2 < (l0_3.length : Int) then ((saronref00_Sits.f ((rd_T66 l0_3 x4_2).f0) 0 4).bind fun t471 => (if t471 = true then ((saronref00_Band.f ((rd_T66 l0_3 x4_2).f1) ((rd_T66 l0_3 x4_2).f2)).bind fun bt472 => ((saronref00_Good.f bt472.1 bt472.2 0 (wrap64 ((wrap64 (a0_0 * a0_1)) - 1))).bind fun t474 => (if t474 = true then ((saronref00_Sits.f ((rd_T66 l0_3 x4_2).f3) (-6) 6).bind fun t475 => (saronlaw06_sound.l0 kj30 t475 (wrap64 (x4_2 + 1)) a0_0 a0_1 a0_2 l0_3)) else (saronlaw06_sound.l0 kj30 false (wrap64 (x4_2 + 1)) a0_0 a0_1 a0_2 l0_3)))) else (saronlaw06_sound.l0 kj30 false (wrap64 (x4_2 + 1)) a0_0 a0_1 a0_2 l0_3))) else (none)) else (none)) = some r := by rw [if_pos rfl] at H; exact H
        clear H
        have H := H1
        clear H1
        by_cases c35 : 0 ≤ x4_2
        ·rw [if_pos c35] at H
         have c35b0 : decide (0 ≤ x4_2) = true := decide_eq_true c35
         clear c35
         by_cases c36 : x4_2 < (l0_3.length : Int)
         ·rw [if_pos c36] at H
          have c36b0 : decide (x4_2 < (l0_3.length : Int)) = true := decide_eq_true c36
          clear c36
          replace H := Option.bind_eq_some_iff.mp H
          obtain ⟨t471, A370, H⟩ := H
          replace H : (if t471 = true then ((saronref00_Band.f ((rd_T66 l0_3 x4_2).f1) ((rd_T66 l0_3 x4_2).f2)).bind fun bt472 => ((saronref00_Good.f bt472.1 bt472.2 0 (wrap64 ((wrap64 (a0_0 * a0_1)) - 1))).bind fun t474 => (if t474 = true then ((saronref00_Sits.f ((rd_T66 l0_3 x4_2).f3) (-6) 6).bind fun t475 => (saronlaw06_sound.l0 kj30 t475 (wrap64 (x4_2 + 1)) a0_0 a0_1 a0_2 l0_3)) else (saronlaw06_sound.l0 kj30 false (wrap64 (x4_2 + 1)) a0_0 a0_1 a0_2 l0_3)))) else (saronlaw06_sound.l0 kj30 false (wrap64 (x4_2 + 1)) a0_0 a0_1 a0_2 l0_3)) = some r := H
          have A37 := zh A370
          clear A370
          by_cases c38 : t471 = true
          ·subst c38
           have H1 : ((saronref00_Band.f ((rd_T66 l0_3 x4_2).f1) ((rd_T66 l0_3 x4_2).f2)).bind fun bt472 => ((saronref00_Good.f bt472.1 bt472.2 0 (wrap64 ((wrap64 (a0_0 * a0_1)) - 1))).bind fun t474 => (if t474 = true then ((saronref00_Sits.f ((rd_T66 l0_3 x4_2).f3) (-6) 6).bind fun t475 => (saronlaw06_sound.l0 kj30 t475 (wrap64 (x4_2 + 1)) a0_0 a0_1 a0_2 l0_3)) else (saronlaw06_sound.l0 kj30 false (wrap64 (x4_2 + 1)) a0_0 a0_1 a0_2 l0_3)))) = some r := by rw [if_pos rfl] at H; exact H
           clear H
           have H := H1
           clear H1
           replace H := Option.bind_eq_some_iff.mp H
           obtain ⟨⟨t472, t473⟩, A390, H⟩ := H
           replace H : ((saronref00_Good.f t472 t473 0 (wrap64 ((wrap64 (a0_0 * a0_1)) - 1))).bind fun t474 => (if t474 = true then ((saronref00_Sits.f ((rd_T66 l0_3 x4_2).f3) (-6) 6).bind fun t475 => (saronlaw06_sound.l0 kj30 t475 (wrap64 (x4_2 + 1)) a0_0 a0_1 a0_2 l0_3)) else (saronlaw06_sound.l0 kj30 false (wrap64 (x4_2 + 1)) a0_0 a0_1 a0_2 l0_3))) = some r := H
           have A39 := zh A390
           clear A390
           replace H := Option.bind_eq_some_iff.mp H
           obtain ⟨t474, A400, H⟩ := H
           replace H : (if t474 = true then ((saronref00_Sits.f ((rd_T66 l0_3 x4_2).f3) (-6) 6).bind fun t475 => (saronlaw06_sound.l0 kj30 t475 (wrap64 (x4_2 + 1)) a0_0 a0_1 a0_2 l0_3)) else (saronlaw06_sound.l0 kj30 false (wrap64 (x4_2 + 1)) a0_0 a0_1 a0_2 l0_3)) = some r := H
           have A40 := zh A400
           clear A400
           by_cases c41 : t474 = true
           ·subst c41
            have H1 : ((saronref00_Sits.f ((rd_T66 l0_3 x4_2).f3) (-6) 6).bind fun t475 => (saronlaw06_sound.l0 kj30 t475 (wrap64 (x4_2 + 1)) a0_0 a0_1 a0_2 l0_3)) = some r := by rw [if_pos rfl] at H; exact H
            clear H
            have H := H1
            clear H1
            replace H := Option.bind_eq_some_iff.mp H
            obtain ⟨t475, A420, H⟩ := H
            replace H : (saronlaw06_sound.l0 kj30 t475 (wrap64 (x4_2 + 1)) a0_0 a0_1 a0_2 l0_3) = some r := H
            have A42 := zh A420
            clear A420
            have H' := zh H
            clear H
            have hcz43_0 : wc.cell? ⟨gb463, 0, none⟩ = some (.int .i64 a0_0) := vb BK463 0
            have hcz43_1 : wc.cell? ⟨gb463, 1, none⟩ = some (.int .i64 a0_1) := vb BK463 1
            have hcz43_2 : wc.cell? ⟨gb463, 2, none⟩ = some (.int .i64 a0_2) := vb BK463 2
            have hcz43_3 : wc.cell? ⟨gb463, 3, none⟩ = some (.slice A0_3 l0_3.length c0_3) := vb BK463 3
            have hfz43_0 := blk_frozen BK463.out 0
            have hfz43_1 := blk_frozen BK463.out 1
            have hfz43_2 := blk_frozen BK463.out 2
            have hfz43_3 := blk_frozen BK463.out 3
            have p469 : 0 ≤ (x4_2 : Int) := of_decide_eq_true zs
            have q469 : x4_2 < (l0_3.length : Int) := of_decide_eq_true zs
            obtain ⟨ad469, e469, hx469_0, hx469_1, hx469_2, hx469_3⟩ := at_T66 HR0_3.out x4_2 p469 q469
            cases e469
            replace hx469_0 := ve HB.out hx469_0
            replace hx469_1 := ve HB.out hx469_1
            replace hx469_2 := ve HB.out hx469_2
            replace hx469_3 := ve HB.out hx469_3
            replace p469 := eq_true p469
            replace q469 := eq_true q469
            try go_wp2_with (first | ((with_reducible refine gate_dst (N := 5) rfl ?_); (try (refine gate_guard (by rfl) ?_; dsimp only)); refine box_event ?hg (N := 5) ?hd (cs := #[.int .i64 0, .int .i64 0, .int .i64 0, .int .i64 0]) (t := 66) ?hr ?_; (case hd => rfl); (case hg => rfl); (case hr => first | (go_simp; done) | (go_simp; rfl)); intro gb470 hg w44 hbox hb; have n0_ := zh (blk_below (g := gb463) (o := .cells #[.int .i64 a0_0, .int .i64 a0_1, .int .i64 a0_2, .slice (some ad469) l0_3.length c0_3] 24 (0, 0)) (zc BK463) hb); have n1_ := zh (below_step zb hb); have n2_ := zh (hbox); have n3_ := zh ((by rw [hg]; exact (below_size zb) : w.heap.size ≤ gb470)); have n4_ := zh ((by rw [hg]; exact (below_size zb) : w.heap.size ≤ gb470)); have n5_ := zh ((by rw [hg]; exact Nat.ne_of_lt (blk_lt (g := gb463) (o := .cells #[.int .i64 a0_0, .int .i64 a0_1, .int .i64 a0_2, .slice (some ad469) l0_3.length c0_3] 24 (0, 0)) (zc BK463)) : gb463 ≠ gb470)); have n6_ := zh ((by rw [hg]; exact Nat.ne_of_gt (blk_lt (g := gb463) (o := .cells #[.int .i64 a0_0, .int .i64 a0_1, .int .i64 a0_2, .slice (some ad469) l0_3.length c0_3] 24 (0, 0)) (zc BK463)) : gb470 ≠ gb463)); clear BK463; clear HB; have BK463 := n0_; have HB := n1_; have BK470 := n2_; have GW470 := n3_; have GE470 := n4_; have NB463_470 := n5_; have NB470_463 := n6_; clear n0_ n1_ n2_ n3_ n4_ n5_ n6_; clear hb hbox hg; have hnb45 := NB470_463.out; have hnc45 := NB463_470.out; have hcz46_0 : w44.cell? ⟨gb470, 0, none⟩ = some (.int .i64 0) := vb BK470 0; have hcz46_1 : w44.cell? ⟨gb470, 1, none⟩ = some (.int .i64 0) := vb BK470 1; have hcz46_2 : w44.cell? ⟨gb470, 2, none⟩ = some (.int .i64 0) := vb BK470 2; have hcz46_3 : w44.cell? ⟨gb470, 3, none⟩ = some (.int .i64 0) := vb BK470 3; have hfz46_0 := blk_frozen BK470.out 0; have hfz46_1 := blk_frozen BK470.out 1; have hfz46_2 := blk_frozen BK470.out 2; have hfz46_3 := blk_frozen BK470.out 3))
            have n0_ : Aside0 (((((w44.setCell ⟨gb470, 0, none⟩ (.int .i64 ((rd_T66 l0_3 x4_2).f0))).setCell ⟨gb470, 1, none⟩ (.int .i64 ((rd_T66 l0_3 x4_2).f1))).setCell ⟨gb470, 2, none⟩ (.int .i64 ((rd_T66 l0_3 x4_2).f2))).setCell ⟨gb470, 3, none⟩ (.int .i64 ((rd_T66 l0_3 x4_2).f3))).heap[gb463]? = some (.cells #[.int .i64 a0_0, .int .i64 a0_1, .int .i64 a0_2, .slice (some ad469) l0_3.length c0_3] 24 (0, 0))) := ⟨by (with_reducible repeat (first | refine blk_drewN ?_ _ | refine blk_drew ?_ | refine blk_alloc ?_ _)); refine blk_far ?_ NB463_470.out _; (with_reducible repeat (first | refine blk_drewN ?_ _ | refine blk_drew ?_ | refine blk_alloc ?_ _)); refine blk_far ?_ NB463_470.out _; (with_reducible repeat (first | refine blk_drewN ?_ _ | refine blk_drew ?_ | refine blk_alloc ?_ _)); refine blk_far ?_ NB463_470.out _; (with_reducible repeat (first | refine blk_drewN ?_ _ | refine blk_drew ?_ | refine blk_alloc ?_ _)); refine blk_far ?_ NB463_470.out _; (with_reducible repeat (first | refine blk_drewN ?_ _ | refine blk_drew ?_ | refine blk_alloc ?_ _)); exact BK463.out⟩
            have n1_ : Aside0 (((((w44.setCell ⟨gb470, 0, none⟩ (.int .i64 ((rd_T66 l0_3 x4_2).f0))).setCell ⟨gb470, 1, none⟩ (.int .i64 ((rd_T66 l0_3 x4_2).f1))).setCell ⟨gb470, 2, none⟩ (.int .i64 ((rd_T66 l0_3 x4_2).f2))).setCell ⟨gb470, 3, none⟩ (.int .i64 ((rd_T66 l0_3 x4_2).f3))).heap[gb470]? = some (.cells #[.int .i64 ((rd_T66 l0_3 x4_2).f0), .int .i64 ((rd_T66 l0_3 x4_2).f1), .int .i64 ((rd_T66 l0_3 x4_2).f2), .int .i64 ((rd_T66 l0_3 x4_2).f3)] 66 (0, 0))) := ⟨by (with_reducible repeat (first | refine blk_drewN ?_ _ | refine blk_drew ?_ | refine blk_alloc ?_ _)); refine blk_put (cs := #[.int .i64 ((rd_T66 l0_3 x4_2).f0), .int .i64 ((rd_T66 l0_3 x4_2).f1), .int .i64 ((rd_T66 l0_3 x4_2).f2), .int .i64 0]) ?_ 3 _ rfl; (with_reducible repeat (first | refine blk_drewN ?_ _ | refine blk_drew ?_ | refine blk_alloc ?_ _)); refine blk_put (cs := #[.int .i64 ((rd_T66 l0_3 x4_2).f0), .int .i64 ((rd_T66 l0_3 x4_2).f1), .int .i64 0, .int .i64 0]) ?_ 2 _ rfl; (with_reducible repeat (first | refine blk_drewN ?_ _ | refine blk_drew ?_ | refine blk_alloc ?_ _)); refine blk_put (cs := #[.int .i64 ((rd_T66 l0_3 x4_2).f0), .int .i64 0, .int .i64 0, .int .i64 0]) ?_ 1 _ rfl; (with_reducible repeat (first | refine blk_drewN ?_ _ | refine blk_drew ?_ | refine blk_alloc ?_ _)); refine blk_put (cs := #[.int .i64 0, .int .i64 0, .int .i64 0, .int .i64 0]) ?_ 0 _ rfl; (with_reducible repeat (first | refine blk_drewN ?_ _ | refine blk_drew ?_ | refine blk_alloc ?_ _)); exact BK470.out⟩
            have n2_ : Aside0 (Below w.heap.size w ((((w44.setCell ⟨gb470, 0, none⟩ (.int .i64 ((rd_T66 l0_3 x4_2).f0))).setCell ⟨gb470, 1, none⟩ (.int .i64 ((rd_T66 l0_3 x4_2).f1))).setCell ⟨gb470, 2, none⟩ (.int .i64 ((rd_T66 l0_3 x4_2).f2))).setCell ⟨gb470, 3, none⟩ (.int .i64 ((rd_T66 l0_3 x4_2).f3)))) := ⟨zb⟩
            (try clear BK463)
            (try clear BK470)
            (try clear HB)
            generalize ((((w44.setCell ⟨gb470, 0, none⟩ (.int .i64 ((rd_T66 l0_3 x4_2).f0))).setCell ⟨gb470, 1, none⟩ (.int .i64 ((rd_T66 l0_3 x4_2).f1))).setCell ⟨gb470, 2, none⟩ (.int .i64 ((rd_T66 l0_3 x4_2).f2))).setCell ⟨gb470, 3, none⟩ (.int .i64 ((rd_T66 l0_3 x4_2).f3))) = w47 at n0_ n1_ n2_ ⊢
            have BK463 := n0_
            have BK470 := n1_
            have HB := n2_
            clear n0_ n1_ n2_
            replace BK463 := zh (blk_drew BK463.out)
            replace BK470 := zh (blk_drew BK470.out)
            replace HB := zh (below_drew1 HB.out)
            refine start_ (n := 23) (S := fun w' => w'.cell? ⟨gb470, 0, none⟩ = some (.int .i64 ((rd_T66 l0_3 x4_2).f0)) ∧ w'.cell? ⟨gb470, 1, none⟩ = some (.int .i64 ((rd_T66 l0_3 x4_2).f1)) ∧ w'.cell? ⟨gb470, 2, none⟩ = some (.int .i64 ((rd_T66 l0_3 x4_2).f2)) ∧ w'.cell? ⟨gb470, 3, none⟩ = some (.int .i64 ((rd_T66 l0_3 x4_2).f3)) ∧ w'.cell? ⟨gb463, 0, none⟩ = some (.int .i64 a0_0) ∧ w'.cell? ⟨gb463, 1, none⟩ = some (.int .i64 a0_1) ∧ w'.cell? ⟨gb463, 2, none⟩ = some (.int .i64 a0_2) ∧ w'.cell? ⟨gb463, 3, none⟩ = some (.slice (some ad469) l0_3.length c0_3)) (ds := []) (Array.replicate 23 false) zk rfl rfl ⟨vb BK470 0, vb BK470 1, vb BK470 2, vb BK470 3, vb BK463 0, vb BK463 1, vb BK463 2, vb BK463 3⟩ (fun hHeld => ?_); refine with_tabW saronlaw06_sound.tab6 saronlaw06_sound.bits6 (fun HT_ HW_ => ?_)
            generalize w47.drew = w48 at BK463 BK470 HB hHeld ⊢
            refine zu 0 ?_
            refine zt 1 ?_
            refine zo 2 (fun K hK => ?_)
            refine goes_ Tryd.func45 zk rfl #[.int .i64 ((rd_T66 l0_3 x4_2).f0), .int .i64 0, .int .i64 4] (by rfl) rfl rfl zm ?_
            with_reducible refine (saronref00_Sits.calls ((rd_T66 l0_3 x4_2).f0) 0 4 true _ A37.out).mono ?_
            rintro e w' ⟨rfl, ⟨nd, rfl⟩⟩
            refine ⟨_, rfl, ?_⟩
            refine hK.out _ _ ⟨vb BK470 0, vb BK470 1, vb BK470 2, vb BK470 3, vb BK463 0, vb BK463 1, vb BK463 2, vb BK463 3⟩ (fun hHeld => ?_)
            clear hK K
            refine zr 53 _ ?_
            refine zu 3 ?_
            refine zu 4 ?_
            refine zu 6 ?_
            refine zu 9 ?_
            refine zu 11 ?_
            refine zt 5 ?_
            refine zt 7 ?_
            refine zt 10 ?_
            refine zt 12 ?_
            refine zu 13 ?_
            refine zu 14 ?_
            refine zo 8 (fun K hK => ?_)
            refine goes_ Tryd.func61 zk rfl #[.int .i64 ((rd_T66 l0_3 x4_2).f1), .int .i64 ((rd_T66 l0_3 x4_2).f2)] (by rfl) rfl rfl zm ?_
            with_reducible refine (saronref00_Band.calls ((rd_T66 l0_3 x4_2).f1) ((rd_T66 l0_3 x4_2).f2) t472 t473 _ A39.out).mono ?_
            rintro e w49 ⟨rfl, hb⟩
            refine ⟨_, rfl, ?_⟩
            replace BK463 := zh (blk_below (g := gb463) (o := .cells #[.int .i64 a0_0, .int .i64 a0_1, .int .i64 a0_2, .slice (some ad469) l0_3.length c0_3] 24 (0, 0)) (zc BK463) hb)
            replace BK470 := zh (blk_below (g := gb470) (o := .cells #[.int .i64 ((rd_T66 l0_3 x4_2).f0), .int .i64 ((rd_T66 l0_3 x4_2).f1), .int .i64 ((rd_T66 l0_3 x4_2).f2), .int .i64 ((rd_T66 l0_3 x4_2).f3)] 66 (0, 0)) (zc BK470) hb)
            replace HB := zh (below_step zb hb)
            (try clear hb)
            (try clear hb2)
            (try clear hk)
            (try clear hi)
            refine hK.out _ _ ⟨vb BK470 0, vb BK470 1, vb BK470 2, vb BK470 3, vb BK463 0, vb BK463 1, vb BK463 2, vb BK463 3⟩ (fun hHeld => ?_)
            clear hK K
            refine zr 59 _ ?_
            refine zo 15 (fun K hK => ?_)
            refine goes_ Tryd.func60 zk rfl #[.agg #[.int .i64 t472, .int .i64 t473], .int .i64 0, .int .i64 (wrap64 ((wrap64 (a0_0 * a0_1)) - 1))] (by rfl) rfl rfl zm ?_
            with_reducible refine (saronref00_Good.calls t472 t473 0 (wrap64 ((wrap64 (a0_0 * a0_1)) - 1)) true _ A40.out).mono ?_
            rintro e w50 ⟨rfl, hb⟩
            refine ⟨_, rfl, ?_⟩
            replace BK463 := zh (blk_below (g := gb463) (o := .cells #[.int .i64 a0_0, .int .i64 a0_1, .int .i64 a0_2, .slice (some ad469) l0_3.length c0_3] 24 (0, 0)) (zc BK463) hb)
            replace BK470 := zh (blk_below (g := gb470) (o := .cells #[.int .i64 ((rd_T66 l0_3 x4_2).f0), .int .i64 ((rd_T66 l0_3 x4_2).f1), .int .i64 ((rd_T66 l0_3 x4_2).f2), .int .i64 ((rd_T66 l0_3 x4_2).f3)] 66 (0, 0)) (zc BK470) hb)
            replace HB := zh (below_step zb hb)
            (try clear hb)
            (try clear hb2)
            (try clear hk)
            (try clear hi)
            refine hK.out _ _ ⟨vb BK470 0, vb BK470 1, vb BK470 2, vb BK470 3, vb BK463 0, vb BK463 1, vb BK463 2, vb BK463 3⟩ (fun hHeld => ?_)
            clear hK K
            refine zr 66 _ ?_
            refine zu 16 ?_
            refine zu 17 ?_
            refine zu 18 ?_
            refine zt 19 ?_
            refine zo 20 (fun K hK => ?_)
            refine goes_ Tryd.func45 zk rfl #[.int .i64 ((rd_T66 l0_3 x4_2).f3), .int .i64 (-6), .int .i64 6] (by rfl) rfl rfl zm ?_
            with_reducible refine (saronref00_Sits.calls ((rd_T66 l0_3 x4_2).f3) (-6) 6 t475 _ A42.out).mono ?_
            rintro e w' ⟨rfl, ⟨nd, rfl⟩⟩
            refine ⟨_, rfl, ?_⟩
            refine hK.out _ _ ⟨vb BK470 0, vb BK470 1, vb BK470 2, vb BK470 3, vb BK463 0, vb BK463 1, vb BK463 2, vb BK463 3⟩ (fun hHeld => ?_)
            clear hK K
            refine zr 71 _ ?_
            refine zu 21 ?_
            refine zu 22 ?_
            refine zd ?_
            try go_wp2
            go_roundg kj30
            case measure => have := HJ1.out; have := HK2.out; have := HJ30.out; omega
            case rel => exact ⟨(t475), (wrap64 (x4_2 + 1)), ze, ze, H', ⟨by have := HJ1.out; have := HK2.out; have := HJ30.out; omega⟩, ⟨zc BK463⟩, ⟨zb⟩⟩
           ·replace c41 := Bool.eq_false_iff.mpr c41
            subst c41
            have H1 : (saronlaw06_sound.l0 kj30 false (wrap64 (x4_2 + 1)) a0_0 a0_1 a0_2 l0_3) = some r := by rw [if_neg (show ¬ (false = true) by decide)] at H; exact H
            clear H
            have H := H1
            clear H1
            have H' := zh H
            clear H
            have hcz51_0 : wc.cell? ⟨gb463, 0, none⟩ = some (.int .i64 a0_0) := vb BK463 0
            have hcz51_1 : wc.cell? ⟨gb463, 1, none⟩ = some (.int .i64 a0_1) := vb BK463 1
            have hcz51_2 : wc.cell? ⟨gb463, 2, none⟩ = some (.int .i64 a0_2) := vb BK463 2
            have hcz51_3 : wc.cell? ⟨gb463, 3, none⟩ = some (.slice A0_3 l0_3.length c0_3) := vb BK463 3
            have hfz51_0 := blk_frozen BK463.out 0
            have hfz51_1 := blk_frozen BK463.out 1
            have hfz51_2 := blk_frozen BK463.out 2
            have hfz51_3 := blk_frozen BK463.out 3
            have p469 : 0 ≤ (x4_2 : Int) := of_decide_eq_true zs
            have q469 : x4_2 < (l0_3.length : Int) := of_decide_eq_true zs
            obtain ⟨ad469, e469, hx469_0, hx469_1, hx469_2, hx469_3⟩ := at_T66 HR0_3.out x4_2 p469 q469
            cases e469
            replace hx469_0 := ve HB.out hx469_0
            replace hx469_1 := ve HB.out hx469_1
            replace hx469_2 := ve HB.out hx469_2
            replace hx469_3 := ve HB.out hx469_3
            replace p469 := eq_true p469
            replace q469 := eq_true q469
            try go_wp2_with (first | ((with_reducible refine gate_dst (N := 5) rfl ?_); (try (refine gate_guard (by rfl) ?_; dsimp only)); refine box_event ?hg (N := 5) ?hd (cs := #[.int .i64 0, .int .i64 0, .int .i64 0, .int .i64 0]) (t := 66) ?hr ?_; (case hd => rfl); (case hg => rfl); (case hr => first | (go_simp; done) | (go_simp; rfl)); intro gb470 hg w52 hbox hb; have n0_ := zh (blk_below (g := gb463) (o := .cells #[.int .i64 a0_0, .int .i64 a0_1, .int .i64 a0_2, .slice (some ad469) l0_3.length c0_3] 24 (0, 0)) (zc BK463) hb); have n1_ := zh (below_step zb hb); have n2_ := zh (hbox); have n3_ := zh ((by rw [hg]; exact (below_size zb) : w.heap.size ≤ gb470)); have n4_ := zh ((by rw [hg]; exact (below_size zb) : w.heap.size ≤ gb470)); have n5_ := zh ((by rw [hg]; exact Nat.ne_of_lt (blk_lt (g := gb463) (o := .cells #[.int .i64 a0_0, .int .i64 a0_1, .int .i64 a0_2, .slice (some ad469) l0_3.length c0_3] 24 (0, 0)) (zc BK463)) : gb463 ≠ gb470)); have n6_ := zh ((by rw [hg]; exact Nat.ne_of_gt (blk_lt (g := gb463) (o := .cells #[.int .i64 a0_0, .int .i64 a0_1, .int .i64 a0_2, .slice (some ad469) l0_3.length c0_3] 24 (0, 0)) (zc BK463)) : gb470 ≠ gb463)); clear BK463; clear HB; have BK463 := n0_; have HB := n1_; have BK470 := n2_; have GW470 := n3_; have GE470 := n4_; have NB463_470 := n5_; have NB470_463 := n6_; clear n0_ n1_ n2_ n3_ n4_ n5_ n6_; clear hb hbox hg; have hnb53 := NB470_463.out; have hnc53 := NB463_470.out; have hcz54_0 : w52.cell? ⟨gb470, 0, none⟩ = some (.int .i64 0) := vb BK470 0; have hcz54_1 : w52.cell? ⟨gb470, 1, none⟩ = some (.int .i64 0) := vb BK470 1; have hcz54_2 : w52.cell? ⟨gb470, 2, none⟩ = some (.int .i64 0) := vb BK470 2; have hcz54_3 : w52.cell? ⟨gb470, 3, none⟩ = some (.int .i64 0) := vb BK470 3; have hfz54_0 := blk_frozen BK470.out 0; have hfz54_1 := blk_frozen BK470.out 1; have hfz54_2 := blk_frozen BK470.out 2; have hfz54_3 := blk_frozen BK470.out 3))
            have n0_ : Aside0 (((((w52.setCell ⟨gb470, 0, none⟩ (.int .i64 ((rd_T66 l0_3 x4_2).f0))).setCell ⟨gb470, 1, none⟩ (.int .i64 ((rd_T66 l0_3 x4_2).f1))).setCell ⟨gb470, 2, none⟩ (.int .i64 ((rd_T66 l0_3 x4_2).f2))).setCell ⟨gb470, 3, none⟩ (.int .i64 ((rd_T66 l0_3 x4_2).f3))).heap[gb463]? = some (.cells #[.int .i64 a0_0, .int .i64 a0_1, .int .i64 a0_2, .slice (some ad469) l0_3.length c0_3] 24 (0, 0))) := ⟨by (with_reducible repeat (first | refine blk_drewN ?_ _ | refine blk_drew ?_ | refine blk_alloc ?_ _)); refine blk_far ?_ NB463_470.out _; (with_reducible repeat (first | refine blk_drewN ?_ _ | refine blk_drew ?_ | refine blk_alloc ?_ _)); refine blk_far ?_ NB463_470.out _; (with_reducible repeat (first | refine blk_drewN ?_ _ | refine blk_drew ?_ | refine blk_alloc ?_ _)); refine blk_far ?_ NB463_470.out _; (with_reducible repeat (first | refine blk_drewN ?_ _ | refine blk_drew ?_ | refine blk_alloc ?_ _)); refine blk_far ?_ NB463_470.out _; (with_reducible repeat (first | refine blk_drewN ?_ _ | refine blk_drew ?_ | refine blk_alloc ?_ _)); exact BK463.out⟩
            have n1_ : Aside0 (((((w52.setCell ⟨gb470, 0, none⟩ (.int .i64 ((rd_T66 l0_3 x4_2).f0))).setCell ⟨gb470, 1, none⟩ (.int .i64 ((rd_T66 l0_3 x4_2).f1))).setCell ⟨gb470, 2, none⟩ (.int .i64 ((rd_T66 l0_3 x4_2).f2))).setCell ⟨gb470, 3, none⟩ (.int .i64 ((rd_T66 l0_3 x4_2).f3))).heap[gb470]? = some (.cells #[.int .i64 ((rd_T66 l0_3 x4_2).f0), .int .i64 ((rd_T66 l0_3 x4_2).f1), .int .i64 ((rd_T66 l0_3 x4_2).f2), .int .i64 ((rd_T66 l0_3 x4_2).f3)] 66 (0, 0))) := ⟨by (with_reducible repeat (first | refine blk_drewN ?_ _ | refine blk_drew ?_ | refine blk_alloc ?_ _)); refine blk_put (cs := #[.int .i64 ((rd_T66 l0_3 x4_2).f0), .int .i64 ((rd_T66 l0_3 x4_2).f1), .int .i64 ((rd_T66 l0_3 x4_2).f2), .int .i64 0]) ?_ 3 _ rfl; (with_reducible repeat (first | refine blk_drewN ?_ _ | refine blk_drew ?_ | refine blk_alloc ?_ _)); refine blk_put (cs := #[.int .i64 ((rd_T66 l0_3 x4_2).f0), .int .i64 ((rd_T66 l0_3 x4_2).f1), .int .i64 0, .int .i64 0]) ?_ 2 _ rfl; (with_reducible repeat (first | refine blk_drewN ?_ _ | refine blk_drew ?_ | refine blk_alloc ?_ _)); refine blk_put (cs := #[.int .i64 ((rd_T66 l0_3 x4_2).f0), .int .i64 0, .int .i64 0, .int .i64 0]) ?_ 1 _ rfl; (with_reducible repeat (first | refine blk_drewN ?_ _ | refine blk_drew ?_ | refine blk_alloc ?_ _)); refine blk_put (cs := #[.int .i64 0, .int .i64 0, .int .i64 0, .int .i64 0]) ?_ 0 _ rfl; (with_reducible repeat (first | refine blk_drewN ?_ _ | refine blk_drew ?_ | refine blk_alloc ?_ _)); exact BK470.out⟩
            have n2_ : Aside0 (Below w.heap.size w ((((w52.setCell ⟨gb470, 0, none⟩ (.int .i64 ((rd_T66 l0_3 x4_2).f0))).setCell ⟨gb470, 1, none⟩ (.int .i64 ((rd_T66 l0_3 x4_2).f1))).setCell ⟨gb470, 2, none⟩ (.int .i64 ((rd_T66 l0_3 x4_2).f2))).setCell ⟨gb470, 3, none⟩ (.int .i64 ((rd_T66 l0_3 x4_2).f3)))) := ⟨zb⟩
            (try clear BK463)
            (try clear BK470)
            (try clear HB)
            generalize ((((w52.setCell ⟨gb470, 0, none⟩ (.int .i64 ((rd_T66 l0_3 x4_2).f0))).setCell ⟨gb470, 1, none⟩ (.int .i64 ((rd_T66 l0_3 x4_2).f1))).setCell ⟨gb470, 2, none⟩ (.int .i64 ((rd_T66 l0_3 x4_2).f2))).setCell ⟨gb470, 3, none⟩ (.int .i64 ((rd_T66 l0_3 x4_2).f3))) = w55 at n0_ n1_ n2_ ⊢
            have BK463 := n0_
            have BK470 := n1_
            have HB := n2_
            clear n0_ n1_ n2_
            replace BK463 := zh (blk_drew BK463.out)
            replace BK470 := zh (blk_drew BK470.out)
            replace HB := zh (below_drew1 HB.out)
            refine start_ (n := 23) (S := fun w' => w'.cell? ⟨gb470, 0, none⟩ = some (.int .i64 ((rd_T66 l0_3 x4_2).f0)) ∧ w'.cell? ⟨gb470, 1, none⟩ = some (.int .i64 ((rd_T66 l0_3 x4_2).f1)) ∧ w'.cell? ⟨gb470, 2, none⟩ = some (.int .i64 ((rd_T66 l0_3 x4_2).f2)) ∧ w'.cell? ⟨gb470, 3, none⟩ = some (.int .i64 ((rd_T66 l0_3 x4_2).f3)) ∧ w'.cell? ⟨gb463, 0, none⟩ = some (.int .i64 a0_0) ∧ w'.cell? ⟨gb463, 1, none⟩ = some (.int .i64 a0_1) ∧ w'.cell? ⟨gb463, 2, none⟩ = some (.int .i64 a0_2) ∧ w'.cell? ⟨gb463, 3, none⟩ = some (.slice (some ad469) l0_3.length c0_3)) (ds := []) (Array.replicate 23 false) zk rfl rfl ⟨vb BK470 0, vb BK470 1, vb BK470 2, vb BK470 3, vb BK463 0, vb BK463 1, vb BK463 2, vb BK463 3⟩ (fun hHeld => ?_); refine with_tabW saronlaw06_sound.tab6 saronlaw06_sound.bits6 (fun HT_ HW_ => ?_)
            generalize w55.drew = w56 at BK463 BK470 HB hHeld ⊢
            refine zu 0 ?_
            refine zt 1 ?_
            refine zo 2 (fun K hK => ?_)
            refine goes_ Tryd.func45 zk rfl #[.int .i64 ((rd_T66 l0_3 x4_2).f0), .int .i64 0, .int .i64 4] (by rfl) rfl rfl zm ?_
            with_reducible refine (saronref00_Sits.calls ((rd_T66 l0_3 x4_2).f0) 0 4 true _ A37.out).mono ?_
            rintro e w' ⟨rfl, ⟨nd, rfl⟩⟩
            refine ⟨_, rfl, ?_⟩
            refine hK.out _ _ ⟨vb BK470 0, vb BK470 1, vb BK470 2, vb BK470 3, vb BK463 0, vb BK463 1, vb BK463 2, vb BK463 3⟩ (fun hHeld => ?_)
            clear hK K
            refine zr 53 _ ?_
            refine zu 3 ?_
            refine zu 4 ?_
            refine zu 6 ?_
            refine zu 9 ?_
            refine zu 11 ?_
            refine zt 5 ?_
            refine zt 7 ?_
            refine zt 10 ?_
            refine zt 12 ?_
            refine zu 13 ?_
            refine zu 14 ?_
            refine zo 8 (fun K hK => ?_)
            refine goes_ Tryd.func61 zk rfl #[.int .i64 ((rd_T66 l0_3 x4_2).f1), .int .i64 ((rd_T66 l0_3 x4_2).f2)] (by rfl) rfl rfl zm ?_
            with_reducible refine (saronref00_Band.calls ((rd_T66 l0_3 x4_2).f1) ((rd_T66 l0_3 x4_2).f2) t472 t473 _ A39.out).mono ?_
            rintro e w57 ⟨rfl, hb⟩
            refine ⟨_, rfl, ?_⟩
            replace BK463 := zh (blk_below (g := gb463) (o := .cells #[.int .i64 a0_0, .int .i64 a0_1, .int .i64 a0_2, .slice (some ad469) l0_3.length c0_3] 24 (0, 0)) (zc BK463) hb)
            replace BK470 := zh (blk_below (g := gb470) (o := .cells #[.int .i64 ((rd_T66 l0_3 x4_2).f0), .int .i64 ((rd_T66 l0_3 x4_2).f1), .int .i64 ((rd_T66 l0_3 x4_2).f2), .int .i64 ((rd_T66 l0_3 x4_2).f3)] 66 (0, 0)) (zc BK470) hb)
            replace HB := zh (below_step zb hb)
            (try clear hb)
            (try clear hb2)
            (try clear hk)
            (try clear hi)
            refine hK.out _ _ ⟨vb BK470 0, vb BK470 1, vb BK470 2, vb BK470 3, vb BK463 0, vb BK463 1, vb BK463 2, vb BK463 3⟩ (fun hHeld => ?_)
            clear hK K
            refine zr 59 _ ?_
            refine zo 15 (fun K hK => ?_)
            refine goes_ Tryd.func60 zk rfl #[.agg #[.int .i64 t472, .int .i64 t473], .int .i64 0, .int .i64 (wrap64 ((wrap64 (a0_0 * a0_1)) - 1))] (by rfl) rfl rfl zm ?_
            with_reducible refine (saronref00_Good.calls t472 t473 0 (wrap64 ((wrap64 (a0_0 * a0_1)) - 1)) false _ A40.out).mono ?_
            rintro e w58 ⟨rfl, hb⟩
            refine ⟨_, rfl, ?_⟩
            replace BK463 := zh (blk_below (g := gb463) (o := .cells #[.int .i64 a0_0, .int .i64 a0_1, .int .i64 a0_2, .slice (some ad469) l0_3.length c0_3] 24 (0, 0)) (zc BK463) hb)
            replace BK470 := zh (blk_below (g := gb470) (o := .cells #[.int .i64 ((rd_T66 l0_3 x4_2).f0), .int .i64 ((rd_T66 l0_3 x4_2).f1), .int .i64 ((rd_T66 l0_3 x4_2).f2), .int .i64 ((rd_T66 l0_3 x4_2).f3)] 66 (0, 0)) (zc BK470) hb)
            replace HB := zh (below_step zb hb)
            (try clear hb)
            (try clear hb2)
            (try clear hk)
            (try clear hi)
            refine hK.out _ _ ⟨vb BK470 0, vb BK470 1, vb BK470 2, vb BK470 3, vb BK463 0, vb BK463 1, vb BK463 2, vb BK463 3⟩ (fun hHeld => ?_)
            clear hK K
            refine zr 66 _ ?_
            refine zu 16 ?_
            refine zu 17 ?_
            refine zn 18 ?_
            refine zn 19 ?_
            refine zn 20 ?_
            refine zu 21 ?_
            refine zu 22 ?_
            refine zd ?_
            try go_wp2
            go_roundg kj30
            case measure => have := HJ1.out; have := HK2.out; have := HJ30.out; omega
            case rel => exact ⟨(false), (wrap64 (x4_2 + 1)), ze, ze, H', ⟨by have := HJ1.out; have := HK2.out; have := HJ30.out; omega⟩, ⟨zc BK463⟩, ⟨zb⟩⟩
          ·replace c38 := Bool.eq_false_iff.mpr c38
           subst c38
           have H1 : (saronlaw06_sound.l0 kj30 false (wrap64 (x4_2 + 1)) a0_0 a0_1 a0_2 l0_3) = some r := by rw [if_neg (show ¬ (false = true) by decide)] at H; exact H
           clear H
           have H := H1
           clear H1
           have H' := zh H
           clear H
           have hcz59_0 : wc.cell? ⟨gb463, 0, none⟩ = some (.int .i64 a0_0) := vb BK463 0
           have hcz59_1 : wc.cell? ⟨gb463, 1, none⟩ = some (.int .i64 a0_1) := vb BK463 1
           have hcz59_2 : wc.cell? ⟨gb463, 2, none⟩ = some (.int .i64 a0_2) := vb BK463 2
           have hcz59_3 : wc.cell? ⟨gb463, 3, none⟩ = some (.slice A0_3 l0_3.length c0_3) := vb BK463 3
           have hfz59_0 := blk_frozen BK463.out 0
           have hfz59_1 := blk_frozen BK463.out 1
           have hfz59_2 := blk_frozen BK463.out 2
           have hfz59_3 := blk_frozen BK463.out 3
           have p469 : 0 ≤ (x4_2 : Int) := of_decide_eq_true zs
           have q469 : x4_2 < (l0_3.length : Int) := of_decide_eq_true zs
           obtain ⟨ad469, e469, hx469_0, hx469_1, hx469_2, hx469_3⟩ := at_T66 HR0_3.out x4_2 p469 q469
           cases e469
           replace hx469_0 := ve HB.out hx469_0
           replace hx469_1 := ve HB.out hx469_1
           replace hx469_2 := ve HB.out hx469_2
           replace hx469_3 := ve HB.out hx469_3
           replace p469 := eq_true p469
           replace q469 := eq_true q469
           try go_wp2_with (first | ((with_reducible refine gate_dst (N := 5) rfl ?_); (try (refine gate_guard (by rfl) ?_; dsimp only)); refine box_event ?hg (N := 5) ?hd (cs := #[.int .i64 0, .int .i64 0, .int .i64 0, .int .i64 0]) (t := 66) ?hr ?_; (case hd => rfl); (case hg => rfl); (case hr => first | (go_simp; done) | (go_simp; rfl)); intro gb470 hg w60 hbox hb; have n0_ := zh (blk_below (g := gb463) (o := .cells #[.int .i64 a0_0, .int .i64 a0_1, .int .i64 a0_2, .slice (some ad469) l0_3.length c0_3] 24 (0, 0)) (zc BK463) hb); have n1_ := zh (below_step zb hb); have n2_ := zh (hbox); have n3_ := zh ((by rw [hg]; exact (below_size zb) : w.heap.size ≤ gb470)); have n4_ := zh ((by rw [hg]; exact (below_size zb) : w.heap.size ≤ gb470)); have n5_ := zh ((by rw [hg]; exact Nat.ne_of_lt (blk_lt (g := gb463) (o := .cells #[.int .i64 a0_0, .int .i64 a0_1, .int .i64 a0_2, .slice (some ad469) l0_3.length c0_3] 24 (0, 0)) (zc BK463)) : gb463 ≠ gb470)); have n6_ := zh ((by rw [hg]; exact Nat.ne_of_gt (blk_lt (g := gb463) (o := .cells #[.int .i64 a0_0, .int .i64 a0_1, .int .i64 a0_2, .slice (some ad469) l0_3.length c0_3] 24 (0, 0)) (zc BK463)) : gb470 ≠ gb463)); clear BK463; clear HB; have BK463 := n0_; have HB := n1_; have BK470 := n2_; have GW470 := n3_; have GE470 := n4_; have NB463_470 := n5_; have NB470_463 := n6_; clear n0_ n1_ n2_ n3_ n4_ n5_ n6_; clear hb hbox hg; have hnb61 := NB470_463.out; have hnc61 := NB463_470.out; have hcz62_0 : w60.cell? ⟨gb470, 0, none⟩ = some (.int .i64 0) := vb BK470 0; have hcz62_1 : w60.cell? ⟨gb470, 1, none⟩ = some (.int .i64 0) := vb BK470 1; have hcz62_2 : w60.cell? ⟨gb470, 2, none⟩ = some (.int .i64 0) := vb BK470 2; have hcz62_3 : w60.cell? ⟨gb470, 3, none⟩ = some (.int .i64 0) := vb BK470 3; have hfz62_0 := blk_frozen BK470.out 0; have hfz62_1 := blk_frozen BK470.out 1; have hfz62_2 := blk_frozen BK470.out 2; have hfz62_3 := blk_frozen BK470.out 3))
           have n0_ : Aside0 (((((w60.setCell ⟨gb470, 0, none⟩ (.int .i64 ((rd_T66 l0_3 x4_2).f0))).setCell ⟨gb470, 1, none⟩ (.int .i64 ((rd_T66 l0_3 x4_2).f1))).setCell ⟨gb470, 2, none⟩ (.int .i64 ((rd_T66 l0_3 x4_2).f2))).setCell ⟨gb470, 3, none⟩ (.int .i64 ((rd_T66 l0_3 x4_2).f3))).heap[gb463]? = some (.cells #[.int .i64 a0_0, .int .i64 a0_1, .int .i64 a0_2, .slice (some ad469) l0_3.length c0_3] 24 (0, 0))) := ⟨by (with_reducible repeat (first | refine blk_drewN ?_ _ | refine blk_drew ?_ | refine blk_alloc ?_ _)); refine blk_far ?_ NB463_470.out _; (with_reducible repeat (first | refine blk_drewN ?_ _ | refine blk_drew ?_ | refine blk_alloc ?_ _)); refine blk_far ?_ NB463_470.out _; (with_reducible repeat (first | refine blk_drewN ?_ _ | refine blk_drew ?_ | refine blk_alloc ?_ _)); refine blk_far ?_ NB463_470.out _; (with_reducible repeat (first | refine blk_drewN ?_ _ | refine blk_drew ?_ | refine blk_alloc ?_ _)); refine blk_far ?_ NB463_470.out _; (with_reducible repeat (first | refine blk_drewN ?_ _ | refine blk_drew ?_ | refine blk_alloc ?_ _)); exact BK463.out⟩
           have n1_ : Aside0 (((((w60.setCell ⟨gb470, 0, none⟩ (.int .i64 ((rd_T66 l0_3 x4_2).f0))).setCell ⟨gb470, 1, none⟩ (.int .i64 ((rd_T66 l0_3 x4_2).f1))).setCell ⟨gb470, 2, none⟩ (.int .i64 ((rd_T66 l0_3 x4_2).f2))).setCell ⟨gb470, 3, none⟩ (.int .i64 ((rd_T66 l0_3 x4_2).f3))).heap[gb470]? = some (.cells #[.int .i64 ((rd_T66 l0_3 x4_2).f0), .int .i64 ((rd_T66 l0_3 x4_2).f1), .int .i64 ((rd_T66 l0_3 x4_2).f2), .int .i64 ((rd_T66 l0_3 x4_2).f3)] 66 (0, 0))) := ⟨by (with_reducible repeat (first | refine blk_drewN ?_ _ | refine blk_drew ?_ | refine blk_alloc ?_ _)); refine blk_put (cs := #[.int .i64 ((rd_T66 l0_3 x4_2).f0), .int .i64 ((rd_T66 l0_3 x4_2).f1), .int .i64 ((rd_T66 l0_3 x4_2).f2), .int .i64 0]) ?_ 3 _ rfl; (with_reducible repeat (first | refine blk_drewN ?_ _ | refine blk_drew ?_ | refine blk_alloc ?_ _)); refine blk_put (cs := #[.int .i64 ((rd_T66 l0_3 x4_2).f0), .int .i64 ((rd_T66 l0_3 x4_2).f1), .int .i64 0, .int .i64 0]) ?_ 2 _ rfl; (with_reducible repeat (first | refine blk_drewN ?_ _ | refine blk_drew ?_ | refine blk_alloc ?_ _)); refine blk_put (cs := #[.int .i64 ((rd_T66 l0_3 x4_2).f0), .int .i64 0, .int .i64 0, .int .i64 0]) ?_ 1 _ rfl; (with_reducible repeat (first | refine blk_drewN ?_ _ | refine blk_drew ?_ | refine blk_alloc ?_ _)); refine blk_put (cs := #[.int .i64 0, .int .i64 0, .int .i64 0, .int .i64 0]) ?_ 0 _ rfl; (with_reducible repeat (first | refine blk_drewN ?_ _ | refine blk_drew ?_ | refine blk_alloc ?_ _)); exact BK470.out⟩
           have n2_ : Aside0 (Below w.heap.size w ((((w60.setCell ⟨gb470, 0, none⟩ (.int .i64 ((rd_T66 l0_3 x4_2).f0))).setCell ⟨gb470, 1, none⟩ (.int .i64 ((rd_T66 l0_3 x4_2).f1))).setCell ⟨gb470, 2, none⟩ (.int .i64 ((rd_T66 l0_3 x4_2).f2))).setCell ⟨gb470, 3, none⟩ (.int .i64 ((rd_T66 l0_3 x4_2).f3)))) := ⟨zb⟩
           (try clear BK463)
           (try clear BK470)
           (try clear HB)
           generalize ((((w60.setCell ⟨gb470, 0, none⟩ (.int .i64 ((rd_T66 l0_3 x4_2).f0))).setCell ⟨gb470, 1, none⟩ (.int .i64 ((rd_T66 l0_3 x4_2).f1))).setCell ⟨gb470, 2, none⟩ (.int .i64 ((rd_T66 l0_3 x4_2).f2))).setCell ⟨gb470, 3, none⟩ (.int .i64 ((rd_T66 l0_3 x4_2).f3))) = w63 at n0_ n1_ n2_ ⊢
           have BK463 := n0_
           have BK470 := n1_
           have HB := n2_
           clear n0_ n1_ n2_
           replace BK463 := zh (blk_drew BK463.out)
           replace BK470 := zh (blk_drew BK470.out)
           replace HB := zh (below_drew1 HB.out)
           refine start_ (n := 23) (S := fun w' => w'.cell? ⟨gb470, 0, none⟩ = some (.int .i64 ((rd_T66 l0_3 x4_2).f0)) ∧ w'.cell? ⟨gb470, 1, none⟩ = some (.int .i64 ((rd_T66 l0_3 x4_2).f1)) ∧ w'.cell? ⟨gb470, 2, none⟩ = some (.int .i64 ((rd_T66 l0_3 x4_2).f2)) ∧ w'.cell? ⟨gb470, 3, none⟩ = some (.int .i64 ((rd_T66 l0_3 x4_2).f3))) (ds := []) (Array.replicate 23 false) zk rfl rfl ⟨vb BK470 0, vb BK470 1, vb BK470 2, vb BK470 3⟩ (fun hHeld => ?_); refine with_tabW saronlaw06_sound.tab6 saronlaw06_sound.bits6 (fun HT_ HW_ => ?_)
           generalize w63.drew = w64 at BK463 BK470 HB hHeld ⊢
           refine zu 0 ?_
           refine zt 1 ?_
           refine zo 2 (fun K hK => ?_)
           refine goes_ Tryd.func45 zk rfl #[.int .i64 ((rd_T66 l0_3 x4_2).f0), .int .i64 0, .int .i64 4] (by rfl) rfl rfl zm ?_
           with_reducible refine (saronref00_Sits.calls ((rd_T66 l0_3 x4_2).f0) 0 4 false _ A37.out).mono ?_
           rintro e w' ⟨rfl, ⟨nd, rfl⟩⟩
           refine ⟨_, rfl, ?_⟩
           refine hK.out _ _ ⟨vb BK470 0, vb BK470 1, vb BK470 2, vb BK470 3⟩ (fun hHeld => ?_)
           clear hK K
           refine zr 53 _ ?_
           refine zu 3 ?_
           refine zn 4 ?_
           refine zn 5 ?_
           refine zn 6 ?_
           refine zn 7 ?_
           refine zn 8 ?_
           refine zn 9 ?_
           refine zn 10 ?_
           refine zn 11 ?_
           refine zn 12 ?_
           refine zn 13 ?_
           refine zn 14 ?_
           refine zn 15 ?_
           refine zu 16 ?_
           refine zu 17 ?_
           refine zn 18 ?_
           refine zn 19 ?_
           refine zn 20 ?_
           refine zu 21 ?_
           refine zu 22 ?_
           refine zd ?_
           try go_wp2
           go_roundg kj30
           case measure => have := HJ1.out; have := HK2.out; have := HJ30.out; omega
           case rel => exact ⟨(false), (wrap64 (x4_2 + 1)), ze, ze, H', ⟨by have := HJ1.out; have := HK2.out; have := HJ30.out; omega⟩, ⟨zc BK463⟩, ⟨zb⟩⟩
         ·rw [if_neg c36] at H
          exact absurd H (by simp)
        ·rw [if_neg c35] at H
         exact absurd H (by simp)
       ·replace c34 := Bool.eq_false_iff.mpr c34
        subst c34
        have H1 : (some x3_2) = some r := by rw [if_neg (show ¬ (false = true) by decide)] at H; exact H
        clear H
        have H := H1
        clear H1
        obtain rfl := Option.some.inj H
        go_wp2
        go_ret
        exact ⟨zf, zb⟩
end Go.Proofs.YtagkfkdoibnhfaaDoor.H
end
section
namespace Go.Proofs.YtagkfkdoibnhfaaDoor.K
open Go.RowKit Go.Proofs.YtagkfkdoibnhfaaDoorW.PrintWords Go.Proofs.YtagkfkdoibnhfaaDoorW.PrintMore Go.Proofs.YtagkfkdoibnhfaaDoor.H
namespace O
theorem sits_f (a b c : Int) : saronref00_Sits.f a b c = some (decide (b ≤ a) && decide (a ≤ c)) := by
 unfold saronref00_Sits.f
 by_cases h : b ≤ a <;> simp [h]
theorem good_f (x y a b : Int) : saronref00_Good.f x y a b = some (decide (a ≤ x) && decide (x ≤ y) && decide (y ≤ b)) := by
 unfold saronref00_Good.f
 by_cases h : a ≤ x <;> by_cases h' : x ≤ y <;> simp [h, h']
theorem turn_f (a b : Int) (hb : 1 ≤ b) (hb' : b ≤ 1000) : saronref00_Turn.f a b = some (a % b) := by
 unfold saronref00_Turn.f
 rw [if_neg (by omega), if_neg (by omega)]
 have h := Int.tmod_eq_emod (a := a) (b := b)
 have h1 := Int.emod_nonneg a (by omega : b ≠ 0)
 have h2 := Int.emod_lt_of_pos a (by omega : 0 < b)
 have hn : (b.natAbs : Int) = b := by omega
 split at h
 ·rw [if_neg (by omega), h]; simp
 ·rw [if_pos (by omega), w64 (by omega) (by omega)]
  congr 1
  omega
theorem up1 (i : Nat) (h : (i : Int) < 9223372036854775807) : wrap64 ((i : Int) + 1) = ((i + 1 : Nat) : Int) := by rw [w64 (by omega) (by omega)]; simp
theorem okScale_get {T O L : Int} {R : List S66} (h : okScale T O L R = true) (i : Nat) (hi : i < R.length) : okReg (T * O) R[i] = true := by
 unfold okScale at h
 simp only [Bool.and_eq_true, List.all_eq_true] at h
 exact h.2 _ (List.getElem_mem hi)
theorem sound_false (T O L : Int) (R : List S66) (k : Nat) (i : Int) (hk : 2 ≤ k) : saronlaw06_sound.l0 k false i T O L R = some false := by
 obtain ⟨k, rfl⟩ : ∃ z, k = z + 2 := ⟨k - 2, by omega⟩
 simp [saronlaw06_sound.l0, saronlaw06_sound.j2]
theorem sound_l0 (T O L : Int) (R : List S66) (hS : okScale T O L R = true) (d : Nat) : ∀ (k i : Nat), R.length - i = d → i ≤ R.length → 2 * d + 2 ≤ k → saronlaw06_sound.l0 k true (i : Int) T O L R = some true := by
 obtain ⟨t1, t2, t3, t4, t5, t6, t7, t8, t9, hok⟩ := okScale_regs hS
 have mr := mul_range t1 t2 t3 t4
 induction d with
 | zero =>
  intro k i hd hi hk
  obtain ⟨k, rfl⟩ : ∃ z, k = z + 2 := ⟨k - 2, by omega⟩
  have hdec : decide ((i : Int) < (R.length : Int)) = false := decide_eq_false (by omega)
  simp only [saronlaw06_sound.l0, saronlaw06_sound.j2, hdec, if_true]
  rw [if_neg (by simp)]
 | succ d ih =>
  intro k i hd hi hk
  obtain ⟨k, rfl⟩ : ∃ z, k = z + 2 := ⟨k - 2, by omega⟩
  have hlt : i < R.length := by omega
  have hdec : decide ((i : Int) < (R.length : Int)) = true := decide_eq_true (by omega)
  have e : regAt R (i : Int) = R[i] := by unfold regAt; simp [hlt]
  have hr := okScale_get hS i hlt
  simp only [okReg, Bool.and_eq_true, decide_eq_true_eq] at hr
  obtain ⟨⟨⟨⟨⟨⟨⟨r1, r2⟩, r3⟩, r4⟩, r5⟩, r6⟩, r7⟩, r8⟩ := hr
  simp only [saronlaw06_sound.l0, saronlaw06_sound.j2, hdec, if_true]
  rw [if_pos (by omega), if_pos (by omega), rd66 R i hlt, sits_f, Option.bind_some, if_pos (by rw [decide_eq_true r1, decide_eq_true r2]; rfl)]
  simp only [saronref00_Band.f, Option.bind_some]
  rw [good_f, Option.bind_some, w64 (n := T * O) (by omega) (by omega), w64 (by omega) (by omega), if_pos (by rw [decide_eq_true r3, decide_eq_true r4, decide_eq_true r6]; rfl), sits_f, Option.bind_some, decide_eq_true r7, decide_eq_true r8, up1 i (by omega)]
  exact ih k (i + 1) (by omega) (by omega) (by omega)
theorem sound_f (T O L : Int) (R : List S66) (hR : R.length ≤ 9223372036854775807) (k : Nat) (hk : 2 * R.length + 10 ≤ k) : saronlaw06_sound.f k T O L R = some (okScale T O L R) := by
 unfold saronlaw06_sound.f
 rw [check_f T O L R hR k (by omega), Option.bind_some]
 obtain ⟨k, rfl⟩ : ∃ z, k = z + 1 := ⟨k - 1, by omega⟩
 cases hS : okScale T O L R
 ·rw [if_neg (by simp)]
  simp only [saronlaw06_sound.j0]
  exact sound_false _ _ _ _ _ _ (by omega)
 ·obtain ⟨t1, t2, t3, t4, t5, t6, t7, t8, t9, hok⟩ := okScale_regs hS
  rw [if_pos rfl, if_pos rfl, sits_f, Option.bind_some, if_pos (by rw [decide_eq_true t1, decide_eq_true t2]; rfl), sits_f, Option.bind_some, if_pos (by rw [decide_eq_true t3, decide_eq_true t4]; rfl), sits_f, Option.bind_some, if_pos (by rw [decide_eq_true t5, decide_eq_true t6]; rfl), if_pos ((tmod_zero _ _).2 t7), sits_f, Option.bind_some, decide_eq_true (by omega : (1 : Int) ≤ (R.length : Int)), decide_eq_true (by omega : (R.length : Int) ≤ 5)]
  simp only [saronlaw06_sound.j0]
  exact sound_l0 T O L R hS R.length k 0 (Nat.sub_zero _) (Nat.zero_le _) (by omega)
end O
end Go.Proofs.YtagkfkdoibnhfaaDoor.K
end
section
namespace Go.Proofs.YtagkfkdoibnhfaaDoor.H
open Go.RowKit Go.Proofs.YtagkfkdoibnhfaaDoorW.PrintWords Go.Proofs.YtagkfkdoibnhfaaDoorW.PrintLast Go.Proofs.YtagkfkdoibnhfaaDoorW.PrintMore
attribute [local go_sem] max2_int min2_int max_two min_two max_three min_three max_four min_four   -- for this text's walks alone
set_option linter.unusedVariables false
set_option linter.unusedSimpArgs false
open Go.Proofs.YtagkfkdoibnhfaaDoor.K
end Go.Proofs.YtagkfkdoibnhfaaDoor.H
end
section
namespace Go.Proofs.YtagkfkdoibnhfaaDoor.K
open Go.RowKit Go.Proofs.YtagkfkdoibnhfaaDoorW.PrintWords Go.Proofs.YtagkfkdoibnhfaaDoorW.PrintMore Go.Proofs.YtagkfkdoibnhfaaDoor.H
namespace O
theorem min_mul (n l : Int) (hn : 1 ≤ n) (hl : 1 ≤ l) : 1 ≤ min 1000000 (n * l) ∧ (1 < min 1000000 (n * l) ↔ 1 < n ∨ 1 < l) := by
 by_cases h : l = 1
 ·subst h
  rw [Int.mul_one]
  omega
 ·have h1 : 1 * 2 ≤ n * l := Int.mul_le_mul hn (by omega) (by omega) (by omega)
  omega
theorem many_fold (f : Int → Nat) : ∀ (ps : List Int) (n : Int), 1 ≤ n → (∀ p ∈ ps, 1 ≤ f p) → 1 ≤ ps.foldl (fun n p => min 1000000 (n * (f p : Int))) n ∧ (1 < ps.foldl (fun n p => min 1000000 (n * (f p : Int))) n ↔ 1 < n ∨ (ps.any fun p => decide (1 < f p)) = true)
 | [], n, hn, h => by simp [hn]
 | p :: ps, n, hn, h => by
  have h1 := h p (by simp)
  obtain ⟨a, b⟩ := min_mul n (f p : Int) hn (by omega)
  obtain ⟨c, d⟩ := many_fold f ps _ a (fun q hq => h q (by simp [hq]))
  rw [List.foldl_cons]
  refine ⟨c, d.trans ?_⟩
  rw [b, List.any_cons, Bool.or_eq_true, decide_eq_true_eq, or_assoc]
  have : (1 : Int) < (f p : Int) ↔ 1 < f p := by omega
  rw [this]
def several (T O L : Int) (R : List S66) (hs : List S60) : Bool := (irange 0 (L / 2 - 1)).any (severalAt T O R hs)
theorem many_one {T O L : Int} {R : List S66} {hs : List S60} (h : canAll T O L R hs = true) : 1 ≤ manyOf T O L R hs ∧ (1 < manyOf T O L R hs ↔ several T O L R hs = true) := by
 obtain ⟨a, b⟩ := many_fold (fun p => (choices T O R hs p).length) (irange 0 (L / 2 - 1)) 1 (Int.le_refl _) (fun p hp => by
  obtain ⟨h0, h1⟩ := irange_mem_iff.1 hp
  obtain ⟨q, hq⟩ := canAll_pos h p h0 h1
  exact List.length_pos_of_mem hq)
 refine ⟨a, b.trans ?_⟩
 rw [show ((1 : Int) < 1) = False from by simp, false_or]
 rfl
theorem choices_nodup (T O : Int) (R : List S66) (hs : List S60) (p : Int) : (choices T O R hs p).Nodup := by
 unfold choices
 exact (pairs_nodup _).filter _
section
variable (T O L : Int) (R : List S66) (hs : List S60) (hS : okScale T O L R = true) (hH : okHeard L R hs = true) (hC : canAll T O L R hs = true)
include hS hH hC
end
end O
end Go.Proofs.YtagkfkdoibnhfaaDoor.K
end
section
namespace Go.Proofs.YtagkfkdoibnhfaaDoor.K
open Go.RowKit Go.Proofs.YtagkfkdoibnhfaaDoorW.PrintWords Go.Proofs.YtagkfkdoibnhfaaDoorW.PrintMore Go.Proofs.YtagkfkdoibnhfaaDoor.H
namespace O
theorem part_length (T : Int) (R : List S66) (r : Int) : ∀ (n : Nat) (t : List Int), t.length = 2 * n → (partOf T R r t).length = n * width (regAt R r)
 | 0, t, h => by
  match t, h with
  | [], _ => simp [partOf]
 | n + 1, t, h => by
  match t, h with
  | a :: b :: rest, h =>
   have ih := part_length T R r n rest (by simp at h; omega)
   rw [partOf, List.length_append, strokes_width, ih, Nat.add_mul, Nat.one_mul, Nat.add_comm]
def True1 (T : Int) (R : List S66) (t : List Int) (x : S60) : Prop :=
 0 ≤ x.f0 ∧ x.f0 < R.length ∧ x.f1.length = (partOf T R x.f0 t).length ∧ ∀ k, k < x.f1.length → x.f1.getD k 0 = -2 ∨ x.f1.getD k 0 = (partOf T R x.f0 t).getD k 0
section
variable {T O L : Int} {R : List S66} {hs : List S60} {t : List Int} (hS : okScale T O L R = true) (hL : (t.length : Int) = L) (ht : ∀ x ∈ t, 0 ≤ x ∧ x < T * O) (hT : ∀ x ∈ hs, True1 T R t x)
def pairAt (t : List Int) (p : Int) : Int × Int := (t.getD (2 * p.toNat) 0, t.getD (2 * p.toNat + 1) 0)
include hS hL
theorem true_len (r : Int) : (partOf T R r t).length = (L / 2).toNat * width (regAt R r) := by
 obtain ⟨t1, t2, t3, t4, t5, t6, t7, t8, t9, hok⟩ := okScale_regs hS
 exact part_length T R r _ t (by omega)
include ht
theorem true_pair (p : Int) (h0 : 0 ≤ p) (h1 : p ≤ L / 2 - 1) : pairAt t p ∈ pairsOf (T * O) := by
 obtain ⟨t1, t2, t3, t4, t5, t6, t7, t8, t9, hok⟩ := okScale_regs hS
 have g : ∀ i, i < t.length → 0 ≤ t.getD i 0 ∧ t.getD i 0 ≤ T * O - 1 := fun i hi => by
  rw [List.getD_eq_getElem?_getD, List.getElem?_eq_getElem hi]
  have := ht t[i] (List.getElem_mem hi)
  simp only [Option.getD_some]
  omega
 exact pairs_mem_iff.2 ⟨g _ (by omega), g _ (by omega)⟩
omit ht
include hT
include ht
omit ht
include ht
end
end O
end Go.Proofs.YtagkfkdoibnhfaaDoor.K
end
section
namespace Go.Proofs.YtagkfkdoibnhfaaDoor.H
open Go.RowKit Go.Proofs.YtagkfkdoibnhfaaDoorW.PrintWords Go.Proofs.YtagkfkdoibnhfaaDoorW.PrintLast Go.Proofs.YtagkfkdoibnhfaaDoorW.PrintMore
attribute [local go_sem] max2_int min2_int max_two min_two max_three min_three max_four min_four   -- for this text's walks alone
set_option linter.unusedVariables false
set_option linter.unusedSimpArgs false
open Go.Proofs.YtagkfkdoibnhfaaDoor.K
end Go.Proofs.YtagkfkdoibnhfaaDoor.H
end
section
namespace Go.Proofs.YtagkfkdoibnhfaaDoor.H
open Go.RowKit Go.Proofs.YtagkfkdoibnhfaaDoorW.PrintWords Go.Proofs.YtagkfkdoibnhfaaDoorW.PrintLast Go.Proofs.YtagkfkdoibnhfaaDoorW.PrintMore
attribute [local go_sem] max2_int min2_int max_two min_two max_three min_three max_four min_four   -- for this text's walks alone
set_option linter.unusedVariables false
set_option linter.unusedSimpArgs false
def saronlaw06_truly.l0 : Nat → List Int → List Int → Int → Int → Int → Int → List (S66) → Option (List Int)
 | 0, _, _, _, _, _, _, _ => none
 | k + 1, x1, x5, x6, x479000, x479001, x479002, x479003 => if x6 < x479002 then ((saronref00_Nth.f x1 x6).bind fun t479 => ((saronref00_Turn.f t479 (wrap64 (x479000 * x479001))).bind fun t480 => (if x5.length < 17592186044416 then (saronlaw06_truly.l0 k x1 (x5 ++ [t480]) (wrap64 (x6 + 1)) x479000 x479001 x479002 x479003) else (none)))) else (some x5)
def saronlaw06_truly.f (k : Nat) (a0_0 : Int) (a0_1 : Int) (a0_2 : Int) (l0_3 : List (S66)) (l1 : List Int) : Option (List Int) := saronlaw06_truly.l0 k l1 ([] : List Int) 0 a0_0 a0_1 a0_2 l0_3
def saronlaw06_truly.T5 : Bool × List (List Nat × List Nat) := (true, [([], []), ([], []), ([], []), ([1, 2], [1, 2]), ([], []), ([4], [4]), ([], []), ([6], [6]), ([5, 7], [5, 7]), ([3, 8, 3], [3, 8]), ([9], [9]), ([0, 10, 9], [0, 10]), ([11, 11, 0, 1, 2, 3, 4, 5, 6, 7, 8, 9, 10, 11], [0, 11])])
def saronlaw06_truly.B5 : List Nat := [0, 0, 0, 6, 0, 16, 0, 64, 240, 510, 1022, 2047, 4095]
theorem saronlaw06_truly.tab5 : rtab .any (opsOf Tryd.f40 5) = saronlaw06_truly.T5 := by kernel_rfl
theorem saronlaw06_truly.bits5 : waitsOk saronlaw06_truly.T5.2 saronlaw06_truly.B5 = true := by kernel_rfl
set_option maxHeartbeats 8000000 in
set_option maxRecDepth 100000 in
theorem saronlaw06_truly.calls (k : Nat) (a0_0 : Int) (a0_1 : Int) (a0_2 : Int) (A0_3 : Option Addr) (c0_3 : Nat) (l0_3 : List (S66)) (A1 : Option Addr) (c1 : Nat) (l1 : List Int) (r : List Int) (w : World) (hr0_3 : Kd.C k66 w A0_3 l0_3.length l0_3) (hc0_3 : l0_3.length ≤ c0_3) (hr1 : Kd.C (Kd.int .i64) w A1 l1.length l1) (hc1 : l1.length ≤ c1) (h : saronlaw06_truly.f k a0_0 a0_1 a0_2 l0_3 l1 = some r) :
  Calls Tryd.prog 40 #[.agg #[.int .i64 a0_0, .int .i64 a0_1, .int .i64 a0_2, .slice A0_3 l0_3.length c0_3], .slice A1 l1.length c1] w fun e w' => ∃ v0_ : Value, e = .returned (v0_) ∧ Kd.R (Kd.int .i64) 3 w' w.heap.size (fun _ => True) v0_ r ∧ Below w.heap.size w w' := by
 have hu24 := Tryd.underlying24
 have HR0_3 := zh hr0_3
 have HC0_3 := zh hc0_3
 clear hr0_3 hc0_3
 have HR1 := zh hr1
 have HC1 := zh hc1
 clear hr1 hc1
 have HB := zh (Below.refl w.heap.size w)
 have H : (saronlaw06_truly.l0 k l1 ([] : List Int) 0 a0_0 a0_1 a0_2 l0_3) = some r := h
 clear h
 have H' := zh H
 clear H
 go_enter Tryd.func40, Tryd.ntmps40
 go_wp2_with (first | ((with_reducible refine gate_dst (N := 2) rfl ?_); refine box_event ?hg (N := 2) ?hd (cs := #[.int .i64 a0_0, .int .i64 a0_1, .int .i64 a0_2, .slice A0_3 l0_3.length c0_3]) (t := 24) ?hr ?_; (case hd => rfl); (case hg => rfl); (case hr => first | (go_simp; done) | (go_simp; rfl)); intro gb478 hg w3 hbox hb; have n0_ := zh (below_step zb hb); have n1_ := zh (hbox); have n2_ := zh ((by rw [hg]; exact (below_size zb) : w.heap.size ≤ gb478)); have n3_ := zh ((by rw [hg]; exact (below_size zb) : w.heap.size ≤ gb478)); clear HB; have HB := n0_; have BK478 := n1_; have GW478 := n2_; have GE478 := n3_; clear n0_ n1_ n2_ n3_; clear hb hbox hg))
 go_loopg [5, 6] k (fun kq v5 v6 w' => ∃ (x5_1 : List Int) (x6_1 : Int), v6 = .int .i64 x6_1 ∧ Aside0 (saronlaw06_truly.l0 kq l1 x5_1 x6_1 a0_0 a0_1 a0_2 l0_3 = some r) ∧ Aside0 (kq ≤ k) ∧ Aside0 (Kd.R (Kd.int .i64) 3 w' w.heap.size (fun _ => True) v5 x5_1) ∧ Aside0 (w'.heap[gb478]? = some (.cells #[.int .i64 a0_0, .int .i64 a0_1, .int .i64 a0_2, (.slice A0_3 l0_3.length c0_3)] 24 (0, 0))) ∧ Aside0 (Below w.heap.size w w'))
 case atStart => exact ⟨(([] : List Int)), (0), ze, H', ⟨Nat.le_refl _⟩, ⟨by first | exact Kd.R_nil _ _ _ _ _ | exact Kd.N_nil _ _ _ _ _ | exact Kd.V_nil _ _ _ _ _ | exact Kd.Q_nil _ _ _ _ _ | exact Kd.S_nil _ _ _ _ _⟩, ⟨zc BK478⟩, ⟨zb⟩⟩
 case round =>
  clear H'
  try clear c1
  try clear p2
  obtain ⟨x5_1, x6_1, rfl, HA, HK1, HO_5, BK478, HB⟩ := hrel
  cases gk with
  | zero => exact absurd HA.out (by simp [saronlaw06_truly.l0])
  | succ k1 =>
   have H := HA.out
   clear HA
   simp only [saronlaw06_truly.l0] at H
   by_cases c4 : x6_1 < a0_2
   ·rw [if_pos c4] at H
    have c4b0 : decide (x6_1 < a0_2) = true := decide_eq_true c4
    clear c4
    replace H := Option.bind_eq_some_iff.mp H
    obtain ⟨t479, A50, H⟩ := H
    replace H : ((saronref00_Turn.f t479 (wrap64 (a0_0 * a0_1))).bind fun t480 => (if x5_1.length < 17592186044416 then (saronlaw06_truly.l0 k1 l1 (x5_1 ++ [t480]) (wrap64 (x6_1 + 1)) a0_0 a0_1 a0_2 l0_3) else (none))) = some r := H
    have A5 := zh A50
    clear A50
    replace H := Option.bind_eq_some_iff.mp H
    obtain ⟨t480, A60, H⟩ := H
    replace H : (if x5_1.length < 17592186044416 then (saronlaw06_truly.l0 k1 l1 (x5_1 ++ [t480]) (wrap64 (x6_1 + 1)) a0_0 a0_1 a0_2 l0_3) else (none)) = some r := H
    have A6 := zh A60
    clear A60
    by_cases c7 : x5_1.length < 17592186044416
    ·rw [if_pos c7] at H
     have LMc7 := zh c7
     clear c7
     obtain ⟨y481, hy481⟩ : ∃ y_ : List Int, y_ = (x5_1 ++ [t480]) := ⟨_, rfl⟩
     replace H : (saronlaw06_truly.l0 k1 l1 y481 (wrap64 (x6_1 + 1)) a0_0 a0_1 a0_2 l0_3) = some r := by first | (rw [hy481]; with_reducible exact H) | (have H2_ := (Option.bind_some _ _).symm.trans H; rw [hy481]; with_reducible exact H2_) | (have H2_ := (Option.bind_some _ _).symm.trans H; with_reducible exact H2_) | with_reducible exact H | (rw [hy481]; exact H) | exact H
     have Ny481 := zh hy481
     clear hy481
     have H' := zh H
     clear H
     have hcz8_0 : wr.cell? ⟨gb478, 0, none⟩ = some (.int .i64 a0_0) := vb BK478 0
     have hcz8_1 : wr.cell? ⟨gb478, 1, none⟩ = some (.int .i64 a0_1) := vb BK478 1
     have hcz8_2 : wr.cell? ⟨gb478, 2, none⟩ = some (.int .i64 a0_2) := vb BK478 2
     have hcz8_3 : wr.cell? ⟨gb478, 3, none⟩ = some (.slice A0_3 l0_3.length c0_3) := vb BK478 3
     have hfz8_0 := blk_frozen BK478.out 0
     have hfz8_1 := blk_frozen BK478.out 1
     have hfz8_2 := blk_frozen BK478.out 2
     have hfz8_3 := blk_frozen BK478.out 3
     try go_wp2
     replace HO_5 := zh (Kd.R_drew HO_5.out)
     replace BK478 := zh (blk_drew BK478.out)
     replace HB := zh (below_drew1 HB.out)
     refine start_ (n := 13) (S := fun w' => w'.cell? ⟨gb478, 0, none⟩ = some (.int .i64 a0_0) ∧ w'.cell? ⟨gb478, 1, none⟩ = some (.int .i64 a0_1) ∧ w'.cell? ⟨gb478, 2, none⟩ = some (.int .i64 a0_2) ∧ w'.cell? ⟨gb478, 3, none⟩ = some (.slice A0_3 l0_3.length c0_3)) (ds := []) (Array.replicate 13 false) zk rfl rfl ⟨vb BK478 0, vb BK478 1, vb BK478 2, vb BK478 3⟩ (fun hHeld => ?_); refine with_tabW saronlaw06_truly.tab5 saronlaw06_truly.bits5 (fun HT_ HW_ => ?_)
     generalize wr.drew = w9 at HO_5 BK478 HB hHeld ⊢
     refine zu 0 ?_
     refine zu 1 ?_
     refine zu 2 ?_
     refine zu 4 ?_
     refine zu 6 ?_
     refine zt 5 ?_
     refine zt 7 ?_
     refine zu 8 ?_
     refine zo 3 (fun K hK => ?_)
     refine goes_ Tryd.func47 zk rfl #[.slice A1 l1.length c1, .int .i64 x6_1] (by rfl) rfl rfl zm ?_
     with_reducible refine (saronref00_Nth.calls _ _ l1 x6_1 t479 _ ?side1 ?side2 A5.out).mono ?_
     (case side1 => repeat (first | exact (Kd.C_below HR1.out HB.out) | (with_reducible refine Kd.C_alloc ?_ _) | (with_reducible refine Kd.C_drewN ?_ _) | (with_reducible refine Kd.C_drew ?_)))
     (case side2 => exact HC1.out)
     rintro e w' ⟨rfl, ⟨nd, rfl⟩⟩
     refine ⟨_, rfl, ?_⟩
     refine hK.out _ _ ⟨vb BK478 0, vb BK478 1, vb BK478 2, vb BK478 3⟩ (fun hHeld => ?_)
     clear hK K
     refine zr 16 _ ?_
     refine zo 9 (fun K hK => ?_)
     refine goes_ Tryd.func42 zk rfl #[.int .i64 t479, .int .i64 (wrap64 (a0_0 * a0_1))] (by rfl) rfl rfl zm ?_
     with_reducible refine (saronref00_Turn.calls t479 (wrap64 (a0_0 * a0_1)) t480 _ A6.out).mono ?_
     rintro e w' ⟨rfl, ⟨nd, rfl⟩⟩
     refine ⟨_, rfl, ?_⟩
     refine hK.out _ _ ⟨vb BK478 0, vb BK478 1, vb BK478 2, vb BK478 3⟩ (fun hHeld => ?_)
     clear hK K
     refine zr 22 _ ?_
     refine zo 10 (fun K hK => ?_)
     refine value_ (w1 := ?_) (v := ?_) (by rfl) rfl ?_ ?_
     rotate_left 2
     ·go_simp
      constructor
      ·rfl
      ·rfl
     refine hK.out _ _ ⟨(blk_cell (blk_alloc BK478.out _) 0).trans rfl, (blk_cell (blk_alloc BK478.out _) 1).trans rfl, (blk_cell (blk_alloc BK478.out _) 2).trans rfl, (blk_cell (blk_alloc BK478.out _) 3).trans rfl⟩ (fun hHeld => ?_)
     clear hK K
     refine zr 23 _ ?_
     refine zo 11 (fun K hK => ?_)
     refine Kd.R_append_step (Kd.int .i64) (w0 := w) w.heap.size (by rfl) (.tmp 13) (.tmp 23) 25 3 (.int .i64 0) 8 rfl Tryd.underlying25 info3 rfl (by decide) (by omega) u5 x5_1 t480 [.int .i64 t480] (fun _ => True) (fun _ => False) rfl rfl ?aP (fun _ hk => hk.elim) ?aF ?aO ?aB ?aS ?aL ?_
     (case aP => exact rfl)
     (case aB => exact zb)
     (case aF => exact (fun _ _ => trivial))
     (case aO => exact (zR HO_5))
     (case aS => exact (below_size zb))
     (case aL => have := LMc7.out; omega)
     intro v482 w10 ho hb hg hat
     rw [← Ny481.out] at ho
     replace BK478 := zh (blk_grown (g := gb478) (o := .cells #[.int .i64 a0_0, .int .i64 a0_1, .int .i64 a0_2, .slice A0_3 l0_3.length c0_3] 24 (0, 0)) (zc BK478) hg (Kd.R_ne HO_5.out BK478.out (by decide)))
     replace HB := zh (hb)
     have HO483 := zh (ho)
     clear HO_5 ho hb hg hat
     refine hK.out _ _ ⟨vb BK478 0, vb BK478 1, vb BK478 2, vb BK478 3⟩ (fun hHeld => ?_)
     clear hK K
     refine zr 24 _ ?_
     refine zu 12 ?_
     refine zd ?_
     try go_wp2
     go_roundg k1
     case measure => have := HK1.out; omega
     case rel => exact ⟨(y481), (wrap64 (x6_1 + 1)), ze, H', ⟨by have := HK1.out; omega⟩, ⟨zR HO483⟩, ⟨zc BK478⟩, ⟨zb⟩⟩
    ·rw [if_neg c7] at H
     exact absurd H (by simp)
   ·rw [if_neg c4] at H
    have c4b0 : decide (x6_1 < a0_2) = false := decide_eq_false c4
    clear c4
    obtain rfl := Option.some.inj H
    have hcz11_0 : wr.cell? ⟨gb478, 0, none⟩ = some (.int .i64 a0_0) := vb BK478 0
    have hcz11_1 : wr.cell? ⟨gb478, 1, none⟩ = some (.int .i64 a0_1) := vb BK478 1
    have hcz11_2 : wr.cell? ⟨gb478, 2, none⟩ = some (.int .i64 a0_2) := vb BK478 2
    have hcz11_3 : wr.cell? ⟨gb478, 3, none⟩ = some (.slice A0_3 l0_3.length c0_3) := vb BK478 3
    have hfz11_0 := blk_frozen BK478.out 0
    have hfz11_1 := blk_frozen BK478.out 1
    have hfz11_2 := blk_frozen BK478.out 2
    have hfz11_3 := blk_frozen BK478.out 3
    go_wp2
    go_ret
    exact ⟨_, zf, (zR HO_5), zb⟩
end Go.Proofs.YtagkfkdoibnhfaaDoor.H
end
section
namespace Go.Proofs.YtagkfkdoibnhfaaDoor.H
open Go.RowKit Go.Proofs.YtagkfkdoibnhfaaDoorW.PrintWords Go.Proofs.YtagkfkdoibnhfaaDoorW.PrintLast Go.Proofs.YtagkfkdoibnhfaaDoorW.PrintMore
attribute [local go_sem] max2_int min2_int max_two min_two max_three min_three max_four min_four   -- for this text's walks alone
set_option linter.unusedVariables false
set_option linter.unusedSimpArgs false
open Go.Proofs.YtagkfkdoibnhfaaDoor.K
end Go.Proofs.YtagkfkdoibnhfaaDoor.H
end
section
namespace Go.Proofs.YtagkfkdoibnhfaaDoor.K
open Go.RowKit Go.Proofs.YtagkfkdoibnhfaaDoorW.PrintWords Go.Proofs.YtagkfkdoibnhfaaDoorW.PrintMore Go.Proofs.YtagkfkdoibnhfaaDoor.H
namespace O
theorem turn_any (a b : Int) (hb : 1 ≤ b) (hb' : b ≤ 9223372036854775807) : saronref00_Turn.f a b = some (a % b) := by
 unfold saronref00_Turn.f
 rw [if_neg (by omega), if_neg (by omega)]
 have h := Int.tmod_eq_emod (a := a) (b := b)
 have h1 := Int.emod_nonneg a (by omega : b ≠ 0)
 have h2 := Int.emod_lt_of_pos a (by omega : 0 < b)
 have hn : (b.natAbs : Int) = b := by omega
 split at h
 ·rw [if_neg (by omega), h]; simp
 ·rw [if_pos (by omega), w64 (by omega) (by omega)]
  congr 1
  omega
theorem nth_any (l : List Int) (hl : l.length ≤ 9223372036854775807) (n : Int) : ∃ v, saronref00_Nth.f l n = some v := by
 unfold saronref00_Nth.f
 by_cases h : (l.length : Int) = 0
 ·exact ⟨_, if_pos h⟩
 ·have h1 := Int.emod_nonneg n h
  have h2 := Int.emod_lt_of_pos n (by omega : 0 < (l.length : Int))
  rw [if_neg h, turn_any n _ (by omega) (by omega), Option.bind_some, if_pos h1, if_pos h2]
  exact ⟨_, rfl⟩
section
variable {T O L : Int} {R : List S66} (hS : okScale T O L R = true)
include hS
theorem truly_l0 (l : List Int) (hl : l.length ≤ 9223372036854775807) : ∀ (d k i : Nat) (acc : List Int), L.toNat - i = d → (i : Int) ≤ L → acc.length = i → (∀ x ∈ acc, 0 ≤ x ∧ x < T * O) → d + 1 ≤ k →
  ∃ t, saronlaw06_truly.l0 k l acc (i : Int) T O L R = some t ∧ (t.length : Int) = L ∧ ∀ x ∈ t, 0 ≤ x ∧ x < T * O
 | d, k, i, acc, hd, hi, ha, hx, hk => by
  obtain ⟨t1, t2, t3, t4, t5, t6, t7, t8, t9, hok⟩ := okScale_regs hS
  obtain ⟨k, rfl⟩ : ∃ z, k = z + 1 := ⟨k - 1, by omega⟩
  simp only [saronlaw06_truly.l0]
  by_cases hlt : (i : Int) < L
  ·obtain ⟨v, hv⟩ := nth_any l hl (i : Int)
   have hTO : T * O ≤ 21 := Int.mul_le_mul (c := 7) (d := 3) t2 t4 (by omega) (by omega)
   have hTO1 : 2 * 1 ≤ T * O := Int.mul_le_mul (by omega) (by omega) (by omega) (by omega)
   rw [if_pos hlt, hv, Option.bind_some, w64 (by omega) (by omega), turn_f v (T * O) (by omega) (by omega), Option.bind_some, if_pos (by omega), up1 i (by omega)]
   refine truly_l0 l hl (d - 1) k (i + 1) _ (by omega) (by omega) (by simp [ha]) (fun x h => ?_) (by omega)
   rcases List.mem_append.1 h with h | h
   ·exact hx x h
   ·rw [List.mem_singleton] at h
    subst h
    exact ⟨Int.emod_nonneg _ (by omega), Int.emod_lt_of_pos _ (by omega)⟩
  ·rw [if_neg hlt]
   exact ⟨acc, rfl, by omega, hx⟩
 termination_by d => d
theorem truly_f (l : List Int) (hl : l.length ≤ 9223372036854775807) (k : Nat) (hk : 20 ≤ k) : ∃ t, saronlaw06_truly.f k T O L R l = some t ∧ (t.length : Int) = L ∧ ∀ x ∈ t, 0 ≤ x ∧ x < T * O := by
 obtain ⟨t1, t2, t3, t4, t5, t6, t7, t8, t9, hok⟩ := okScale_regs hS
 exact truly_l0 hS l hl L.toNat k 0 [] (by omega) (by omega) rfl (by simp) (by omega)
end
end O
end Go.Proofs.YtagkfkdoibnhfaaDoor.K
end
section
namespace Go.Proofs.YtagkfkdoibnhfaaDoor.K
open Go.RowKit Go.Proofs.YtagkfkdoibnhfaaDoorW.PrintWords Go.Proofs.YtagkfkdoibnhfaaDoorW.PrintMore Go.Proofs.YtagkfkdoibnhfaaDoor.H
namespace O
theorem foldl_min (f : Int × Int → Nat) : ∀ (l : List (Int × Int)) (n : Int), l.foldl (fun n p => min n (f p : Int)) n ≤ n ∧ (∀ q ∈ l, l.foldl (fun n p => min n (f p : Int)) n ≤ (f q : Int)) ∧ (l.foldl (fun n p => min n (f p : Int)) n = n ∨ ∃ q ∈ l, l.foldl (fun n p => min n (f p : Int)) n = (f q : Int))
 | [], n => by simp
 | x :: l, n => by
  obtain ⟨a, b, c⟩ := foldl_min f l (min n (f x : Int))
  simp only [List.foldl_cons]
  refine ⟨by omega, fun q hq => ?_, ?_⟩
  ·rcases List.mem_cons.1 hq with rfl | hq
   ·omega
   ·exact b q hq
  ·rcases c with c | ⟨q, hq, c⟩
   ·by_cases h : n ≤ (f x : Int)
    ·left; omega
    ·right; exact ⟨x, by simp, by omega⟩
   ·right; exact ⟨q, by simp [hq], c⟩
section
variable {T O L : Int} {R : List S66} (hS : okScale T O L R = true)
include hS
theorem zero_mem : ((0, 0) : Int × Int) ∈ pairsOf (T * O) := by
 obtain ⟨t1, t2, t3, t4, t5, t6, t7, t8, t9, hok⟩ := okScale_regs hS
 have hTO1 : 2 * 1 ≤ T * O := Int.mul_le_mul (by omega) (by omega) (by omega) (by omega)
 exact pairs_mem_iff.2 ⟨by simp; omega, by simp; omega⟩
theorem leastAt_spec (hs : List S60) (p : Int) : (∀ q ∈ pairsOf (T * O), leastAt T O R hs p ≤ (miss T R hs p q.1 q.2 : Int)) ∧ ∃ q ∈ pairsOf (T * O), leastAt T O R hs p = (miss T R hs p q.1 q.2 : Int) := by
 obtain ⟨a, b, c⟩ := foldl_min (fun q => miss T R hs p q.1 q.2) (pairsOf (T * O)) (miss T R hs p 0 0 : Int)
 refine ⟨b, ?_⟩
 rcases c with c | c
 ·exact ⟨(0, 0), zero_mem hS, c⟩
 ·exact c
theorem leastAt_pos (hs : List S60) (p : Int) : 0 ≤ leastAt T O R hs p := by
 obtain ⟨_, q, _, h⟩ := leastAt_spec hS hs p
 omega
theorem leastAt_zero (hs : List S60) (p : Int) : leastAt T O R hs p = 0 ↔ (choices T O R hs p).isEmpty = false := by
 obtain ⟨a, q, hq, h⟩ := leastAt_spec hS hs p
 constructor
 ·intro h0
  have : q ∈ choices T O R hs p := choices_mem'.2 ⟨hq, by omega⟩
  cases hc : choices T O R hs p with
  | nil => rw [hc] at this; simp at this
  | cons => rfl
 ·intro h0
  cases hc : choices T O R hs p with
  | nil => rw [hc] at h0; simp at h0
  | cons x l =>
   have hx : x ∈ choices T O R hs p := by rw [hc]; simp
   obtain ⟨h1, h2⟩ := choices_mem'.1 hx
   have := a x h1
   have := leastAt_pos hS hs p
   omega
theorem sum_pos {α : Type} (f : α → Int) : ∀ l : List α, (∀ p ∈ l, 0 ≤ f p) → 0 ≤ (l.map f).sum ∧ ((l.map f).sum = 0 ↔ ∀ p ∈ l, f p = 0)
 | [], _ => by simp
 | x :: l, h => by
  obtain ⟨a, b⟩ := sum_pos f l (fun p hp => h p (by simp [hp]))
  have := h x (by simp)
  rw [List.map_cons, List.sum_cons]
  refine ⟨by omega, fun h0 p hp => ?_, fun h0 => ?_⟩
  ·rcases List.mem_cons.1 hp with rfl | hp
   ·omega
   ·exact b.1 (by omega) p hp
  ·rw [h0 x (by simp), b.2 (fun p hp => h0 p (by simp [hp]))]
   rfl
theorem least_pos (hs : List S60) : 0 ≤ leastOf T O L R hs := (sum_pos hS _ _ fun p _ => leastAt_pos hS hs p).1
theorem least_zero (hs : List S60) : leastOf T O L R hs = 0 ↔ canAll T O L R hs = true := by
 unfold leastOf canAll
 rw [(sum_pos hS _ _ fun p _ => leastAt_pos hS hs p).2, List.all_eq_true]
 exact forall_congr' fun p => imp_congr_right fun _ => by rw [leastAt_zero hS hs p]; cases (choices T O R hs p).isEmpty <;> simp
end
theorem count_near (p q : Nat → Bool) (m : Nat) (h : ∀ k, k ≠ m → p k = q k) : ∀ l : List Nat, l.Nodup → l.countP p ≤ l.countP q + 1 ∧ (m ∉ l → l.countP p = l.countP q)
 | [], _ => by simp
 | x :: l, hn => by
  obtain ⟨hx, hn⟩ := List.nodup_cons.1 hn
  obtain ⟨a, b⟩ := count_near p q m h l hn
  rw [List.countP_cons, List.countP_cons]
  by_cases hm : x = m
  ·subst hm
   rw [b hx]
   refine ⟨by split <;> split <;> omega, fun h' => absurd (by simp) h'⟩
  ·rw [h x hm]
   refine ⟨by omega, fun h' => ?_⟩
   rw [b (fun h2 => h' (by simp [h2]))]
theorem missOf_set (was l : List Int) (m : Nat) (v : Int) (hm : m < was.length) : missOf (was.set m v) l ≤ missOf was l + 1 ∧ missOf was l ≤ missOf (was.set m v) l + 1 ∧ (l.length ≤ m → missOf (was.set m v) l = missOf was l) := by
 unfold missOf
 have h : ∀ k, k ≠ m → (was.set m v).getD k 0 = was.getD k 0 := fun k hk => by
  rw [List.getD_eq_getElem?_getD, List.getElem?_set_ne (by omega), ← List.getD_eq_getElem?_getD]
 refine ⟨(count_near _ _ m (fun k hk => by rw [h k hk]) _ List.nodup_range).1, (count_near _ _ m (fun k hk => by rw [h k hk]) _ List.nodup_range).1, fun hl => ?_⟩
 exact (count_near _ _ m (fun k hk => by rw [h k hk]) _ List.nodup_range).2 (by rw [List.mem_range]; omega)
theorem sum_set (f : S60 → Nat) (x y : S60) : ∀ (l : List S60) (j : Nat), l[j]? = some x → ((l.set j y).map f).sum + f x = (l.map f).sum + f y
 | [], j, h => by simp at h
 | z :: l, 0, h => by
  simp at h
  subst h
  simp only [List.set_cons_zero, List.map_cons, List.sum_cons]
  omega
 | z :: l, j + 1, h => by
  have ih := sum_set f x y l j (by simpa using h)
  simp only [List.set_cons_succ, List.map_cons, List.sum_cons]
  omega
def changed (hs : List S60) (j m : Nat) (v : Int) (x : S60) : List S60 := hs.set j ⟨x.f0, x.f1.set m v⟩
theorem miss_set (T : Int) (R : List S66) (hs : List S60) (j m : Nat) (v : Int) (x : S60) (hj : hs[j]? = some x) (hm : m < x.f1.length) (p a b : Int) :
  miss T R (changed hs j m v x) p a b ≤ miss T R hs p a b + 1 ∧ miss T R hs p a b ≤ miss T R (changed hs j m v x) p a b + 1 ∧ (p.toNat ≠ m / width (regAt R x.f0) → miss T R (changed hs j m v x) p a b = miss T R hs p a b) := by
 have h := sum_set (fun h => missOf (h.f1.drop (p.toNat * width (regAt R h.f0))) (strokes T R h.f0 a b)) x ⟨x.f0, x.f1.set m v⟩ hs j hj
 have hwp := width_pos (regAt R x.f0)
 unfold miss changed
 generalize hW : width (regAt R x.f0) = W at *
 have hsl : (strokes T R x.f0 a b).length = W := by rw [strokes_width, hW]
 simp only [hW] at h
 have key : missOf ((x.f1.set m v).drop (p.toNat * W)) (strokes T R x.f0 a b) ≤ missOf (x.f1.drop (p.toNat * W)) (strokes T R x.f0 a b) + 1 ∧ missOf (x.f1.drop (p.toNat * W)) (strokes T R x.f0 a b) ≤ missOf ((x.f1.set m v).drop (p.toNat * W)) (strokes T R x.f0 a b) + 1 ∧ (p.toNat ≠ m / W → missOf ((x.f1.set m v).drop (p.toNat * W)) (strokes T R x.f0 a b) = missOf (x.f1.drop (p.toNat * W)) (strokes T R x.f0 a b)) := by
  rw [List.drop_set]
  split
  ·exact ⟨by omega, by omega, fun _ => rfl⟩
  ·rename_i hge
   obtain ⟨c, d, e⟩ := missOf_set (x.f1.drop (p.toNat * W)) (strokes T R x.f0 a b) (m - p.toNat * W) v (by rw [List.length_drop]; omega)
   refine ⟨c, d, fun hne => e ?_⟩
   rw [hsl]
   have hlt : p.toNat < m / W := by
    have : p.toNat ≤ m / W := (Nat.le_div_iff_mul_le (by omega)).2 (by omega)
    omega
   have := (Nat.le_div_iff_mul_le (show 0 < W by omega)).1 (show p.toNat + 1 ≤ m / W by omega)
   rw [Nat.add_mul, Nat.one_mul] at this
   omega
 refine ⟨by omega, by omega, fun hne => ?_⟩
 have := key.2.2 hne
 omega
theorem sum_near (f g : Int → Int) (c : Int) : ∀ l : List Int, l.Nodup → (∀ p ∈ l, p ≠ c → f p = g p) → (∀ p ∈ l, f p ≤ g p + 1) → (l.map f).sum ≤ (l.map g).sum + 1 ∧ (c ∉ l → (l.map f).sum = (l.map g).sum)
 | [], _, _, _ => by simp
 | x :: l, hn, h1, h2 => by
  obtain ⟨hx, hn⟩ := List.nodup_cons.1 hn
  obtain ⟨a, b⟩ := sum_near f g c l hn (fun p hp => h1 p (by simp [hp])) (fun p hp => h2 p (by simp [hp]))
  rw [List.map_cons, List.map_cons, List.sum_cons, List.sum_cons]
  have h3 := h2 x (by simp)
  by_cases hc : x = c
  ·subst hc
   rw [b hx]
   exact ⟨by omega, fun h => absurd (by simp) h⟩
  ·rw [h1 x (by simp) hc]
   refine ⟨by omega, fun h => ?_⟩
   rw [b (fun h' => h (by simp [h']))]
theorem irange_nodup (lo hi : Int) : (irange lo hi).Nodup := by
 unfold irange
 refine List.Pairwise.map _ (fun a b h => ?_) List.nodup_range
 intro h'
 exact h (by omega)
section
variable {T O L : Int} {R : List S66} (hS : okScale T O L R = true)
include hS
theorem least_near (hs hs' : List S60) (c : Int) (h : ∀ p a b, 0 ≤ p → (miss T R hs p a b ≤ miss T R hs' p a b + 1) ∧ (p ≠ c → miss T R hs p a b = miss T R hs' p a b)) : leastOf T O L R hs ≤ leastOf T O L R hs' + 1 := by
 unfold leastOf
 refine (sum_near _ _ c _ (irange_nodup _ _) (fun p hp hc => ?_) fun p hp => ?_).1
 ·have h0 := (irange_mem_iff.1 hp).1
  obtain ⟨a, q, hq, e⟩ := leastAt_spec hS hs p
  obtain ⟨a', q', hq', e'⟩ := leastAt_spec hS hs' p
  have h1 := a q' hq'
  have h2 := a' q hq
  have h3 := (h p q.1 q.2 h0).2 hc
  have h4 := (h p q'.1 q'.2 h0).2 hc
  omega
 ·have h0 := (irange_mem_iff.1 hp).1
  obtain ⟨a, q, hq, e⟩ := leastAt_spec hS hs p
  obtain ⟨a', q', hq', e'⟩ := leastAt_spec hS hs' p
  have h1 := a q' hq'
  have h4 := (h p q'.1 q'.2 h0).1
  omega
theorem least_changed (hs : List S60) (j m : Nat) (v : Int) (x : S60) (hj : hs[j]? = some x) (hm : m < x.f1.length) : leastOf T O L R (changed hs j m v x) ≤ leastOf T O L R hs + 1 ∧ leastOf T O L R hs ≤ leastOf T O L R (changed hs j m v x) + 1 := by
 have hh := miss_set T R hs j m v x hj hm
 refine ⟨least_near hS _ _ ((m / width (regAt R x.f0) : Nat) : Int) fun p a b h0 => ⟨(hh p a b).1, fun hc => (hh p a b).2.2 (by omega)⟩, least_near hS _ _ ((m / width (regAt R x.f0) : Nat) : Int) fun p a b h0 => ⟨(hh p a b).2.1, fun hc => ((hh p a b).2.2 (by omega)).symm⟩⟩
end
end O
end Go.Proofs.YtagkfkdoibnhfaaDoor.K
end
section
namespace Go.Proofs.YtagkfkdoibnhfaaDoor.K
open Go.RowKit Go.Proofs.YtagkfkdoibnhfaaDoorW.PrintWords Go.Proofs.YtagkfkdoibnhfaaDoorW.PrintMore Go.Proofs.YtagkfkdoibnhfaaDoor.H
namespace O
theorem missOf_append (was l1 l2 : List Int) : missOf was (l1 ++ l2) = missOf was l1 + missOf (was.drop l1.length) l2 := by
 unfold missOf
 rw [List.length_append, List.range_add, List.countP_append, List.countP_map]
 congr 1
 ·refine List.countP_congr fun k hk => ?_
  rw [List.mem_range] at hk
  have : (l1 ++ l2).getD k 0 = l1.getD k 0 := by rw [List.getD_eq_getElem?_getD, List.getElem?_append_left hk, ← List.getD_eq_getElem?_getD]
  rw [this]
 ·refine List.countP_congr fun k hk => ?_
  have e1 : (l1 ++ l2).getD (l1.length + k) 0 = l2.getD k 0 := by rw [List.getD_eq_getElem?_getD, List.getElem?_append_right (by omega), Nat.add_sub_cancel_left, ← List.getD_eq_getElem?_getD]
  have e2 : (was.drop l1.length).getD k 0 = was.getD (l1.length + k) 0 := by rw [List.getD_eq_getElem?_getD, List.getElem?_drop, ← List.getD_eq_getElem?_getD]
  show _ ↔ _
  simp only [Function.comp_apply]
  rw [e1, e2]
theorem miss_part (T : Int) (R : List S66) (r : Int) : ∀ (n : Nat) (t was : List Int), t.length = 2 * n → missOf was (partOf T R r t) = ((List.range n).map fun p => missOf (was.drop (p * width (regAt R r))) (strokes T R r (t.getD (2 * p) 0) (t.getD (2 * p + 1) 0))).sum
 | 0, t, was, h => by
  match t, h with
  | [], _ => simp [partOf, missOf]
 | n + 1, t, was, h => by
  match t, h with
  | a :: b :: rest, h =>
   have ih := miss_part T R r n rest (was.drop (width (regAt R r))) (by simp at h; omega)
   rw [partOf, missOf_append, strokes_width, ih, List.range_succ_eq_map, List.map_cons, List.sum_cons, List.map_map, Nat.zero_mul, List.drop_zero]
   congr 1
   congr 1
   apply List.map_congr_left
   intro p _
   simp only [Function.comp_apply]
   rw [List.drop_drop, show width (regAt R r) + p * width (regAt R r) = (p + 1) * width (regAt R r) by rw [Nat.add_mul]; omega]
   rfl
theorem sum_swap {α β : Type} (f : α → β → Nat) : ∀ (l : List α) (m : List β), (l.map fun a => (m.map (f a)).sum).sum = (m.map fun b => (l.map fun a => f a b).sum).sum
 | [], m => by
  induction m with
  | nil => rfl
  | cons x m ih => rw [List.map_cons, List.sum_cons, ← ih]; rfl
 | a :: l, m => by
  have ih := sum_swap f l m
  rw [List.map_cons, List.sum_cons, ih]
  clear ih
  induction m with
  | nil => rfl
  | cons x m ih =>
   simp only [List.map_cons, List.sum_cons] at ih ⊢
   omega
theorem sum_le_nat (f : Int → Int) (g : Nat → Nat) : ∀ l : List Nat, (∀ p ∈ l, f (p : Int) ≤ (g p : Int)) → ((l.map fun p : Nat => f (p : Int)).sum) ≤ (((l.map g).sum : Nat) : Int)
 | [], _ => by simp
 | x :: l, h => by
  have ih := sum_le_nat f g l (fun p hp => h p (by simp [hp]))
  have := h x (by simp)
  simp only [List.map_cons, List.sum_cons]
  omega
def otherOf (T : Int) (R : List S66) (t : List Int) (hs : List S60) : Nat := (hs.map fun x => missOf x.f1 (partOf T R x.f0 t)).sum
theorem least_other {T O L : Int} {R : List S66} (hS : okScale T O L R = true) (t : List Int) (hL : (t.length : Int) = L) (ht : ∀ x ∈ t, 0 ≤ x ∧ x < T * O) (hs : List S60) : leastOf T O L R hs ≤ (otherOf T R t hs : Int) := by
 obtain ⟨t1, t2, t3, t4, t5, t6, t7, t8, t9, hok⟩ := okScale_regs hS
 have e : otherOf T R t hs = ((List.range (L / 2).toNat).map fun p : Nat => miss T R hs (p : Int) (pairAt t (p : Int)).1 (pairAt t (p : Int)).2).sum := by
  unfold otherOf miss pairAt
  simp only [Int.toNat_natCast]
  rw [sum_swap]
  congr 1
  apply List.map_congr_left
  intro x _
  exact miss_part T R x.f0 _ t x.f1 (by omega)
 rw [e]
 unfold leastOf irange
 rw [List.map_map, show (L / 2 - 1 + 1 - 0).toNat = (L / 2).toNat by omega]
 have h := sum_le_nat (leastAt T O R hs) (fun p : Nat => miss T R hs (p : Int) (pairAt t (p : Int)).1 (pairAt t (p : Int)).2) (List.range (L / 2).toNat) (fun p hp => by
  rw [List.mem_range] at hp
  exact (leastAt_spec hS hs (p : Int)).1 _ (true_pair hS hL ht (p : Int) (by omega) (by omega)))
 refine Int.le_trans (Int.le_of_eq ?_) h
 congr 1
 apply List.map_congr_left
 intro p _
 simp only [Function.comp_apply, Int.zero_add]
end O
end Go.Proofs.YtagkfkdoibnhfaaDoor.K
end
section
namespace Go.Proofs.YtagkfkdoibnhfaaDoor.H
open Go.RowKit Go.Proofs.YtagkfkdoibnhfaaDoorW.PrintWords Go.Proofs.YtagkfkdoibnhfaaDoorW.PrintLast Go.Proofs.YtagkfkdoibnhfaaDoorW.PrintMore
attribute [local go_sem] max2_int min2_int max_two min_two max_three min_three max_four min_four   -- for this text's walks alone
set_option linter.unusedVariables false
set_option linter.unusedSimpArgs false
open Go.Proofs.YtagkfkdoibnhfaaDoor.K
mutual
def saronlaw06_KernelWrongly.j0 : Nat → List (S60) → List Int → Int → Int → Int → Int → Bool → Int → Int → Int → List (S66) → Option (Bool)
 | 0, _, _, _, _, _, _, _, _, _, _, _ => none
 | k + 1, x1, x2, x7, x8, x9, x10, x55, x731000, x731001, x731002, x731003 => if x55 = true then (if x8 = x10 then (if x8 = 60 then (if x7 = 0 then (if x9 = 0 then ((saronlaw06_works.f).bind fun t736 => (some t736)) else (some false)) else (some false)) else (if x8 = 61 then (if x7 = 0 then (if x9 = 0 then ((saronlaw06_works.f).bind fun t737 => (some t737)) else (some false)) else (some false)) else (some false))) else (some false)) else ((saronlaw06_truly.f k x731000 x731001 x731002 x731003 x2).bind fun t738 => (saronlaw06_KernelWrongly.l0 k x1 x2 x7 x9 t738 0 0 x731000 x731001 x731002 x731003))
def saronlaw06_KernelWrongly.l0 : Nat → List (S60) → List Int → Int → Int → List Int → Int → Int → Int → Int → Int → List (S66) → Option (Bool)
 | 0, _, _, _, _, _, _, _, _, _, _, _ => none
 | k + 1, x1, x2, x7, x9, x11, x12, x13, x731000, x731001, x731002, x731003 => if x13 < (x1.length : Int) then (if 0 ≤ x13 then ((kernel_Part.f x731000 x731001 x731002 x731003 x11 ((rd_T60 x1 x13).f0)).bind fun bt742 => (if bt742.2 = 0 then (saronlaw06_KernelWrongly.j2 k x1 x2 x7 x9 x11 x12 x13 bt742.1 ((bt742.1.length : Int) != (((rd_T60 x1 x13).f1).length : Int)) x731000 x731001 x731002 x731003) else (saronlaw06_KernelWrongly.j2 k x1 x2 x7 x9 x11 x12 x13 bt742.1 true x731000 x731001 x731002 x731003))) else (none)) else (if x7 < 0 then (saronlaw06_KernelWrongly.j4 k x1 x2 x7 true x731000 x731001 x731002 x731003) else (if x12 < x7 then (saronlaw06_KernelWrongly.j4 k x1 x2 x7 true x731000 x731001 x731002 x731003) else (saronlaw06_KernelWrongly.j4 k x1 x2 x7 ((decide (x9 > 0)) != (x7 == 0)) x731000 x731001 x731002 x731003)))
def saronlaw06_KernelWrongly.j2 : Nat → List (S60) → List Int → Int → Int → List Int → Int → Int → List Int → Bool → Int → Int → Int → List (S66) → Option (Bool)
 | 0, _, _, _, _, _, _, _, _, _, _, _, _, _ => none
 | k + 1, x1, x2, x7, x9, x11, x12, x13, x14, x110, x731000, x731001, x731002, x731003 => if x110 = true then (some false) else (saronlaw06_KernelWrongly.l1 k x1 x2 x7 x9 x11 x12 x13 x14 0 x731000 x731001 x731002 x731003)
def saronlaw06_KernelWrongly.l1 : Nat → List (S60) → List Int → Int → Int → List Int → Int → Int → List Int → Int → Int → Int → Int → List (S66) → Option (Bool)
 | 0, _, _, _, _, _, _, _, _, _, _, _, _, _ => none
 | k + 1, x1, x2, x7, x9, x11, x12, x13, x14, x16, x731000, x731001, x731002, x731003 => if x16 < (x14.length : Int) then (if 0 ≤ x13 then (if x13 < (x1.length : Int) then (if 0 ≤ x16 then (if x16 < (((rd_T60 x1 x13).f1).length : Int) then (if (rd ((rd_T60 x1 x13).f1) x16) = (rd x14 x16) then (saronlaw06_KernelWrongly.l1 k x1 x2 x7 x9 x11 x12 x13 x14 (wrap64 (x16 + 1)) x731000 x731001 x731002 x731003) else (if (rd ((rd_T60 x1 x13).f1) x16) = (-2) then (saronlaw06_KernelWrongly.l1 k x1 x2 x7 x9 x11 x12 x13 x14 (wrap64 (x16 + 1)) x731000 x731001 x731002 x731003) else (saronlaw06_KernelWrongly.l1 k x1 x2 x7 x9 x11 (wrap64 (x12 + 1)) x13 x14 (wrap64 (x16 + 1)) x731000 x731001 x731002 x731003))) else (none)) else (none)) else (none)) else (none)) else (saronlaw06_KernelWrongly.l0 k x1 x2 x7 x9 x11 x12 (wrap64 (x13 + 1)) x731000 x731001 x731002 x731003)
def saronlaw06_KernelWrongly.j4 : Nat → List (S60) → List Int → Int → Bool → Int → Int → Int → List (S66) → Option (Bool)
 | 0, _, _, _, _, _, _, _, _ => none
 | k + 1, x1, x2, x7, x156, x731000, x731001, x731002, x731003 => if x156 = true then (some false) else ((some (([] : List (S60)) : List (S60))).bind fun y752 => (if y752.length + x1.length < 4398046511104 then (saronlaw06_KernelWrongly.l2 k x1 x2 x7 (y752 ++ x1) 0 x731000 x731001 x731002 x731003) else (none)))
def saronlaw06_KernelWrongly.l2 : Nat → List (S60) → List Int → Int → List (S60) → Int → Int → Int → Int → List (S66) → Option (Bool)
 | 0, _, _, _, _, _, _, _, _, _ => none
 | k + 1, x1, x2, x7, x17, x18, x731000, x731001, x731002, x731003 => if (wrap64 (x18 + 1)) < x7 then (saronlaw06_KernelWrongly.j6 k x1 x2 x7 x17 x18 (decide (x18 < 12)) x731000 x731001 x731002 x731003) else (saronlaw06_KernelWrongly.j6 k x1 x2 x7 x17 x18 false x731000 x731001 x731002 x731003)
def saronlaw06_KernelWrongly.j6 : Nat → List (S60) → List Int → Int → List (S60) → Int → Bool → Int → Int → Int → List (S66) → Option (Bool)
 | 0, _, _, _, _, _, _, _, _, _, _ => none
 | k + 1, x1, x2, x7, x17, x18, x167, x731000, x731001, x731002, x731003 => if x167 = true then ((saronref00_Nth.f x2 x18).bind fun t758 => ((saronref00_Turn.f t758 (x17.length : Int)).bind fun t759 => ((some (([] : List Int) : List Int)).bind fun y760 => (if 0 ≤ t759 then (if t759 < (x17.length : Int) then (if y760.length + ((rd_T60 x17 t759).f1).length < 17592186044416 then ((some (y760 ++ ((rd_T60 x17 t759).f1) : List Int)).bind fun y764 => (if (y764.length : Int) > 0 then ((saronref00_Nth.f x2 (wrap64 (x18 + 1))).bind fun t767 => ((saronref00_Turn.f t767 (y764.length : Int)).bind fun t768 => (if 0 ≤ t768 then (if t768 < (y764.length : Int) then ((saronlaw06_of.f ((rd_T60 x17 t759).f0) (y764.set (t768 : Int).toNat (-2))).bind fun bt771 => (saronlaw06_KernelWrongly.l2 k x1 x2 x7 (x17.set (t759 : Int).toNat (⟨bt771.1, bt771.2⟩ : S60)) (wrap64 (x18 + 1)) x731000 x731001 x731002 x731003)) else (none)) else (none)))) else ((saronlaw06_of.f ((rd_T60 x17 t759).f0) y764).bind fun bt777 => (saronlaw06_KernelWrongly.l2 k x1 x2 x7 (x17.set (t759 : Int).toNat (⟨bt777.1, bt777.2⟩ : S60)) (wrap64 (x18 + 1)) x731000 x731001 x731002 x731003)))) else (none)) else (none)) else (none))))) else ((kernel_Many.f x731000 x731001 x731002 x731003 x17).bind fun bt782 => (if bt782.2 = 0 then (if x7 > 0 then (saronlaw06_KernelWrongly.j7 k x1 x2 x7 (bt782.1 != 0) x731000 x731001 x731002 x731003) else (saronlaw06_KernelWrongly.j7 k x1 x2 x7 false x731000 x731001 x731002 x731003)) else (saronlaw06_KernelWrongly.j7 k x1 x2 x7 true x731000 x731001 x731002 x731003)))
def saronlaw06_KernelWrongly.j7 : Nat → List (S60) → List Int → Int → Bool → Int → Int → Int → List (S66) → Option (Bool)
 | 0, _, _, _, _, _, _, _, _ => none
 | k + 1, x1, x2, x7, x220, x731000, x731001, x731002, x731003 => if x220 = true then (some false) else ((saronref00_Nth.f x2 2).bind fun t784 => ((saronref00_Turn.f t784 (x1.length : Int)).bind fun t785 => ((some (([] : List (S60)) : List (S60))).bind fun y786 => (if y786.length + x1.length < 4398046511104 then ((some (y786 ++ x1 : List (S60))).bind fun y789 => ((some (([] : List Int) : List Int)).bind fun y792 => (if 0 ≤ t785 then (if t785 < (x1.length : Int) then (if y792.length + ((rd_T60 x1 t785).f1).length < 17592186044416 then ((some (y792 ++ ((rd_T60 x1 t785).f1) : List Int)).bind fun y796 => (if (y796.length : Int) > 0 then ((saronref00_Nth.f x2 3).bind fun t799 => ((saronref00_Turn.f t799 (y796.length : Int)).bind fun t800 => ((saronref00_Nth.f x2 4).bind fun t801 => ((saronref00_Turn.f t801 (wrap64 (x731000 * x731001))).bind fun t802 => (if 0 ≤ t800 then (if t800 < (y796.length : Int) then (saronlaw06_KernelWrongly.j8 k x1 x7 t785 y789 (y796.set (t800 : Int).toNat t802) x731000 x731001 x731002 x731003) else (none)) else (none)))))) else (saronlaw06_KernelWrongly.j8 k x1 x7 t785 y789 y796 x731000 x731001 x731002 x731003))) else (none)) else (none)) else (none)))) else (none)))))
def saronlaw06_KernelWrongly.j8 : Nat → List (S60) → Int → Int → List (S60) → List Int → Int → Int → Int → List (S66) → Option (Bool)
 | 0, _, _, _, _, _, _, _, _, _ => none
 | k + 1, x1, x7, x23, x24, x25, x731000, x731001, x731002, x731003 => if 0 ≤ x23 then (if x23 < (x1.length : Int) then ((saronlaw06_of.f ((rd_T60 x1 x23).f0) x25).bind fun bt805 => (if x23 < (x24.length : Int) then ((kernel_Least.f x731000 x731001 x731002 x731003 (x24.set (x23 : Int).toNat (⟨bt805.1, bt805.2⟩ : S60))).bind fun bt810 => (if bt810.2 = 0 then ((saronref00_Plain.f (wrap64 (bt810.1 - x7))).bind fun t812 => (if t812 ≤ 1 then ((saronlaw06_works.f).bind fun t813 => (some t813)) else (some false))) else (some false))) else (none))) else (none)) else (none)
end
def saronlaw06_KernelWrongly.f (k : Nat) (a0_0 : Int) (a0_1 : Int) (a0_2 : Int) (l0_3 : List (S66)) (l1 : List (S60)) (l2 : List Int) : Option (Bool) := (kernel_Least.f a0_0 a0_1 a0_2 l0_3 l1).bind fun bt731 => ((kernel_Many.f a0_0 a0_1 a0_2 l0_3 l1).bind fun bt733 => (if bt731.2 = bt733.2 then (if bt731.2 = 0 then ((saronlaw06_sound.f k a0_0 a0_1 a0_2 l0_3).bind fun t735 => (if t735 = true then (saronlaw06_KernelWrongly.j0 k l1 l2 bt731.1 bt731.2 bt733.1 bt733.2 ((l1.length : Int) == 0) a0_0 a0_1 a0_2 l0_3) else (saronlaw06_KernelWrongly.j0 k l1 l2 bt731.1 bt731.2 bt733.1 bt733.2 true a0_0 a0_1 a0_2 l0_3))) else (saronlaw06_KernelWrongly.j0 k l1 l2 bt731.1 bt731.2 bt733.1 bt733.2 true a0_0 a0_1 a0_2 l0_3)) else (saronlaw06_KernelWrongly.j0 k l1 l2 bt731.1 bt731.2 bt733.1 bt733.2 true a0_0 a0_1 a0_2 l0_3)))
end Go.Proofs.YtagkfkdoibnhfaaDoor.H
end
section
namespace Go.Proofs.YtagkfkdoibnhfaaDoor.K
open Go.RowKit Go.Proofs.YtagkfkdoibnhfaaDoorW.PrintWords Go.Proofs.YtagkfkdoibnhfaaDoorW.PrintMore Go.Proofs.YtagkfkdoibnhfaaDoor.H
namespace O
theorem ok_changed {L : Int} {R : List S66} {hs : List S60} (hH : okHeard L R hs = true) (j m : Nat) (v : Int) (hv : -2 ≤ v) (hv' : v ≤ 40) (x : S60) (hj : hs[j]? = some x) : okHeard L R (changed hs j m v x) = true := by
 unfold okHeard changed at *
 simp only [Bool.and_eq_true, decide_eq_true_eq, List.all_eq_true, List.length_set] at hH ⊢
 refine ⟨hH.1, fun y hy => ?_⟩
 rcases List.mem_or_eq_of_mem_set hy with hy | rfl
 ·exact hH.2 y hy
 ·have := hH.2 x (List.mem_of_getElem? hj)
  unfold okHeard1 at *
  simp only [Bool.and_eq_true, decide_eq_true_eq, List.all_eq_true, List.length_set] at this ⊢
  refine ⟨this.1, fun n hn => ?_⟩
  rcases List.mem_or_eq_of_mem_set hn with hn | rfl
  ·exact this.2 n hn
  ·exact ⟨hv, hv'⟩
theorem heard_pos {T O L : Int} {R : List S66} {hs : List S60} (hS : okScale T O L R = true) (hH : okHeard L R hs = true) (j : Nat) (hj : j < hs.length) : 1 ≤ hs[j].f1.length ∧ hs[j].f1.length ≤ 40 := by
 obtain ⟨t1, t2, t3, t4, t5, t6, t7, t8, t9, hok⟩ := okScale_regs hS
 obtain ⟨hh5, hh⟩ := okHeard_get hH
 obtain ⟨g1, g2, g3, g4⟩ := hh j hj
 have hwl := width_le (regAt R hs[j].f0)
 have hwp := width_pos (regAt R hs[j].f0)
 have a : L / 2 * (width (regAt R hs[j].f0) : Int) ≤ 8 * 4 := Int.mul_le_mul (by omega) (by omega) (by omega) (by omega)
 have b : 1 * 1 ≤ L / 2 * (width (regAt R hs[j].f0) : Int) := Int.mul_le_mul (by omega) (by omega) (by omega) (by omega)
 omega
section
variable (T O L : Int) (R : List S66) (hs : List S60) (bits : List Int) (least : Int) (hS : okScale T O L R = true) (hH : okHeard L R hs = true) (hb : bits.length ≤ 9223372036854775807) (hle : least = leastOf T O L R hs)
include hS hH hb hle
theorem wrong_j8 (j m : Nat) (v : Int) (hj : j < hs.length) (hm : m < hs[j].f1.length) (hv : -2 ≤ v) (hv' : v ≤ 40) (k : Nat) (hk : 1 ≤ k) : saronlaw06_KernelWrongly.j8 k hs least (j : Int) hs (hs[j].f1.set m v) T O L R = some true := by
 obtain ⟨k, rfl⟩ : ∃ z, k = z + 1 := ⟨k - 1, by omega⟩
 have e60 : rd_T60 hs (j : Int) = hs[j] := by
  unfold rd_T60
  simp [hj]
 have hj' : hs[j]? = some hs[j] := List.getElem?_eq_getElem hj
 have hc := ok_changed hH j m v hv hv' hs[j] hj'
 obtain ⟨a, b⟩ := least_changed hS hs j m v hs[j] hj' hm
 have e : Least T O L R (changed hs j m v hs[j]) = (leastOf T O L R (changed hs j m v hs[j]), 0) := by unfold Least; rw [hS, hc, if_pos rfl, if_pos rfl]
 simp only [saronlaw06_KernelWrongly.j8]
 unfold saronlaw06_of.f kernel_Least.f
 rw [if_pos (by omega), if_pos (by omega), Option.bind_some, if_pos (by omega), Option.bind_some, e60, Int.toNat_natCast]
 show (if (Least T O L R (changed hs j m v hs[j])).2 = 0 then ((saronref00_Plain.f (wrap64 ((Least T O L R (changed hs j m v hs[j])).1 - least))).bind fun t812 => (if t812 ≤ 1 then ((saronlaw06_works.f).bind fun t813 => (some t813)) else (some false))) else (some false)) = _
 rw [e, if_pos rfl]
 show ((saronref00_Plain.f (wrap64 (leastOf T O L R (changed hs j m v hs[j]) - least))).bind _) = _
 rw [w64 (by omega) (by omega)]
 have hpl : ∃ y, saronref00_Plain.f (leastOf T O L R (changed hs j m v hs[j]) - least) = some y ∧ y ≤ 1 := by
  unfold saronref00_Plain.f
  split
  ·exact ⟨_, rfl, by rw [w64 (by omega) (by omega)]; omega⟩
  ·exact ⟨_, rfl, by omega⟩
 obtain ⟨y, e1, e2⟩ := hpl
 rw [e1, Option.bind_some, if_pos e2]
 rfl
theorem wrong_j7 (k : Nat) (hk : 2 ≤ k) : saronlaw06_KernelWrongly.j7 k hs bits least false T O L R = some true := by
 obtain ⟨t1, t2, t3, t4, t5, t6, t7, t8, t9, hok⟩ := okScale_regs hS
 obtain ⟨hh5, hh⟩ := okHeard_get hH
 have hh1 : 1 ≤ hs.length := by
  unfold okHeard at hH
  simp only [Bool.and_eq_true, decide_eq_true_eq] at hH
  exact hH.1.1
 have hTO : T * O ≤ 21 := Int.mul_le_mul (c := 7) (d := 3) t2 t4 (by omega) (by omega)
 have hTO1 : 2 * 1 ≤ T * O := Int.mul_le_mul (by omega) (by omega) (by omega) (by omega)
 obtain ⟨k, rfl⟩ : ∃ z, k = z + 1 := ⟨k - 1, by omega⟩
 obtain ⟨v2, e2⟩ := nth_any bits hb 2
 obtain ⟨v3, e3⟩ := nth_any bits hb 3
 obtain ⟨v4, e4⟩ := nth_any bits hb 4
 obtain ⟨j, hj⟩ : ∃ j : Nat, v2 % (hs.length : Int) = (j : Int) := ⟨(v2 % (hs.length : Int)).toNat, by have := Int.emod_nonneg v2 (show (hs.length : Int) ≠ 0 by omega); omega⟩
 have hjl : j < hs.length := by have := Int.emod_lt_of_pos v2 (show 0 < (hs.length : Int) by omega); omega
 obtain ⟨p1, p2⟩ := heard_pos hS hH j hjl
 obtain ⟨m, hm⟩ : ∃ m : Nat, v3 % (hs[j].f1.length : Int) = (m : Int) := ⟨(v3 % (hs[j].f1.length : Int)).toNat, by have := Int.emod_nonneg v3 (show (hs[j].f1.length : Int) ≠ 0 by omega); omega⟩
 have hml : m < hs[j].f1.length := by have := Int.emod_lt_of_pos v3 (show 0 < (hs[j].f1.length : Int) by omega); omega
 have w1 := Int.emod_nonneg v4 (show T * O ≠ 0 by omega)
 have w2 := Int.emod_lt_of_pos v4 (show 0 < T * O by omega)
 have e60 : rd_T60 hs (j : Int) = hs[j] := by
  unfold rd_T60
  simp [hjl]
 simp only [saronlaw06_KernelWrongly.j7]
 rw [if_neg (by simp), e2, Option.bind_some, turn_f v2 _ (by omega) (by omega), Option.bind_some, Option.bind_some, hj]
 simp only [List.nil_append, List.length_nil, Nat.zero_add, Option.bind_some]
 rw [if_pos (by omega), if_pos (by omega), if_pos (by omega), e60, if_pos (by omega), if_pos (by omega), e3, Option.bind_some, turn_f v3 _ (by omega) (by omega), Option.bind_some, hm, e4, Option.bind_some, w64 (by omega) (by omega), turn_f v4 _ (by omega) (by omega), Option.bind_some, if_pos (by omega), if_pos (by omega), Int.toNat_natCast]
 exact wrong_j8 T O L R hs bits least hS hH hb hle j m _ hjl hml (by omega) (by omega) k (by omega)
theorem wrong_l2 : ∀ (d k i : Nat) (xs : List S60), 12 - i = d → i ≤ 12 → okHeard L R xs = true → xs.length = hs.length → least ≤ leastOf T O L R xs + (i : Int) → (1 ≤ least → (i : Int) + 1 ≤ least) → 2 * d + 10 ≤ k →
  saronlaw06_KernelWrongly.l2 k hs bits least xs (i : Int) T O L R = some true
 | d, k, i, xs, hd, hi, hX, hxl, h1, h2, hk => by
  obtain ⟨t1, t2, t3, t4, t5, t6, t7, t8, t9, hok⟩ := okScale_regs hS
  obtain ⟨hh5, hh⟩ := okHeard_get hX
  have hh1 : 1 ≤ xs.length := by
   unfold okHeard at hX
   simp only [Bool.and_eq_true, decide_eq_true_eq] at hX
   exact hX.1.1
  have hpos := least_pos hS hs
  obtain ⟨k, rfl⟩ : ∃ z, k = z + 2 := ⟨k - 2, by omega⟩
  have fin : saronlaw06_KernelWrongly.j6 (k + 1) hs bits least xs (i : Int) false T O L R = some true := by
   simp only [saronlaw06_KernelWrongly.j6]
   have e : Many T O L R xs = (if canAll T O L R xs then manyOf T O L R xs else 0, 0) := by unfold Many; rw [hS, hX, if_pos rfl, if_pos rfl]
   unfold kernel_Many.f
   rw [if_neg (by simp), Option.bind_some, e, if_pos rfl]
   by_cases h0 : least > 0
   ·have hl := h2 (by omega)
    have hc : canAll T O L R xs = false := by
     cases hc : canAll T O L R xs
     ·rfl
     ·have := (least_zero hS xs).2 hc
      omega
    rw [if_pos h0, hc]
    exact wrong_j7 T O L R hs bits least hS hH hb hle k (by omega)
   ·rw [if_neg h0]
    exact wrong_j7 T O L R hs bits least hS hH hb hle k (by omega)
  rw [show k + 2 = (k + 1) + 1 from rfl]
  simp only [saronlaw06_KernelWrongly.l2]
  rw [up1 i (by omega)]
  by_cases hlt : ((i + 1 : Nat) : Int) < least
  ·rw [if_pos hlt]
   by_cases h12 : (i : Int) < 12
   ·rw [decide_eq_true h12]
    simp only [saronlaw06_KernelWrongly.j6]
    obtain ⟨v2, e2⟩ := nth_any bits hb (i : Int)
    obtain ⟨v3, e3⟩ := nth_any bits hb ((i + 1 : Nat) : Int)
    obtain ⟨j, hj⟩ : ∃ j : Nat, v2 % (xs.length : Int) = (j : Int) := ⟨(v2 % (xs.length : Int)).toNat, by have := Int.emod_nonneg v2 (show (xs.length : Int) ≠ 0 by omega); omega⟩
    have hjl : j < xs.length := by have := Int.emod_lt_of_pos v2 (show 0 < (xs.length : Int) by omega); omega
    obtain ⟨p1, p2⟩ := heard_pos hS hX j hjl
    obtain ⟨m, hm⟩ : ∃ m : Nat, v3 % (xs[j].f1.length : Int) = (m : Int) := ⟨(v3 % (xs[j].f1.length : Int)).toNat, by have := Int.emod_nonneg v3 (show (xs[j].f1.length : Int) ≠ 0 by omega); omega⟩
    have hml : m < xs[j].f1.length := by have := Int.emod_lt_of_pos v3 (show 0 < (xs[j].f1.length : Int) by omega); omega
    have e60 : rd_T60 xs (j : Int) = xs[j] := by
     unfold rd_T60
     simp [hjl]
    have hj' : xs[j]? = some xs[j] := List.getElem?_eq_getElem hjl
    obtain ⟨a, b⟩ := least_changed hS xs j m (-2) xs[j] hj' hml
    rw [if_pos trivial, e2, Option.bind_some, turn_f v2 _ (by omega) (by omega), Option.bind_some, Option.bind_some, hj, up1 i (by omega)]
    simp only [List.nil_append, List.length_nil, Nat.zero_add, Option.bind_some]
    unfold saronlaw06_of.f
    rw [if_pos (by omega), if_pos (by omega), e60, if_pos (by omega), if_pos (by omega), e3, Option.bind_some, turn_f v3 _ (by omega) (by omega), Option.bind_some, hm, if_pos (by omega), if_pos (by omega), Option.bind_some, Int.toNat_natCast, Int.toNat_natCast]
    exact wrong_l2 (d - 1) k (i + 1) (changed xs j m (-2) xs[j]) (by omega) (by omega) (ok_changed hX j m (-2) (by omega) (by omega) _ hj') (by unfold changed; rw [List.length_set]; exact hxl) (by omega) (by omega) (by omega)
   ·rw [decide_eq_false h12]
    exact fin
  ·rw [if_neg hlt]
   exact fin
 termination_by d => d
theorem wrong_j4 (k : Nat) (hk : 50 ≤ k) : saronlaw06_KernelWrongly.j4 k hs bits least false T O L R = some true := by
 obtain ⟨hh5, hh⟩ := okHeard_get hH
 obtain ⟨k, rfl⟩ : ∃ z, k = z + 1 := ⟨k - 1, by omega⟩
 simp only [saronlaw06_KernelWrongly.j4]
 rw [if_neg (by simp), Option.bind_some]
 simp only [List.nil_append, List.length_nil, Nat.zero_add]
 rw [if_pos (by omega)]
 exact wrong_l2 T O L R hs bits least hS hH hb hle 12 k 0 hs (by omega) (by omega) hH rfl (by omega) (by omega) (by omega)
end
end O
end Go.Proofs.YtagkfkdoibnhfaaDoor.K
end
section
namespace Go.Proofs.YtagkfkdoibnhfaaDoor.K
open Go.RowKit Go.Proofs.YtagkfkdoibnhfaaDoorW.PrintWords Go.Proofs.YtagkfkdoibnhfaaDoorW.PrintMore Go.Proofs.YtagkfkdoibnhfaaDoor.H
namespace O
theorem other_succ (T : Int) (R : List S66) (t : List Int) (hs : List S60) (i : Nat) (hi : i < hs.length) : otherOf T R t (hs.take (i + 1)) = otherOf T R t (hs.take i) + missOf hs[i].f1 (partOf T R hs[i].f0 t) := by
 unfold otherOf
 rw [List.take_succ, List.getElem?_eq_getElem hi, List.map_append, List.sum_append]
 rfl
section
variable (T O L : Int) (R : List S66) (hs : List S60) (bits : List Int) (least many : Int) (hS : okScale T O L R = true) (hH : okHeard L R hs = true) (hb : bits.length ≤ 9223372036854775807) (hle : least = leastOf T O L R hs) (hmany : many = if canAll T O L R hs then manyOf T O L R hs else 0)
 (t : List Int) (hL : (t.length : Int) = L) (ht : ∀ x ∈ t, 0 ≤ x ∧ x < T * O)
include hS hH hb hle hmany hL ht
theorem wrong_l1 (i : Nat) (hi : i < hs.length) (base : Nat) (hbase : base ≤ 1000) (part : List Int) (hp : part.length = hs[i].f1.length) (hp2 : part.length ≤ 100) : ∀ (d k c : Nat) (o : Nat), o = base + (List.range c).countP (fun k => decide (hs[i].f1.getD k 0 ≠ -2) && decide (hs[i].f1.getD k 0 ≠ part.getD k 0)) → part.length - c = d → c ≤ part.length → d + 1 ≤ k →
  ∃ k', k' + d + 1 = k ∧ saronlaw06_KernelWrongly.l1 k hs bits least many t (o : Int) (i : Int) part (c : Int) T O L R = saronlaw06_KernelWrongly.l0 k' hs bits least many t ((base + missOf hs[i].f1 part : Nat) : Int) ((i + 1 : Nat) : Int) T O L R
 | d, k, c, o, ho, hd, hc, hk => by
  obtain ⟨hh5, hh⟩ := okHeard_get hH
  obtain ⟨k, rfl⟩ : ∃ z, k = z + 1 := ⟨k - 1, by omega⟩
  have e60 : rd_T60 hs (i : Int) = hs[i] := by
   unfold rd_T60
   simp [hi]
  have hcl := List.countP_le_length (p := fun k => decide (hs[i].f1.getD k 0 ≠ -2) && decide (hs[i].f1.getD k 0 ≠ part.getD k 0)) (l := List.range c)
  rw [List.length_range] at hcl
  simp only [saronlaw06_KernelWrongly.l1]
  by_cases hlt : (c : Int) < (part.length : Int)
  ·have nextc : ∀ o' : Nat, o' = base + (List.range (c + 1)).countP (fun k => decide (hs[i].f1.getD k 0 ≠ -2) && decide (hs[i].f1.getD k 0 ≠ part.getD k 0)) → ∃ k', k' + d + 1 = k + 1 ∧ saronlaw06_KernelWrongly.l1 k hs bits least many t (o' : Int) (i : Int) part ((c + 1 : Nat) : Int) T O L R = saronlaw06_KernelWrongly.l0 k' hs bits least many t ((base + missOf hs[i].f1 part : Nat) : Int) ((i + 1 : Nat) : Int) T O L R := fun o' ho' => by
    obtain ⟨k', e1, e2⟩ := wrong_l1 i hi base hbase part hp hp2 (d - 1) k (c + 1) o' ho' (by omega) (by omega) (by omega)
    exact ⟨k', by omega, e2⟩
   rw [List.range_succ, List.countP_append, List.countP_singleton] at nextc
   rw [if_pos hlt, if_pos (by omega), if_pos (by omega), if_pos (by omega), e60, if_pos (by omega), up1 c (by omega)]
   have r1 : rd hs[i].f1 (c : Int) = hs[i].f1.getD c 0 := by unfold rd; rw [Int.toNat_natCast]
   have r2 : rd part (c : Int) = part.getD c 0 := by unfold rd; rw [Int.toNat_natCast]
   rw [r1, r2]
   by_cases h1 : hs[i].f1.getD c 0 = part.getD c 0
   ·rw [if_pos h1]
    refine nextc o ?_
    rw [ho, if_neg (by rw [decide_eq_false (not_not_intro h1), Bool.and_false]; simp)]
    omega
   ·rw [if_neg h1]
    by_cases h2 : hs[i].f1.getD c 0 = -2
    ·rw [if_pos h2]
     refine nextc o ?_
     rw [ho, if_neg (by rw [h2]; simp)]
     omega
    ·rw [if_neg h2, up1 o (by omega)]
     refine nextc (o + 1) ?_
     rw [ho, if_pos (by rw [decide_eq_true h2, decide_eq_true h1]; rfl)]
     omega
  ·rw [if_neg hlt, up1 i (by omega)]
   have hcc : c = part.length := by omega
   subst hcc
   refine ⟨k, by omega, ?_⟩
   rw [ho]
   rfl
 termination_by d => d
theorem wrong_l0 : ∀ (d k i : Nat), hs.length - i = d → i ≤ hs.length → 80 * d + 60 ≤ k →
  saronlaw06_KernelWrongly.l0 k hs bits least many t ((otherOf T R t (hs.take i) : Nat) : Int) (i : Int) T O L R = some true
 | d, k, i, hd, hi, hk => by
  obtain ⟨t1, t2, t3, t4, t5, t6, t7, t8, t9, hok⟩ := okScale_regs hS
  obtain ⟨hh5, hh⟩ := okHeard_get hH
  have hpos := least_pos hS hs
  obtain ⟨k, rfl⟩ : ∃ z, k = z + 2 := ⟨k - 2, by omega⟩
  by_cases hlt : (i : Int) < (hs.length : Int)
  ·have hi2 : i < hs.length := by omega
   obtain ⟨g1, g2, g3, g4⟩ := hh i hi2
   obtain ⟨p1, p2⟩ := heard_pos hS hH i hi2
   have hlen := true_len (t := t) hS hL hs[i].f0
   have hpl : (partOf T R hs[i].f0 t).length = hs[i].f1.length := by
    have : (hs[i].f1.length : Int) = (((L / 2).toNat * width (regAt R hs[i].f0) : Nat) : Int) := by
     rw [g3, Int.natCast_mul, Int.toNat_of_nonneg (by omega)]
    omega
   have e60 : rd_T60 hs (i : Int) = hs[i] := by
    unfold rd_T60
    simp [hi2]
   have hp : Part T O L R t hs[i].f0 = (partOf T R hs[i].f0 t, 0) := by
    unfold Part okPart
    rw [if_pos hS, if_pos (by
     simp only [Bool.and_eq_true, decide_eq_true_eq, List.all_eq_true]
     exact ⟨⟨⟨hL, g1⟩, g2⟩, ht⟩)]
   have hbase : ∀ l : List S60, (∀ x ∈ l, x ∈ hs) → otherOf T R t l ≤ 64 * l.length := by
    intro l
    induction l with
    | nil => intro _; simp [otherOf]
    | cons x l ih =>
     intro hl
     have := ih (fun y hy => hl y (by simp [hy]))
     have hm : missOf x.f1 (partOf T R x.f0 t) ≤ (partOf T R x.f0 t).length := by
      unfold missOf
      refine Nat.le_trans List.countP_le_length ?_
      rw [List.length_range]
      exact Nat.le_refl _
     have hpl := partOf_len T R x.f0 t
     unfold otherOf at this ⊢
     rw [List.map_cons, List.sum_cons, List.length_cons]
     omega
   have hb2 := hbase (hs.take i) (fun x hx => List.mem_of_mem_take hx)
   rw [List.length_take] at hb2
   obtain ⟨k', e1, e2⟩ := wrong_l1 T O L R hs bits least many hS hH hb hle hmany t hL ht i hi2 (otherOf T R t (hs.take i)) (by omega) (partOf T R hs[i].f0 t) hpl (by omega) (partOf T R hs[i].f0 t).length k 0 (otherOf T R t (hs.take i)) (by simp) (by omega) (by omega) (by omega)
   rw [Int.natCast_zero] at e2
   rw [show k + 2 = (k + 1) + 1 from rfl]
   simp only [saronlaw06_KernelWrongly.l0]
   unfold kernel_Part.f
   rw [if_pos hlt, if_pos (by omega), e60, Option.bind_some, hp, if_pos rfl]
   have hbne : (((partOf T R hs[i].f0 t).length : Int) != (hs[i].f1.length : Int)) = false := by rw [hpl]; simp
   show saronlaw06_KernelWrongly.j2 (k + 1) hs bits least many t _ _ (partOf T R hs[i].f0 t) (((partOf T R hs[i].f0 t).length : Int) != (hs[i].f1.length : Int)) T O L R = _
   rw [hbne]
   simp only [saronlaw06_KernelWrongly.j2]
   rw [if_neg (by simp), e2, ← other_succ T R t hs i hi2]
   exact wrong_l0 (d - 1) k' (i + 1) (by omega) (by omega) (by omega)
  ·have hie : i = hs.length := by omega
   subst hie
   have hlo := least_other hS t hL ht hs
   rw [show k + 2 = (k + 1) + 1 from rfl]
   simp only [saronlaw06_KernelWrongly.l0]
   rw [if_neg hlt, if_neg (by omega), List.take_length, if_neg (by omega)]
   have hfl : ((decide (many > 0)) != (least == 0)) = false := by
    have hz := least_zero hS hs
    cases hc : canAll T O L R hs
    ·have h0 : ¬ leastOf T O L R hs = 0 := fun h => by rw [hz.1 h] at hc; cases hc
     rw [hmany, hc, beq_eq_false_iff_ne.2 (show least ≠ 0 by omega)]
     rfl
    ·have h1 := (many_one hc).1
     have h0 := hz.2 hc
     rw [hmany, hc, beq_iff_eq.2 (show least = 0 by omega), if_pos rfl, decide_eq_true (show manyOf T O L R hs > 0 by omega)]
     rfl
   rw [hfl]
   exact wrong_j4 T O L R hs bits least hS hH hb hle (k + 1) (by omega)
 termination_by d => d
end
theorem wrong_bad (x : Int) (hx : x = 60 ∨ x = 61) (T O L : Int) (R : List S66) (hs : List S60) (bits : List Int) (k : Nat) (hk : 1 ≤ k) : saronlaw06_KernelWrongly.j0 k hs bits 0 x 0 x true T O L R = some true := by
 obtain ⟨k, rfl⟩ : ∃ z, k = z + 1 := ⟨k - 1, by omega⟩
 simp only [saronlaw06_KernelWrongly.j0, if_true]
 rcases hx with rfl | rfl
 ·rw [if_pos rfl]
  rfl
 ·rw [if_neg (by decide), if_pos rfl]
  rfl
theorem wrong_law (T O L : Int) (R : List S66) (hs : List S60) (bits : List Int) (hR : R.length ≤ 9223372036854775807) (hb : bits.length ≤ 9223372036854775807) (k : Nat) (hk : 2 * R.length + 1000 ≤ k) : saronlaw06_KernelWrongly.f k T O L R hs bits = some true := by
 unfold saronlaw06_KernelWrongly.f kernel_Least.f kernel_Many.f
 rw [Option.bind_some, Option.bind_some]
 cases hS : okScale T O L R
 ·have e1 : Least T O L R hs = (0, 60) := by unfold Least; rw [hS]; rfl
  have e2 : Many T O L R hs = (0, 60) := by unfold Many; rw [hS]; rfl
  rw [e1, e2, if_pos rfl, if_neg (by decide)]
  exact wrong_bad 60 (.inl rfl) T O L R hs bits k (by omega)
 cases hH : okHeard L R hs
 ·have e1 : Least T O L R hs = (0, 61) := by unfold Least; rw [hS, hH]; rfl
  have e2 : Many T O L R hs = (0, 61) := by unfold Many; rw [hS, hH]; rfl
  rw [e1, e2, if_pos rfl, if_neg (by decide)]
  exact wrong_bad 61 (.inr rfl) T O L R hs bits k (by omega)
 have e1 : Least T O L R hs = (leastOf T O L R hs, 0) := by unfold Least; rw [hS, hH]; rfl
 have e2 : Many T O L R hs = (if canAll T O L R hs then manyOf T O L R hs else 0, 0) := by unfold Many; rw [hS, hH]; rfl
 have hh1 : 1 ≤ hs.length ∧ hs.length ≤ 5 := by
  unfold okHeard at hH
  simp only [Bool.and_eq_true, decide_eq_true_eq] at hH
  exact hH.1
 have hz : ((hs.length : Int) == 0) = false := beq_eq_false_iff_ne.2 (by omega)
 rw [e1, e2, if_pos rfl, if_pos rfl, sound_f T O L R hR k (by omega), hS, Option.bind_some, if_pos rfl, hz]
 obtain ⟨t, et, hL, ht⟩ := truly_f hS bits hb (k - 1) (by omega)
 obtain ⟨k, rfl⟩ : ∃ z, k = z + 1 := ⟨k - 1, by omega⟩
 rw [Nat.add_sub_cancel] at et
 simp only [saronlaw06_KernelWrongly.j0]
 rw [if_neg (by simp), et, Option.bind_some]
 exact wrong_l0 T O L R hs bits _ _ hS hH hb rfl rfl t hL ht hs.length k 0 (by omega) (by omega) (by omega)
end O
end Go.Proofs.YtagkfkdoibnhfaaDoor.K
end
section
namespace Go.Proofs.YtagkfkdoibnhfaaDoor.K
open Go.RowKit Go.Proofs.YtagkfkdoibnhfaaDoorW.PrintWords Go.Proofs.YtagkfkdoibnhfaaDoor.H
theorem view60 {w : World} {A : Option Addr} {xs : List S60} {c e base : Nat} (hC : Kd.C k60 w A xs.length xs) (hc : xs.length ≤ c) : Kd.V k60 e w base (fun _ => True) (.slice A xs.length c) xs := by
 refine Kd.V_mk hc ?_
 intro W' hW
 have hle : w.heap.size ≤ W'.heap.size := by
  rcases Nat.lt_or_ge W'.heap.size w.heap.size with h | h
  ·exact absurd (heap_lt (hW W'.heap.size trivial h) h) (Nat.lt_irrefl _)
  ·exact h
 have h2 : Kd.C k60 { w with heap := W'.heap } A xs.length xs := Kd.C_below hC ⟨rfl, rfl, rfl, hle, fun k hk => hW k trivial hk⟩
 exact h2
end Go.Proofs.YtagkfkdoibnhfaaDoor.K
end
