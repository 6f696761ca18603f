/- TuneEnds, its second form: for every set, and any numbers that choose the keys, of bulk at most 1,048,576, the law returns true, and each argument reads afterwards as it read before. Condition: when the call begins the package's table of asks reads as the program's text lays it; the card ties that to the text. -/
import Derived.ArgAppend
import Derived.Below
import Derived.BigQuiet
import Derived.ChangeKeysEq
import Derived.Deep.AppendLies
import Derived.Deep.CutBlock
import Derived.Deep.DeepCutAuto
import Derived.Deep.DeepHandedRow
import Derived.Deep.Draws
import Derived.Deep.LoopGhost
import Derived.Deep.OwnRows
import Derived.Deep.QuietTactic
import Derived.Deep.RegionHeld3
import Derived.JoinedCond
import Derived.KernelRfl
import Derived.LaidMore
import Derived.Laws.BitsLemmas
import Derived.Laws.BytesArg
import Derived.Laws.IdiomCopy
import Derived.Laws.MakeOwn
import Derived.Laws.OwnMore
import Derived.Laws.Rows
import Derived.Laws.Slices
import Derived.Lib.AppendStr
import Derived.Lib.ConvBytes
import Derived.Lib.LaidTab
import Derived.Maps.AppendAt
import Derived.OpenShut
import Derived.OrdersHeld
import Derived.OwnWalk
import Derived.ProofKit
import Derived.RowKit
import Derived.RowKit3
import Derived.SevenTiedAt
import Derived.SizedLaws
import Derived.Stop.Joined
import Derived.Tactics
import Derived.WalkKit
import Derived.WideLaws
import Derived.Test.YtgehkojccmkggaaDoorCards
import Derived.Test.YtgehkojccmkggaaDoorProg
import Derived.Test.YtgehkojccmkggaaDoorTie
import Derived.Test.YtgehkojccmkggaaDoorZB1
import Derived.Test.YtgehkojccmkggaaDoorZB2
import Derived.Test.YtgehkojccmkggaaDoorZB3
import Derived.Test.YtgehkojccmkggaaDoorZB5
import Derived.Test.YtgehkojccmkggaaDoorZB6
set_option linter.all false
section
set_option linter.unusedVariables false
set_option linter.unusedSimpArgs false
namespace Go.Proofs.YtgehkojccmkggaaDoorW.PrintWords
open Go.RowKit
theorem ReadsRow.inner_ {α : Type} {R : α → List Value → Prop} {size : Nat} {w : World} {ad : Addr} {n : Nat} {ps : List α} (h : ReadsRow R size w (some ad) n ps) :
  ∃ inner, Reps R size ps inner ∧ ∀ j u, inner[j]? = some u → w.cell? (ad.add j) = some u := by
 have key : ∀ m, m ≤ ps.length → ∃ inner, Reps R size (ps.take m) inner ∧ ∀ j u, inner[j]? = some u → w.cell? (ad.add j) = some u := by
  intro m
  induction m with
  | zero => exact fun _ => ⟨[], Reps.none _ _, fun j u hu => by simp at hu⟩
  | succ m ih =>
   intro hm
   obtain ⟨inner, hr, hc⟩ := ih (by omega)
   obtain ⟨ad', he, hcell⟩ := h.2.2 (by have := h.1; omega)
   injection he with he
   subst he
   obtain ⟨c, hcl, hp, hcc⟩ := hcell m _ (List.getElem?_eq_getElem (show m < ps.length by omega))
   refine ⟨inner ++ c, ?_, fun j u hu => ?_⟩
   ·rw [List.take_succ_eq_append_getElem (show m < ps.length by omega)]
    exact hr.snoc hp hcl
   ·have hil : inner.length = m * size := by rw [hr.1, List.length_take, Nat.min_eq_left (by omega)]
    rcases Nat.lt_or_ge j inner.length with hj | hj
    ·rw [List.getElem?_append_left hj] at hu
     exact hc j u hu
    ·rw [List.getElem?_append_right hj] at hu
     have := hcc (j - inner.length) u hu
     rwa [hil, Nat.add_sub_cancel' (by omega)] at this
 obtain ⟨inner, hr, hc⟩ := key ps.length (Nat.le_refl _)
 rw [List.take_length] at hr
 exact ⟨inner, hr, hc⟩
namespace Kd
theorem reps_append {α : Type} {R : α → List Value → Prop} {size : Nat} {ps qs : List α} {cs ds : List Value} (h : Reps R size ps cs) (h' : Reps R size qs ds) : Reps R size (ps ++ qs) (cs ++ ds) := by
 refine ⟨by rw [List.length_append, List.length_append, h.1, h'.1, Nat.add_mul], fun j p hj => ?_⟩
 rcases Nat.lt_or_ge j ps.length with hlt | hge
 ·rw [List.getElem?_append_left hlt] at hj
  have hle : j * size + size ≤ cs.length := by rw [h.1, ← Nat.succ_mul]; exact Nat.mul_le_mul_right _ hlt
  rw [List.drop_append_of_le_length (by omega), List.take_append_of_le_length (by rw [List.length_drop]; omega)]
  exact h.2 j p hj
 ·rw [List.getElem?_append_right hge] at hj
  have h2 := h'.2 (j - ps.length) p hj
  have hle : ps.length * size ≤ j * size := Nat.mul_le_mul_right _ hge
  rw [List.drop_append, List.drop_eq_nil_of_le (by rw [h.1]; exact hle), List.nil_append, h.1, ← Nat.sub_mul]
  exact h2
section
variable {P : Program} {ops : Array Oper} {rest : List Oper} {o : Oper} {a : Act} {Q : Exit → Act → World → Prop} {α : Type}
theorem R_append_rows (d : Kd α) {Rr : α → List Value → Prop} {w0 W : World} (base : Nat) (hgd : o.guard = none) (s x : Operand) (t e : TypeId) (z : Value) (bytes : Nat)
  (ho : o.op = .call { callee := .builtin .append, args := #[s, x], argTypes := #[t, t] })
  (ht : P.underlying t = some (.slice e)) (hinfo : (P.info? e).map (fun i => (i.zero, i.size, i.bytes)) = some (some z, d.sz, bytes)) (hz : z.cells.size = d.sz) (hs0 : 0 < d.sz) (hb0 : 0 < bytes)
  (v : Value) (xs ys : List α) (A : Option Addr) (m c : Nat) (ok okp : Nat → Prop) (hs : a.eval s = v) (hx : a.eval x = .slice A m c)
  (HO : d.R e W base ok v xs) (HR : ReadsRow Rr d.sz W A m ys) (hKM : ∀ x cs, Rr x cs → d.M W base okp x cs) (hokp : ∀ k, okp k → ok k ∧ some k ≠ v.ownBlock) (hfresh : ∀ k, W.heap.size ≤ k → ok k)
  (HB : Below base w0 W) (hbase : base ≤ W.heap.size) (hl : (xs.length + m) * bytes ≤ 140737488355328)
  (h : ∀ v1 w1, d.R e w1 base ok v1 (xs ++ ys) → Below base w0 w1 → W.grownBy w1 v.ownBlock → (v1.ownBlock = v.ownBlock ∨ ∃ b, v1.ownBlock = some b ∧ W.heap.size ≤ b) → wpList P ops Q rest (a.put o.dst v1) w1) :
  wpList P ops Q (o :: rest) a W := by
 obtain ⟨i0, hi, hzz⟩ := Option.map_eq_some_iff.1 hinfo
 simp only [Prod.mk.injEq] at hzz
 obtain ⟨hz0, hz1, hz2⟩ := hzz
 have hm : ys.length = m := HR.1
 have hlen : xs.length + m ≤ 140737488355328 := Nat.le_trans (Nat.le_mul_of_pos_right _ hb0) hl
 obtain ⟨hok, inner, hown, hr⟩ := HO
 have hrun : ∃ v1 w1, (Builtin.append_ #[t, t] o.type #[v, .slice A m c]).run P W = .ok v1 w1 ∧ d.R e w1 base ok v1 (xs ++ ys) ∧ W.grownBy w1 v.ownBlock ∧ (v1.ownBlock = v.ownBlock ∨ ∃ b, v1.ownBlock = some b ∧ W.heap.size ≤ b) := by
  rcases A with _ | ad
  ·have h0 : m = 0 := by
    rcases Nat.eq_zero_or_pos m with h0 | h0
    ·exact h0
    ·obtain ⟨ad, h, _⟩ := HR.2.2 h0
     cases h
   subst h0
   obtain rfl : ys = [] := List.eq_nil_of_length_eq_zero hm
   refine ⟨v, W, ?_, by rw [List.append_nil]; exact ⟨hok, inner, hown, hr⟩, World.grownBy.refl W _, .inl rfl⟩
   rcases hown.2 with ⟨rfl, hn⟩ | ⟨g, cap, cur, rfl, _, _, hnc, _⟩
   ·simp [Builtin.append_, run_underlying ht, sizeOf, typeInfo, hi, Builtin.lenOf, Builtin.firstCells]
   ·simp [Builtin.append_, run_underlying ht, sizeOf, typeInfo, hi, Builtin.lenOf, Builtin.firstCells, hnc, storeCells]
  ·obtain ⟨news, hnr, hnc⟩ := ReadsRow.inner_ HR
   have hnM : Reps (d.M W base okp) d.sz ys news := hnr.imp_ (fun p c hp => hKM p c hp)
   have hone : ∀ u ∈ news, u.oneCell' = true := by
    intro u hu
    obtain ⟨q, hq, rfl⟩ := List.mem_iff_getElem.1 hu
    have hql : q / d.sz < ys.length := by
     rw [Nat.div_lt_iff_lt_mul hs0]
     rw [← hnM.1]
     exact hq
    have hc := hnM.2 (q / d.sz) _ (List.getElem?_eq_getElem hql)
    refine d.K_one (d.K_of_M hc) _ ?_
    rw [List.mem_iff_getElem?]
    refine ⟨q % d.sz, ?_⟩
    rw [List.getElem?_take, if_pos (Nat.mod_lt _ hs0), List.getElem?_drop, Nat.mul_comm, Nat.div_add_mod, List.getElem?_eq_getElem hq]
   obtain ⟨v1, w1, hrun, h2, hg, _, hat⟩ := run_append_own_at (P := P) W base t o.type e i0 z d.sz bytes ht hi hz0 hz1 hz2 hz hs0 v xs.length inner hown ad m c news (by rw [hnM.1, hm]) hnc hone (by simp only [maxLen]; omega) hl hbase
   have hat' : v1.ownBlock = v.ownBlock ∨ ∃ b, v1.ownBlock = some b ∧ W.heap.size ≤ b := by
    rcases hat with hat | hat
    ·exact .inl hat
    ·exact .inr ⟨_, hat, Nat.le_refl _⟩
   have hne : ∀ k, some k ≠ v.ownBlock → k < W.heap.size → some k ≠ v1.ownBlock := by
    intro k hk hlt
    rcases hat' with hat | ⟨b, hb, hle⟩
    ·rw [hat]; exact hk
    ·rw [hb]
     intro he
     injection he with he
     omega
   have step : ∀ {q : α} {c : List Value} {o : Nat → Prop}, d.M W base o q c → (∀ k, o k → ok k ∧ some k ≠ v.ownBlock) → d.M w1 base (fun k => ok k ∧ some k ≠ v1.ownBlock) q c := by
    intro q c o hq ho
    have h1 := d.M_move (w1 := w1) (fun k hk => hg.block k hk.2.2.1 (ho k hk.1).2) (d.M_bound hq)
    exact d.M_mono (fun k hk => ⟨(ho k hk.1).1, hne k (ho k hk.1).2 hk.2.2.1⟩) h1
   refine ⟨v1, w1, hrun, ⟨fun k hk => ?_, inner ++ news, by rw [List.length_append, hm]; exact h2, reps_append (hr.imp_ (fun _ _ hq => step hq (fun _ hk => hk))) (hnM.imp_ (fun _ _ hq => step hq hokp))⟩, hg, hat'⟩
   rcases hat' with hat | ⟨b, hb, hle⟩
   ·exact hok k (hat ▸ hk)
   ·rw [hb] at hk
    injection hk with hk
    exact hfresh k (by omega)
 obtain ⟨v1, w1, hr1, h1, hg, hat⟩ := hrun
 refine wpList_plain hgd fun K hK => ?_
 unfold Oper.wp execOp
 simp only [ho, resolve, invoke, builtin, Sem.run_bind, Sem.run_pure, Result.andThen_ok, List.map_toArray, List.map_cons, List.map_nil, hs, hx, hr1]
 exact hK _ _ (h v1 w1 h1 (HB.grown hg hbase (own_base hown)) hg hat)
end
end Kd
end Go.Proofs.YtgehkojccmkggaaDoorW.PrintWords
end
section
namespace Go.Proofs.YtgehkojccmkggaaDoor.H
open Go.RowKit Go.Proofs.YtgehkojccmkggaaDoorW.PrintWords Go.Proofs.YtgehkojccmkggaaDoorW.PrintLast Go.Proofs.YtgehkojccmkggaaDoorW.PrintMore
set_option linter.unusedVariables false
set_option linter.unusedSimpArgs false
theorem info26 : (Tryd.prog.info? 26).map (fun i => (i.zero, i.size, i.bytes)) = some (some (.agg #[(.int .i64 0), (.int .i64 0)]), 2, 16) := by kernel_rfl
theorem k26_openM {w : World} {base : Nat} {ok : Nat → Prop} {x : S26} {cs : List Value} (h : k26.M w base ok x cs) : cs = [.int .i64 x.f0, .int .i64 x.f1] := by
 obtain ⟨_, _, rfl, rfl, rfl⟩ := h
 exact rfl
end Go.Proofs.YtgehkojccmkggaaDoor.H
end
section
namespace Go.Proofs.YtgehkojccmkggaaDoor.K
open Go.RowKit Go.Proofs.YtgehkojccmkggaaDoorW.PrintWords Go.Proofs.YtgehkojccmkggaaDoorW.PrintLast Go.Proofs.YtgehkojccmkggaaDoorW.PrintMore
section
variable {P : Program} {md : Region.Mode} {ops : Array Oper} {Q : Exit → Act → World → Prop} {ds : List Nat} {w0 w : World} {L : List Bk} {n_ : Tmp} {oi : Oper} {fuel : Nat} {l : Array Bool} {a a' : Act}
theorem zS (i : Nat) {S : World → Prop} (ST : Aside0 (St w0 w L)) {w2 : World} {L' : List Bk} (hst : Aside0 (St w0 w L) → Aside0 (St w0 w2 L')) (h : ∀ w1, Aside0 (St w0 w1 L') → Rd w1 L' → wpAnyLast P md ops Q S ds fuel (l.setIfInBounds i true) a w1)
  {rest : List Oper} (hi : ops.toList.drop i = oi :: rest := by exact rfl) (hN : oi.dst = none := by exact rfl) (hc : readyB md ops l (l.setIfInBounds i true) i = true := by exact one_of HT_.out zk) (hd : i ∈ ds := by decide) (hw : Region.wanted oi (yielded ops a.tmps) = true := by rfl)
  (hrun : (execOp a.eval oi).run P w = .ok .skip w2 := by first | (go_simp; done) | (go_simp; rfl)) : wpAnyLast P md ops Q S ds (fuel + 1) l a w := by
 refine last_ _ (drop_at hi) hN hc hd (fun K hK => ?_)
 exact skip_ hw hN hrun (hK.out _ _ (h w2 (hst ST) (St.rd (hst ST))))
end
end Go.Proofs.YtgehkojccmkggaaDoor.K
end
section
namespace Go.Proofs.YtgehkojccmkggaaDoor.K
open Go.RowKit Go.Proofs.YtgehkojccmkggaaDoorW.PrintWords Go.Proofs.YtgehkojccmkggaaDoorW.PrintLast Go.Proofs.YtgehkojccmkggaaDoorW.PrintMore
structure Rw where
 e : TypeId
 sz : Nat
 v : Value
 n : Nat
 inner : List Value
structure Sx (w0 w : World) (L : List Bk) (R : List Rw) (I : World → Prop) : Prop where
 below : Below w0.heap.size w0 w
 blks : Blks w L
 own : ∀ x ∈ L, x.own = true → w0.heap.size ≤ x.g
 apart : L.Pairwise fun x y => x.g ≠ y.g
 rows : ∀ r ∈ R, w.ownsRow w0.heap.size r.e r.sz r.v r.n r.inner
 far : ∀ r ∈ R, ∀ k, r.v.ownBlock = some k → ∀ x ∈ L, x.g ≠ k
 alone : R.Pairwise fun r q => ∀ k, r.v.ownBlock = some k → q.v.ownBlock ≠ some k
 ex : ∃ ok : Nat → Prop, Foot I w ok ∧ (∀ k, ok k → k < w.heap.size) ∧ (∀ k, ok k → ∀ x ∈ L, x.own = true → x.g ≠ k) ∧ ∀ k, ok k → ∀ r ∈ R, r.v.ownBlock ≠ some k
section
variable {w0 w w1 : World} {L : List Bk} {R : List Rw} {I J : World → Prop}
theorem Sx.rd (h : Aside0 (Sx w0 w L R I)) : Rd w L := h.out.blks.rd
theorem Sx.start (w0 : World) : Aside0 (Sx w0 w0 [] [] (fun _ => True)) := ⟨⟨Below.refl _ _, trivial, (fun x hx => by cases hx), List.Pairwise.nil, (fun x hx => by cases hx), (fun x hx => by cases hx), List.Pairwise.nil, fun _ => False, fun _ _ => trivial, (fun _ h => h.elim), (fun _ h => h.elim), (fun _ h => h.elim)⟩⟩
theorem Sx.call (h : Aside0 (Sx w0 w L R I)) (hb : Below w.heap.size w w1) : Aside0 (Sx w0 w1 L R I) := by
 obtain ⟨⟨a1, a2, a3, a4, a5, a6, a7, ok, b1, b2, b3, b4⟩⟩ := h
 refine ⟨⟨below_step a1 hb, a2.map fun _ _ hx => blk_below hx hb, a3, a4, fun r hr => own_move (a5 r hr) (fun k hk => hb.block k ((a5 r hr).lt k hk).2), a6, a7, ok, b1.step (fun k _ hlt => hb.block k hlt), fun k hk => ?_, b3, b4⟩⟩
 have := b2 k hk
 have := hb.size
 omega
theorem Sx.drew (h : Aside0 (Sx w0 w L R I)) : Aside0 (Sx w0 w.drew L R I) := Sx.call h (below_drew1 (Below.refl _ _))
theorem Sx.alloc (h : Aside0 (Sx w0 w L R I)) (cs : Array Value) (t : TypeId) : Aside0 (Sx w0 (w.alloc (.cells cs t (0, 0))) (⟨w.heap.size, cs, t, true⟩ :: L) R I) := by
 have h2 := Sx.call h (below_alloc (Below.refl w.heap.size w) (.cells cs t (0, 0)))
 obtain ⟨⟨a1, a2, a3, a4, a5, a6, a7, ok, b1, b2, b3, b4⟩⟩ := h
 obtain ⟨⟨c1, c2, _, _, c5, _, _, _⟩⟩ := h2
 have hs : w.heap.size < (w.alloc (.cells cs t (0, 0))).heap.size := blk_lt (blk_new w _)
 refine ⟨⟨c1, ⟨blk_new w _, c2⟩, ?_, List.Pairwise.cons (fun x hx => ?_) a4, c5, ?_, a7, ok, b1.step (fun k _ hlt => Below.heap_alloc w _ k hlt), (fun k hk => by have := b2 k hk; omega), ?_, b4⟩⟩
 ·intro x hx e
  rcases List.mem_cons.1 hx with rfl | hx
  ·exact a1.size
  ·exact a3 x hx e
 ·have := blk_lt (a2.of_mem hx)
  show w.heap.size ≠ x.g
  omega
 ·intro r hr k hk x hx
  rcases List.mem_cons.1 hx with rfl | hx
  ·have := ((a5 r hr).lt k hk).2
   show w.heap.size ≠ k
   omega
  ·exact a6 r hr k hk x hx
 ·intro k hk x hx e
  rcases List.mem_cons.1 hx with rfl | hx
  ·have := b2 k hk
   show w.heap.size ≠ k
   omega
  ·exact b3 k hk x hx e
theorem Sx.put (h : Aside0 (Sx w0 w L R I)) (k i : Nat) (u : Value) {g : Nat} {cs : Array Value} {t : TypeId} (hk : L[k]? = some ⟨g, cs, t, true⟩) : Aside0 (Sx w0 (w.setCell ⟨g, i, none⟩ u) (L.set k ⟨g, cs.setIfInBounds i u, t, true⟩) R I) := by
 obtain ⟨⟨a1, a2, a3, a4, a5, a6, a7, ok, b1, b2, b3, b4⟩⟩ := h
 obtain ⟨hlt, hk'⟩ := List.getElem?_eq_some_iff.1 hk
 have hmem : (⟨g, cs, t, true⟩ : Bk) ∈ L := by rw [← hk']; exact List.getElem_mem hlt
 have hg : w0.heap.size ≤ g := a3 _ hmem rfl
 have hsz : (w.setCell ⟨g, i, none⟩ u).heap.size = w.heap.size := by simp [World.setCell]
 have hin : ∀ x, x ∈ L.set k ⟨g, cs.setIfInBounds i u, t, true⟩ → ∃ y ∈ L, y.g = x.g ∧ y.own = x.own := fun x hx => by
  rcases List.mem_or_eq_of_mem_set hx with hx | rfl
  ·exact ⟨x, hx, rfl, rfl⟩
  ·exact ⟨_, hmem, rfl, rfl⟩
 refine ⟨⟨a1.setCell (p := ⟨g, i, none⟩) hg u, ?_, ?_, ?_, ?_, ?_, a7, ok, ?_, ?_, ?_, b4⟩⟩
 ·clear a1 a3 a5 a6 a7 b1 b2 b3 b4 hg hlt hk' hmem hin hsz
  induction L generalizing k with
  | nil => cases hk
  | cons x L ih =>
   rw [List.pairwise_cons] at a4
   cases k with
   | zero =>
    obtain rfl : x = ⟨g, cs, t, true⟩ := by simpa using hk
    refine ⟨blk_set a2.1 i u, a2.2.map fun y hy hx => blk_far hx (p := ⟨g, i, none⟩) ?_ u⟩
    exact Ne.symm (a4.1 y hy)
   | succ k =>
    have hk2 : L[k]? = some ⟨g, cs, t, true⟩ := by simpa using hk
    have hm : (⟨g, cs, t, true⟩ : Bk) ∈ L := List.mem_of_getElem? hk2
    exact ⟨blk_far a2.1 (p := ⟨g, i, none⟩) (a4.1 _ hm) u, ih (k := k) hk2 a2.2 a4.2⟩
 ·intro x hx e
  obtain ⟨y, hy, e1, e2⟩ := hin x hx
  rw [← e1]
  exact a3 y hy (by rw [e2]; exact e)
 ·rw [List.pairwise_iff_getElem] at a4 ⊢
  intro a b ha hb hab
  rw [List.length_set] at ha hb
  have h5 := a4 a b ha hb hab
  have key : ∀ m (hm : m < L.length), ((L.set k ⟨g, cs.setIfInBounds i u, t, true⟩)[m]'(by rw [List.length_set]; exact hm)).g = (L[m]).g := fun m hm => by
   rw [List.getElem_set]
   split
   ·rename_i e; subst e; rw [hk']
   ·rfl
  rw [key a ha, key b hb]
  exact h5
 ·intro r hr
  refine own_move (a5 r hr) (fun m hm => Below.heap_setCell w _ u m ?_)
  exact Ne.symm (a6 r hr m hm _ hmem)
 ·intro r hr m hm x hx
  obtain ⟨y, hy, e1, _⟩ := hin x hx
  rw [← e1]
  exact a6 r hr m hm y hy
 ·exact b1.step (fun m hm _ => Below.heap_setCell w _ u m (Ne.symm (b3 m hm _ hmem rfl)))
 ·intro m hm
  rw [hsz]
  exact b2 m hm
 ·intro m hm x hx e
  obtain ⟨y, hy, e1, e2⟩ := hin x hx
  rw [← e1]
  exact b3 m hm y hy (by rw [e2]; exact e)
theorem Sx.less (h : Aside0 (Sx w0 w L R I)) {L' : List Bk} (hs : L'.Sublist L) : Aside0 (Sx w0 w L' R I) := by
 obtain ⟨⟨a1, a2, a3, a4, a5, a6, a7, ok, b1, b2, b3, b4⟩⟩ := h
 refine ⟨⟨a1, ?_, fun x hx => a3 x (hs.subset hx), a4.sublist hs, a5, fun r hr k hk x hx => a6 r hr k hk x (hs.subset hx), a7, ok, b1, b2, fun k hk x hx => b3 k hk x (hs.subset hx), b4⟩⟩
 clear a1 a3 a4 a5 a6 a7 b1 b2 b3 b4
 induction hs with
 | slnil => trivial
 | cons _ _ ih => exact ih a2.2
 | cons_cons _ _ ih => exact ⟨a2.1, ih a2.2⟩
theorem Sx.tail (h : Aside0 (Sx w0 w L R I)) {x : Bk} {L' : List Bk} (e : L = x :: L' := by rfl) : Aside0 (Sx w0 w L' R I) := Sx.less h (by rw [e]; exact List.sublist_cons_self _ _)
end
section
variable {P : Program} {ops : Array Oper} {rest : List Oper} {o : Oper} {a : Act} {Q : Exit → Act → World → Prop} {w0 w : World} {L : List Bk} {R : List Rw} {I : World → Prop}
theorem yA (S : Aside0 (Sx w0 w L R I)) {N : Tmp} {cs : Array Value} {t : TypeId} (h : ∀ g w1, Aside0 (Sx w0 w1 (⟨g, cs, t, true⟩ :: L) R I) → Rd w1 (⟨g, cs, t, true⟩ :: L) → wpList P ops Q rest (a.put o.dst (.pointer (some ⟨g, 0, none⟩))) w1)
  (hgd : o.guard = none := by rfl) (_hd : o.dst = some N := by rfl) (hrun : (execOp a.eval o).run P w = .ok (.value (.pointer (some ⟨w.heap.size, 0, none⟩))) (w.alloc (.cells cs t (0, 0))) := by first | (go_simp; done) | (go_simp; rfl)) : wpList P ops Q (o :: rest) a w :=
 Kd.event_run hgd hrun (h _ _ (Sx.alloc S cs t) (Sx.rd (Sx.alloc S cs t)))
theorem yS {w2 : World} {L' : List Bk} (S : Aside0 (Sx w0 w L R I)) (hst : Aside0 (Sx w0 w L R I) → Aside0 (Sx w0 w2 L' R I)) (h : ∀ w1, Aside0 (Sx w0 w1 L' R I) → Rd w1 L' → wpList P ops Q rest a w1)
  (hgd : o.guard = none := by rfl) (hN : o.dst = none := by rfl) (hrun : (execOp a.eval o).run P w = .ok .skip w2 := by first | (go_simp; done) | (go_simp; rfl)) : wpList P ops Q (o :: rest) a w := by
 refine wpList_plain hgd fun K hK => ?_
 unfold Oper.wp
 rw [hrun]
 show K (a.put o.dst undef) w2
 rw [hN]
 exact hK _ _ (h _ (hst S) (Sx.rd (hst S)))
theorem yC (S : Aside0 (Sx w0 w L R I)) {N : Option Tmp} {f : FuncId} {args : Array Value} {v : Value} (hC : Calls P f args w fun e w' => e = .returned v ∧ Below w.heap.size w w') (h : ∀ w1, Aside0 (Sx w0 w1 L R I) → Rd w1 L → wpList P ops Q rest (a.put N v) w1)
  {fn : Func} {ao : Array Operand} {ts : Array TypeId} (hf : P.funcs[f]? = some fn) (hd : o.dst = N := by rfl) (hg : o.guard = none := by rfl) (hname : (fn.name == "runtime.NumGoroutine") = false := by exact zk) (hb : fn.body.isSome = true := by rfl)
  (hop : o.op = .call { callee := .value (.func f), args := ao, argTypes := ts } := by rfl) (hargs : ao.map a.eval = args := by exact zm) : wpList P ops Q (o :: rest) a w := by
 refine goesL_ N hd hg hf hname hb args hop hargs (hC.mono ?_)
 rintro e w1 ⟨rfl, hb⟩
 exact ⟨_, rfl, h w1 (Sx.call S hb) (Sx.rd (Sx.call S hb))⟩
theorem yX (S : Aside0 (Sx w0 w L R I)) {N : Option Tmp} {f : FuncId} {args : Array Value} {β : Type} {F : β → Value} {R' : β → World → Prop} (hC : Calls P f args w fun e w' => ∃ v, e = .returned (F v) ∧ R' v w' ∧ Below w.heap.size w w') (h : ∀ v w1, R' v w1 → Aside0 (Sx w0 w1 L R I) → Rd w1 L → wpList P ops Q rest (a.put N (F v)) w1)
  {fn : Func} {ao : Array Operand} {ts : Array TypeId} (hf : P.funcs[f]? = some fn) (hd : o.dst = N := by rfl) (hg : o.guard = none := by rfl) (hname : (fn.name == "runtime.NumGoroutine") = false := by exact zk) (hb : fn.body.isSome = true := by rfl)
  (hop : o.op = .call { callee := .value (.func f), args := ao, argTypes := ts } := by rfl) (hargs : ao.map a.eval = args := by exact zm) : wpList P ops Q (o :: rest) a w := by
 refine goesL_ N hd hg hf hname hb args hop hargs (hC.mono ?_)
 rintro e w1 ⟨v, rfl, hr, hb⟩
 exact ⟨_, rfl, h v w1 hr (Sx.call S hb) (Sx.rd (Sx.call S hb))⟩
end
section
variable {P : Program} {md : Region.Mode} {ops : Array Oper} {Q : Exit → Act → World → Prop} {ds : List Nat} {w0 w : World} {L : List Bk} {R : List Rw} {I : World → Prop} {n_ : Tmp} {oi : Oper} {fuel : Nat} {l : Array Bool} {a a' : Act}
theorem yI {E : World → Prop} {id n : Nat} {T : Bool × List (List Nat × List Nat)} {B : List Nat} (S : Aside0 (Sx w0 w L R I)) (hE : ∀ W, Below w0.heap.size w0 W → E W) (hT : rtab .any ops = T) (hB : waitsOk T.2 B = true) (h : ∀ w1, Aside0 (Sx w0 w1 L R I) → Rd w1 L → Aside0 (rtab .any ops = T) → Aside0 (waitsOk T.2 B = true) → Aside0 (∀ W, Below w0.heap.size w0 W → E W) → wpAnyLast P .any ops Q (fun w' => Rd w' L ∧ E w') ds n (Array.replicate n false) a w1)
  (hm : P.follows .mixedOrders = true := by exact zk) (hn : ops.size = n := by rfl) : (Code.region id ops true).wp P Q a w :=
 start_ _ hm hn rfl ⟨Sx.rd (Sx.drew S), hE _ (Sx.drew S).out.below⟩ fun _ => h _ (Sx.drew S) (Sx.rd (Sx.drew S)) ⟨hT⟩ ⟨hB⟩ ⟨hE⟩
section
variable {E : World → Prop}
theorem yL {v : Value} (i : Nat) (ST : Aside0 (Sx w0 w L R I)) (h : wpAnyLast P md ops Q (fun w' => Rd w' L ∧ E w') ds fuel (l.setIfInBounds i true) a' w) {rest : List Oper} (hi : ops.toList.drop i = oi :: rest := by exact rfl) (hN : oi.dst = some n_ := by exact rfl) (hc : takeB md ops ds l (l.setIfInBounds i true) i = true := by exact take_ofW HT_.out HW_.out zk)
  (hQ : ∀ c a w, Q (.panic c) (a.put oi.dst v) w → Q (.panic c) a w := by exact fun _ _ _ h => h) (hy : YieldsIf P ops (fun w' => Rd w' L ∧ E w') oi v a := by exact Or.inl ⟨by rfl, by intro w' h_; obtain ⟨h_, e_⟩ := h_; simp only [Rd] at h_; go_simp; with_reducible rfl⟩) (ha : a.put (some n_) v = a' := by exact zy) (hE : Aside0 (∀ W, Below w0.heap.size w0 W → E W) := by exact HE_) : wpAnyLast P md ops Q (fun w' => Rd w' L ∧ E w') ds (fuel + 1) l a w :=
 take_ _ (drop_at hi) hN hc hQ hy ⟨Sx.rd ST, hE.out _ ST.out.below⟩ ha h
theorem yM (i : Nat) (ST : Aside0 (Sx w0 w L R I)) (h : wpAnyLast P md ops Q (fun w' => Rd w' L ∧ E w') ds fuel (l.setIfInBounds i true) a' w) {rest : List Oper} (hi : ops.toList.drop i = oi :: rest := by exact rfl) (hN : oi.dst = some n_ := by exact rfl) (hc : anyB md ops l (l.setIfInBounds i true) i = true := by exact any_of HT_.out zk)
  (hQ : ∀ c a w, Q (.panic c) (a.put oi.dst undef) w → Q (.panic c) a w := by exact fun _ _ _ h => h) (hy : Yields P ops oi undef a := by exact Or.inr ⟨by rfl, by rfl⟩) (ha : a.put (some n_) undef = a' := by exact zy) : wpAnyLast P md ops Q (fun w' => Rd w' L ∧ E w') ds (fuel + 1) l a w :=
 pure_ _ (drop_at hi) hN hc hQ hy ha h
theorem yG (i : Nat) (ST : Aside0 (Sx w0 w L R I)) {f : FuncId} {args : Array Value} {v : Value} (hC : Calls P f args w fun e w' => e = .returned v ∧ Below w.heap.size w w') (h : ∀ w1, Aside0 (Sx w0 w1 L R I) → Rd w1 L → wpAnyLast P md ops Q (fun w' => Rd w' L ∧ E w') ds fuel (l.setIfInBounds i true) a' w1)
  {fn : Func} (hf : P.funcs[f]? = some fn) {rest : List Oper} (hi : ops.toList.drop i = oi :: rest := by exact rfl) (hN : oi.dst = some n_ := by exact rfl) (hc : readyB md ops l (l.setIfInBounds i true) i = true := by exact one_of HT_.out zk) (hd : i ∉ ds := by decide)
  (hname : (fn.name == "runtime.NumGoroutine") = false := by exact zk) (hb : fn.body.isSome = true := by rfl) (hw : Region.wanted oi (yielded ops a.tmps) = true := by rfl) {ao : Array Operand} {ts : Array TypeId}
  (hop : oi.op = .call { callee := .value (.func f), args := ao, argTypes := ts } := by rfl) (hargs : ao.map a.eval = args := by exact zm) (ha : a.put (some n_) v = a' := by exact zy) (hE : Aside0 (∀ W, Below w0.heap.size w0 W → E W) := by exact HE_) : wpAnyLast P md ops Q (fun w' => Rd w' L ∧ E w') ds (fuel + 1) l a w := by
 refine one_ _ (drop_at hi) hN hc hd (fun K hK => ?_)
 refine goes_ hf hname hb args hw hN hop hargs (hC.mono ?_)
 rintro e w1 ⟨rfl, hb⟩
 refine ⟨_, rfl, hK.out _ _ ⟨Sx.rd (Sx.call ST hb), hE.out _ (Sx.call ST hb).out.below⟩ (fun _ => ?_)⟩
 rw [ha]
 exact h w1 (Sx.call ST hb) (Sx.rd (Sx.call ST hb))
end
end
end Go.Proofs.YtgehkojccmkggaaDoor.K
end
section
namespace Go.Proofs.YtgehkojccmkggaaDoor.K
open Go.RowKit Go.Shelf Go.Proofs.YtgehkojccmkggaaDoorW.PrintWords Go.Proofs.YtgehkojccmkggaaDoorW.PrintLast Go.Proofs.YtgehkojccmkggaaDoorW.PrintMore Go.Proofs.YtgehkojccmkggaaDoor.H Tune
set_option linter.unusedVariables false
set_option linter.unusedSimpArgs false
theorem isT_iff {h : List S26} {js : List J} {b : Int × Int} {l : List Int} : isT h js b l = true ↔ l.length = h.length ∧ Tun h.length js noLeft b (loH h) (hiH h) (okG []) (fun x => l.getD x 0) := by
 unfold isT Tun
 rw [Bool.and_eq_true, Bool.and_eq_true, decide_eq_true_eq, List.all_eq_true, List.all_eq_true]
 refine and_congr_right fun _ => and_congr ?_ ?_
 ·refine ⟨fun h1 x hx _ => ?_, fun h1 x hx => ?_⟩
  ·have := h1 x (List.mem_range.2 hx)
   unfold inSpan at this
   simp only [Bool.and_eq_true, decide_eq_true_eq] at this
   exact ⟨this.1, this.2, rfl⟩
  ·have := h1 x (List.mem_range.1 hx) rfl
   unfold inSpan
   simp only [Bool.and_eq_true, decide_eq_true_eq]
   exact ⟨this.1, this.2.1⟩
 ·exact ⟨fun h1 j hj _ _ => h1 j hj, fun h1 j hj => h1 j hj rfl rfl⟩
end Go.Proofs.YtgehkojccmkggaaDoor.K
end
section
namespace Go.Proofs.YtgehkojccmkggaaDoor.H
open Go.RowKit Go.Proofs.YtgehkojccmkggaaDoorW.PrintWords Go.Proofs.YtgehkojccmkggaaDoorW.PrintLast Go.Proofs.YtgehkojccmkggaaDoorW.PrintMore
set_option linter.unusedVariables false
set_option linter.unusedSimpArgs false
def saronref00_Bears.f (a0_0 : Int) (a0_1 : Int) (a1 : Int) : Option (Bool) := (saronref00_Sits.f a1 a0_0 a0_1).bind fun t184 => (some t184)
set_option maxHeartbeats 8000000 in
set_option maxRecDepth 100000 in
theorem saronref00_Bears.calls (a0_0 : Int) (a0_1 : Int) (a1 : Int) (r : Bool) (w : World) (h : saronref00_Bears.f a0_0 a0_1 a1 = some r) :
  Calls Tryd.prog 40 #[.agg #[.int .i64 a0_0, .int .i64 a0_1], .int .i64 a1] w fun e w' => e = .returned (.bool r) ∧ Below w.heap.size w w' := by
 have hu26 := Tryd.underlying26
 have HB := zh (Below.refl w.heap.size w)
 have H : ((saronref00_Sits.f a1 a0_0 a0_1).bind fun t184 => (some t184)) = some r := h
 clear h
 replace H := Option.bind_eq_some_iff.mp H
 obtain ⟨t184, A30, H⟩ := H
 replace H : (some t184) = some r := H
 have A3 := zh A30
 clear A30
 obtain rfl := Option.some.inj H
 go_enter Tryd.func40, Tryd.ntmps40
 go_wp2_with (first | ((with_reducible refine gate_dst (N := 2) rfl ?_); refine box_event ?hg (N := 2) ?hd (cs := #[.int .i64 a0_0, .int .i64 a0_1]) (t := 26) ?hr ?_; (case hd => rfl); (case hg => rfl); (case hr => first | (go_simp; done) | (go_simp; rfl)); intro gb183 hg w4 hbox hb; have BK183 := zh (hbox); have GW183 := zh ((by rw [hg]; exact (below_size zb) : w.heap.size ≤ gb183)); have GE183 := zh ((by rw [hg]; exact (below_size zb) : w.heap.size ≤ gb183)); replace HB := zh (below_step zb hb); clear hb hbox hg; obtain ⟨hcz5_0, hcz5_1⟩ := zC2 BK183.out; obtain ⟨hfz5_0, hfz5_1⟩ := zF2 BK183.out) | ((with_reducible refine gate_callee (f := 59) rfl ?_); refine goesL_ (some 10) rfl rfl Tryd.func59 zk rfl #[.int .i64 a1, .int .i64 a0_0, .int .i64 a0_1] rfl zm ?_; (with_reducible refine (saronref00_Sits.calls a1 a0_0 a0_1 t184 _ A3.out).mono ?_); rintro e w' ⟨rfl, ⟨nd, rfl⟩⟩; refine ⟨_, rfl, ?_⟩))
 go_ret
 exact ⟨zf, zb⟩
end Go.Proofs.YtgehkojccmkggaaDoor.H
end
section
namespace Go.Proofs.YtgehkojccmkggaaDoor.K
open Go.RowKit Go.Shelf Go.Proofs.YtgehkojccmkggaaDoorW.PrintWords Go.Proofs.YtgehkojccmkggaaDoorW.PrintLast Go.Proofs.YtgehkojccmkggaaDoorW.PrintMore Go.Proofs.YtgehkojccmkggaaDoor.H Tune
set_option linter.unusedVariables false
set_option linter.unusedSimpArgs false
theorem bears_f (a b n : Int) : saronref00_Bears.f a b n = some (decide (a ≤ n) && decide (n ≤ b)) := by
 unfold saronref00_Bears.f
 rw [sits_f]
 rfl
def Heard (n : Nat) (l : List Int) : Prop := l.length = n ∧ ∀ x ∈ l, 0 ≤ x ∧ x ≤ 4000
theorem Heard.at_ {n : Nat} {l : List Int} (hl : Heard n l) {k : Int} (hk : inK n k = true) : 0 ≤ k ∧ k < (l.length : Int) ∧ rd l k = l.getD k.toNat 0 ∧ 0 ≤ l.getD k.toNat 0 ∧ l.getD k.toNat 0 ≤ 4000 := by
 unfold inK at hk
 simp only [Bool.and_eq_true, decide_eq_true_eq] at hk
 obtain ⟨h1, h2⟩ := hl
 have h3 : k.toNat < l.length := by omega
 have h4 : l.getD k.toNat 0 ∈ l := by rw [show l.getD k.toNat 0 = l[k.toNat] by simp [List.getD_eq_getElem?_getD, h3]]; exact List.getElem_mem h3
 have h5 := h2 _ h4
 exact ⟨hk.1, by omega, rfl, h5.1, h5.2⟩
section
variable {h : List S26} {s : List S61} {p : List S48} {b0 b1 : Int} {l : List Int}
def fitQ (b0 b1 : Int) (l : List Int) (q : S80) : Bool := fitJ (b0, b1) l (toJ q)
theorem fit_step (x : S61) (i : Nat) : fitQ b0 b1 l (stepQ x i) = (decide ((x.f1.getD i z26).f0 * l.getD (x.f0.getD i 0).toNat 0 ≤ 1000 * l.getD (x.f0.getD (i + 1) 0).toNat 0) && decide (1000 * l.getD (x.f0.getD (i + 1) 0).toNat 0 ≤ (x.f1.getD i z26).f1 * l.getD (x.f0.getD i 0).toNat 0)) := rfl
end
end Go.Proofs.YtgehkojccmkggaaDoor.K
end
section
namespace Go.Proofs.YtgehkojccmkggaaDoor.K
open Go.RowKit Go.Shelf Go.Proofs.YtgehkojccmkggaaDoorW.PrintWords Go.Proofs.YtgehkojccmkggaaDoorW.PrintLast Go.Proofs.YtgehkojccmkggaaDoorW.PrintMore Go.Proofs.YtgehkojccmkggaaDoor.H Tune
set_option linter.unusedVariables false
set_option linter.unusedSimpArgs false
section
variable {h : List S26} {s : List S61} {p : List S48} {b0 b1 : Int}
theorem TunS_plain (hc : checkT h s p b0 b1 = 0) (B : Int × Int) (l : Nat → Int) : TunS h (jsOf h s p b0 b1) B l ↔ (∀ x, x < h.length → loH h x ≤ l x ∧ l x ≤ hiH h x) ∧ AllFit s p noLeft B l := by
 unfold TunS Tun
 refine and_congr ⟨fun g x hx => ⟨(g x hx rfl).1, (g x hx rfl).2.1⟩, fun g x hx _ => ⟨(g x hx).1, (g x hx).2, rfl⟩⟩ (fit_all (neat_of hc) noLeft B l)
end
end Go.Proofs.YtgehkojccmkggaaDoor.K
end
section
namespace Go.Proofs.YtgehkojccmkggaaDoor.K
open Go.RowKit Go.Shelf Go.Proofs.YtgehkojccmkggaaDoorW.PrintWords Go.Proofs.YtgehkojccmkggaaDoorW.PrintLast Go.Proofs.YtgehkojccmkggaaDoorW.PrintMore Go.Proofs.YtgehkojccmkggaaDoor.H Tune
set_option linter.unusedVariables false
set_option linter.unusedSimpArgs false
section
variable {A0 : Option Addr} {c0 : Nat} {h : List S26} {A1 : Option Addr} {c1 : Nat} {s : List S61} {A2 : Option Addr} {c2 : Nat} {p : List S48} {w w' : World} {b0 b1 : Int}
variable (H : Aside0 (At A0 c0 h A1 c1 s A2 c2 p w))
include H
theorem cPitch {a r1 r2 r3 : Int} (hr : Aside0 (tune_Pitch.f h s p b0 b1 a = some (r1, r2, r3))) : ∀ W, Below w.heap.size w W → Calls Tryd.prog 23 #[.agg (sc A0 c0 h A1 c1 s A2 c2 p b0 b1), .int .i64 a] W fun e w' => e = .returned (.tuple #[.agg #[.int .i64 r1, .int .i64 r2], .int .i64 r3]) ∧ Below W.heap.size W w' := fun W hW => by
 have X := H.out.below hW
 exact tune_Pitch.calls A0 c0 h A1 c1 s A2 c2 p b0 b1 a r1 r2 r3 W X.d0 X.n0 X.d1 X.n1 X.d2 X.n2 X.gl hr.out
theorem cCan {a q : Int} {r1 : Bool} {r2 : Int} (hr : Aside0 (tune_Can.f h s p b0 b1 a q = some (r1, r2))) : ∀ W, Below w.heap.size w W → Calls Tryd.prog 25 #[.agg (sc A0 c0 h A1 c1 s A2 c2 p b0 b1), .int .i64 a, .int .i64 q] W fun e w' => e = .returned (.tuple #[.bool r1, .int .i64 r2]) ∧ Below W.heap.size W w' := fun W hW => by
 have X := H.out.below hW
 exact tune_Can.calls A0 c0 h A1 c1 s A2 c2 p b0 b1 a q r1 r2 W X.d0 X.n0 X.d1 X.n1 X.d2 X.n2 X.gl hr.out
end
section
variable {w : World}
theorem cBears (a b n : Int) {r : Bool} (hr : (decide (a ≤ n) && decide (n ≤ b)) = r) : ∀ W, Below w.heap.size w W → Calls Tryd.prog 40 #[.agg #[.int .i64 a, .int .i64 b], .int .i64 n] W fun e w' => e = .returned (.bool r) ∧ Below W.heap.size W w' := fun W _ => saronref00_Bears.calls a b n r W (by rw [bears_f, hr])
end
end Go.Proofs.YtgehkojccmkggaaDoor.K
end
section
namespace Go.Proofs.YtgehkojccmkggaaDoor.K
open Go.RowKit Go.Shelf Go.Proofs.YtgehkojccmkggaaDoorW.PrintWords Go.Proofs.YtgehkojccmkggaaDoorW.PrintLast Go.Proofs.YtgehkojccmkggaaDoorW.PrintMore Go.Proofs.YtgehkojccmkggaaDoor.H Tune
set_option linter.unusedVariables false
set_option linter.unusedSimpArgs false
attribute [local go_sem] Oper.semAt_some
section
variable {A0 : Option Addr} {c0 : Nat} {h : List S26} {A1 : Option Addr} {c1 : Nat} {s : List S61} {A2 : Option Addr} {c2 : Nat} {p : List S48} {w : World}
theorem span_okZ {a b lo hi : Int} (h1 : lo ≤ a) (h2 : a ≤ b) (h3 : b ≤ hi) : okSpan ⟨a, b⟩ lo hi = true := by unfold okSpan; rw [decide_eq_true h1, decide_eq_true h2, decide_eq_true h3]; rfl
theorem St.tail {w0 w : World} {x : Bk} {L : List Bk} (h : Aside0 (St w0 w (x :: L))) : Aside0 (St w0 w L) := ⟨⟨h.out.below, h.out.blks.2, fun y hy => h.out.own y (List.mem_cons_of_mem _ hy), (List.pairwise_cons.1 h.out.apart).2⟩⟩
theorem At.key (H : At A0 c0 h A1 c1 s A2 c2 p w) {k : Nat} (hk : k < h.length) : ∃ ad, A0 = some ad ∧ w.cell? (ad.add (k * 2)) = some (.int .i64 (loH h k)) ∧ w.cell? ⟨(ad.add (k * 2)).block, (ad.add (k * 2)).off + 1, none⟩ = some (.int .i64 (hiH h k)) := H_at H.d0 k hk
theorem At.heard {ad : Addr} {k : Nat} (H : At (some ad) c0 h A1 c1 s A2 c2 p w) (hk : k < h.length) : w.cell? (ad.add (k * 2)) = some (.int .i64 (loH h k)) ∧ w.cell? ⟨(ad.add (k * 2)).block, (ad.add (k * 2)).off + 1, none⟩ = some (.int .i64 (hiH h k)) := by
 obtain ⟨ad', e, h1, h2⟩ := H_at H.d0 k hk
 injection e with e
 subst e
 exact ⟨h1, h2⟩
theorem At.scale (H : At A0 c0 h A1 c1 s A2 c2 p w) {i : Nat} (hi : i < s.length) : ∃ ad B0 e0 B1 e1, A1 = some ad ∧ w.cell? (ad.add (i * 2)) = some (.slice B0 (s[i]).f0.length e0) ∧ w.cell? ⟨(ad.add (i * 2)).block, (ad.add (i * 2)).off + 1, none⟩ = some (.slice B1 (s[i]).f1.length e1) ∧ (s[i]).f0.length ≤ e0 ∧ Kd.C (Kd.int .i64) w B0 (s[i]).f0.length (s[i]).f0 ∧ (s[i]).f1.length ≤ e1 ∧ Kd.C k26 w B1 (s[i]).f1.length (s[i]).f1 := by
 have h1 := at_T61 H.d1 (i : Int) (by omega) (by omega)
 rw [rd61_at _ _ hi, Int.toNat_natCast] at h1
 exact h1
theorem At.pair (H : At A0 c0 h A1 c1 s A2 c2 p w) {i : Nat} (hi : i < p.length) : ∃ ad, A2 = some ad ∧ w.cell? (ad.add (i * 2)) = some (.int .i64 (p[i]).f0) ∧ w.cell? ⟨(ad.add (i * 2)).block, (ad.add (i * 2)).off + 1, none⟩ = some (.int .i64 (p[i]).f1) := by
 have h1 := at_T48 H.d2 (i : Int) (by omega) (by omega)
 rw [rd48_at _ _ hi, Int.toNat_natCast] at h1
 exact h1
theorem int_at {A : Option Addr} {l : List Int} (hC : Kd.C (Kd.int .i64) w A l.length l) {j : Nat} (hj : j < l.length) : ∃ ad, A = some ad ∧ w.cell? (ad.add j) = some (.int .i64 (l[j])) := by
 obtain ⟨_, _, h3⟩ := hC
 obtain ⟨ad, e, hc⟩ := h3 (by omega)
 obtain ⟨c, hl, hK, hcell⟩ := hc j _ (List.getElem?_eq_getElem hj)
 have hK2 : c = [.int .i64 l[j]] := hK
 subst hK2
 have h4 := hcell 0 _ rfl
 refine ⟨ad, e, ?_⟩
 rw [show j * (Kd.int .i64).sz + 0 = j by show j * 1 + 0 = j; omega] at h4
 exact h4
theorem span_at {A : Option Addr} {l : List S26} (hC : Kd.C k26 w A l.length l) {j : Nat} (hj : j < l.length) : ∃ ad, A = some ad ∧ w.cell? (ad.add (j * 2)) = some (.int .i64 (l[j]).f0) ∧ w.cell? ⟨(ad.add (j * 2)).block, (ad.add (j * 2)).off + 1, none⟩ = some (.int .i64 (l[j]).f1) := by
 have h1 := at_T26 hC (j : Int) (by omega) (by omega)
 rw [rd26_at _ _ hj, Int.toNat_natCast] at h1
 exact h1
theorem cSits {w0 : World} (n a b : Int) {r : Bool} (hr : (decide (a ≤ n) && decide (n ≤ b)) = r) : ∀ W, Below w0.heap.size w0 W → Calls Tryd.prog 59 #[.int .i64 n, .int .i64 a, .int .i64 b] W fun e w' => e = .returned (.bool r) ∧ Below W.heap.size W w' := fun W _ => (saronref00_Sits.calls n a b r W (by rw [sits_f, hr])).mono fun _ _ hh => ⟨hh.1, Drawn0.belowZ hh.2⟩
theorem cCheck (H : Aside0 (At A0 c0 h A1 c1 s A2 c2 p w)) {b0 b1 r : Int} (hr : Aside0 (checkT h s p b0 b1 = r)) : ∀ W, Below w.heap.size w W → Calls Tryd.prog 18 #[.agg (sc A0 c0 h A1 c1 s A2 c2 p b0 b1)] W fun e w' => e = .returned (.int .i64 r) ∧ Below W.heap.size W w' := fun W hW => by
 have X := H.out.below hW
 exact tune_Check.calls A0 c0 h A1 c1 s A2 c2 p b0 b1 r W X.d0 X.n0 X.d1 X.n1 X.d2 X.n2 X.gl (by unfold tune_Check.f; rw [if_pos X.sm, hr.out])
end
end Go.Proofs.YtgehkojccmkggaaDoor.K
end
section
namespace Go.Proofs.YtgehkojccmkggaaDoor.K
open Go.RowKit Go.Shelf Go.Proofs.YtgehkojccmkggaaDoorW.PrintWords Go.Proofs.YtgehkojccmkggaaDoorW.PrintLast Go.Proofs.YtgehkojccmkggaaDoorW.PrintMore Go.Proofs.YtgehkojccmkggaaDoor.H Tune
set_option linter.unusedVariables false
set_option linter.unusedSimpArgs false
attribute [local go_sem] Oper.semAt_some
attribute [local go_sem high] eqA26
attribute [local go_sem] max2_int min2_int max_two min_two
def r43.T8 : Bool × List (List Nat × List Nat) := (true, [([], []), ([], []), ([1], [1]), ([], []), ([3], [3]), ([2, 4], [2, 4]), ([5], [5]), ([0, 6], [0, 6]), ([7], [7]), ([8], [8]), ([], []), ([10], [10]), ([], []), ([11, 12], [11, 12]), ([13], [13]), ([14], [14]), ([], []), ([], []), ([17], [17]), ([], []), ([18, 19], [18, 19]), ([20], [20]), ([16, 21], [16, 21]), ([22], [22]), ([15, 23], [15, 23]), ([], []), ([25], [25]), ([], []), ([26, 27], [26, 27]), ([28], [28]), ([29], [29]), ([], []), ([], []), ([32], [32]), ([], []), ([33, 34], [33, 34]), ([35], [35]), ([31, 36], [31, 36]), ([37], [37]), ([30, 38], [30, 38]), ([9, 24, 39], [9, 24, 39]), ([40], [40])])
def r43.B8 : List Nat := [0, 0, 2, 0, 8, 30, 62, 127, 255, 511, 0, 1024, 0, 7168, 15360, 31744, 0, 0, 131072, 0, 917504, 1966080, 4128768, 8323072, 16776192, 0, 33554432, 0, 234881024, 503316480, 1040187392, 0, 0, 4294967296, 0, 30064771072, 64424509440, 135291469824, 272730423296, 549722259456, 1099511627775, 2199023255551]
theorem r43.tab8 : rtab .any (opsOf Tryd.f43 8) = r43.T8 := by kernel_rfl
theorem r43.bits8 : waitsOk r43.T8.2 r43.B8 = true := by kernel_rfl
def r43.T13 : Bool × List (List Nat × List Nat) := (true, [([], []), ([0], [0]), ([], []), ([], []), ([3], [3]), ([], []), ([4, 5], [4, 5]), ([6], [6]), ([7], [7]), ([2, 8], [2, 8]), ([9], [9]), ([], []), ([], []), ([12], [12]), ([], []), ([13, 14], [13, 14]), ([15], [15]), ([16], [16]), ([11, 17], [11, 17]), ([18], [18]), ([10, 19], [10, 19]), ([1, 20], [1, 20]), ([21], [21])])
def r43.B13 : List Nat := [0, 1, 0, 0, 8, 0, 56, 120, 248, 508, 1020, 0, 0, 4096, 0, 28672, 61440, 126976, 260096, 522240, 1048572, 2097151, 4194303]
theorem r43.tab13 : rtab .any (opsOf Tryd.f43 13) = r43.T13 := by kernel_rfl
theorem r43.bits13 : waitsOk r43.T13.2 r43.B13 = true := by kernel_rfl
theorem el_at {w : World} {r : List Int} {ae : Addr} {k : Nat} {key : Int} (hC : Kd.C (Kd.int .i64) w (some ae) r.length r) (hk : k < r.length) (h1 : r.getD k 0 = key) : w.cell? (ae.add k) = some (.int .i64 key) := by
 obtain ⟨ad, e, x⟩ := int_at hC hk
 injection e with e
 subst e
 rw [show r.getD k 0 = r[k] by simp [List.getD_eq_getElem?_getD, hk]] at h1
 rw [← h1]
 exact x
theorem sp_at {w : World} {r : List S26} {ae : Addr} {k : Nat} {lo hi : Int} (hC : Kd.C k26 w (some ae) r.length r) (hk : k < r.length) (h1 : r.getD k z26 = ⟨lo, hi⟩) : w.cell? (ae.add (k * 2)) = some (.int .i64 lo) ∧ w.cell? ⟨(ae.add (k * 2)).block, (ae.add (k * 2)).off + 1, none⟩ = some (.int .i64 hi) := by
 obtain ⟨ad, e, x⟩ := span_at hC hk
 injection e with e
 subst e
 rw [show r.getD k z26 = r[k] by simp [List.getD_eq_getElem?_getD, hk]] at h1
 rw [h1] at x
 exact x
section
variable {h : List S26} {s : List S61} {p : List S48} {b0 b1 : Int} {l : List Int}
def gS (b0 b1 : Int) (l : List Int) (x : S61) : Bool := (List.range' 0 x.f1.length).all fun m => fitQ b0 b1 l (stepQ x m)
def gP (b0 b1 : Int) (l : List Int) (q : S48) : Bool := fitQ b0 b1 l (pairQ b0 b1 q)
theorem gS_true {x : S61} (hx : ∀ m, m < x.f1.length → fitQ b0 b1 l (stepQ x m) = true) : gS b0 b1 l x = true := List.all_eq_true.2 fun m hm => hx m (by have := (List.mem_range'_1.1 hm).2; omega)
theorem gS_false {x : S61} {m : Nat} (hm : m < x.f1.length) (hx : fitQ b0 b1 l (stepQ x m) = false) : gS b0 b1 l x = false := List.all_eq_false.2 ⟨m, List.mem_range'_1.2 ⟨Nat.zero_le _, by omega⟩, by rw [hx]; exact Bool.false_ne_true⟩
theorem all_take {α : Type} (f : α → Bool) {l : List α} {k : Nat} (hk : k < l.length) (h : (l.take k).all f = true) (hf : f l[k] = true) : (l.take (k + 1)).all f = true := by rw [List.take_succ_eq_append_getElem hk, List.all_append, h]; simp [hf]
theorem step_at (N : Neat h s p b0 b1) (hl : Heard h.length l) {x : S61} (hx : x ∈ s) {j : Nat} (hj : j < x.f1.length) : ∃ (k0 k1 : Nat) (v0 v1 lo hi : Int), j < x.f0.length ∧ j + 1 < x.f0.length ∧ x.f0.getD j 0 = (k0 : Int) ∧ x.f0.getD (j + 1) 0 = (k1 : Int) ∧ k0 < l.length ∧ k1 < l.length ∧ l.getD k0 0 = v0 ∧ l.getD k1 0 = v1 ∧ x.f1.getD j z26 = ⟨lo, hi⟩ ∧ (decide (wrap64 (lo * v0) ≤ wrap64 (1000 * v1)) && decide (wrap64 (1000 * v1) ≤ wrap64 (hi * v0))) = fitQ b0 b1 l (stepQ x j) := by
 obtain ⟨s1, s2, s3, s4, s5⟩ := N.scale _ hx
 have h2 : j < x.f0.length := by omega
 have h3 : j + 1 < x.f0.length := by omega
 have e1 : x.f1.getD j z26 = x.f1[j] := by simp [List.getD_eq_getElem?_getD, hj]
 have e2 : x.f0.getD j 0 = x.f0[j] := by simp [List.getD_eq_getElem?_getD, h2]
 have e3 : x.f0.getD (j + 1) 0 = x.f0[j + 1] := by simp [List.getD_eq_getElem?_getD, h3]
 obtain ⟨a1, a2, a3, a4, a5⟩ := hl.at_ (s4 _ (List.getElem_mem h2))
 obtain ⟨c1, c2, c3, c4, c5⟩ := hl.at_ (s4 _ (List.getElem_mem h3))
 have hsp := s5 _ (List.getElem_mem hj)
 unfold okSpan at hsp
 simp only [Bool.and_eq_true, decide_eq_true_eq] at hsp
 have m0 : 0 ≤ (x.f1[j]).f0 * l.getD (x.f0[j]).toNat 0 := Int.mul_nonneg (by omega) a4
 have m1 : 0 ≤ (x.f1[j]).f1 * l.getD (x.f0[j]).toNat 0 := Int.mul_nonneg (by omega) a4
 have m2 : (x.f1[j]).f0 * l.getD (x.f0[j]).toNat 0 ≤ 5000 * 4000 := Int.mul_le_mul (by omega) a5 a4 (by omega)
 have m3 : (x.f1[j]).f1 * l.getD (x.f0[j]).toNat 0 ≤ 5000 * 4000 := Int.mul_le_mul (by omega) a5 a4 (by omega)
 refine ⟨(x.f0[j]).toNat, (x.f0[j + 1]).toNat, _, _, (x.f1[j]).f0, (x.f1[j]).f1, h2, h3, by omega, by omega, by omega, by omega, rfl, rfl, e1, ?_⟩
 rw [w64 (x := 1000 * _) (by omega) (by omega), w64 (by omega) (by omega), w64 (by omega) (by omega), fit_step, e1, e2, e3]
theorem pair_at (N : Neat h s p b0 b1) (hl : Heard h.length l) {q : S48} (hq : q ∈ p) : ∃ (k0 k1 : Nat) (v0 v1 : Int), q.f0 = (k0 : Int) ∧ q.f1 = (k1 : Int) ∧ k0 < l.length ∧ k1 < l.length ∧ l.getD k0 0 = v0 ∧ l.getD k1 0 = v1 ∧ (decide (b0 ≤ wrap64 (v1 - v0)) && decide (wrap64 (v1 - v0) ≤ b1)) = gP b0 b1 l q := by
 obtain ⟨a1, a2, a3, a4, a5⟩ := hl.at_ (N.pair _ hq).1
 obtain ⟨c1, c2, c3, c4, c5⟩ := hl.at_ (N.pair _ hq).2
 refine ⟨q.f0.toNat, q.f1.toNat, _, _, by omega, by omega, by omega, by omega, rfl, rfl, ?_⟩
 rw [w64 (by omega) (by omega)]
 rfl
theorem tuned_all (N : Neat h s p b0 b1) : (s.all (gS b0 b1 l) && p.all (gP b0 b1 l)) = (jsOf h s p b0 b1).all (fitJ (b0, b1) l) := by
 unfold jsOf
 rw [List.all_map]
 exact (joints_all N (fun q => fitJ (b0, b1) l (toJ q))).symm
end
section
variable {A0 : Option Addr} {c0 : Nat} {h : List S26} {A1 : Option Addr} {c1 : Nat} {s : List S61} {A2 : Option Addr} {c2 : Nat} {p : List S48} {w : World} {b0 b1 : Int} {B : Option Addr} {d : Nat} {l : List Int}
set_option maxRecDepth 100000 in
set_option maxHeartbeats 4000000 in
theorem tuned_w (H : Aside0 (At A0 c0 h A1 c1 s A2 c2 p w)) (N : Neat h s p b0 b1) (hl : Heard h.length l) (hB : Kd.C (Kd.int .i64) w B l.length l) (hd : l.length ≤ d) {R : Bool} (HR : Aside0 ((s.all (gS b0 b1 l) && p.all (gP b0 b1 l)) = R)) : Calls Tryd.prog 43 #[.agg #[.slice A0 h.length c0, .slice A1 s.length c1, .slice A2 p.length c2, .int .i64 b0, .int .i64 b1], .slice B l.length d] w fun e w' => e = .returned (.bool R) ∧ Below w.heap.size w w' := by
 have hn := N.few
 have hs2 := N.scales
 have hp4 := N.pairs
 have HN := zh N
 have HH := zh hl
 have HBC := zh hB
 clear N hl hB
 have ST := St.start w
 have HC : True := trivial
 go_enter Tryd.func43, Tryd.ntmps43
 go_wp2_with (first | ((with_reducible refine gate_dst (N := 2) rfl ?_); refine evA ST (N := 2) (cs := #[.slice A0 h.length c0, .slice A1 s.length c1, .slice A2 p.length c2, .int .i64 b0, .int .i64 b1]) (t := 28) ?_; clear ST HC; intro g2 v ST HC; simp only [Rd] at HC))
 go_loopw [5] (fun u wr => ∃ i : Nat, i ≤ s.length ∧ u = .int .i64 i ∧ Aside0 ((s.take i).all (gS b0 b1 l) = true) ∧ Aside0 (St w wr [⟨g2, #[.slice A0 h.length c0, .slice A1 s.length c1, .slice A2 p.length c2, .int .i64 b0, .int .i64 b1], 28, true⟩])) (fun u _ => s.length - (intOf u).toNat)
 case atStart => exact ⟨0, Nat.zero_le _, rfl, ⟨rfl⟩, ST⟩
 case round =>
  clear ST HC
  obtain ⟨i, hi, rfl, HGi, ST⟩ := hrel
  have HC := St.rd ST
  simp only [Rd] at HC
  by_cases hlt2 : i < s.length
  ·have l1 : (i : Int) < (s.length : Int) := by omega
   have l0 : 0 ≤ (i : Int) := by omega
   obtain ⟨ad, B0, e0, B1, e1, rfl, y0, y1, n0, K0, n1, K1⟩ := H.out.scale hlt2
   have hmem : s[i] ∈ s := List.getElem_mem hlt2
   have HSN := zh (fun hg => all_take (gS b0 b1 l) hlt2 HGi.out hg)
   obtain ⟨x, hx⟩ : ∃ x, x = s[i] := ⟨_, rfl⟩
   rw [← hx] at y0 y1 n0 n1 K0 K1 hmem HSN
   clear hx
   have HMEM := zh hmem
   have x8 : (x.f1.length : Int) ≤ 8 := by have := HN.out.scale _ hmem; omega
   clear hmem
   replace y0 := ST.out.below.cell (World.block_lt_of_cell? w _ y0) |>.trans y0
   replace y1 := ST.out.below.cell (World.block_lt_of_cell? w _ y1) |>.trans y1
   have HK0 := zh K0
   have HK1 := zh K1
   clear K0 K1
   go_wp2_with (first | ((with_reducible refine gate_dst (N := 6) rfl ?_); refine evA ST (N := 6) (cs := #[.slice none 0 0, .slice none 0 0]) (t := 61) ?_; clear ST HC; intro g6 v ST HC; simp only [Rd] at HC) | ((with_reducible refine gate_store (p := 6) (v := (.tmp 20)) rfl ?_); refine evS (L' := [⟨g6, #[.slice B0 x.f0.length e0, .slice B1 x.f1.length e1], 61, true⟩, ⟨g2, #[.slice A0 h.length c0, .slice (some ad) s.length c1, .slice A2 p.length c2, .int .i64 b0, .int .i64 b1], 28, true⟩]) ST (fun S => St.put (St.put S 0 (0) (.slice B0 x.f0.length e0) rfl) 0 (1) (.slice B1 x.f1.length e1) rfl) ?_; clear ST HC; intro v ST HC; simp only [Rd] at HC))
   clear y0 y1
   go_loopw [7] (fun u wr => ∃ j : Nat, j ≤ x.f1.length ∧ u = .int .i64 j ∧ Aside0 (∀ m, m < j → fitQ b0 b1 l (stepQ x m) = true) ∧ Aside0 (St w wr [⟨g6, #[.slice B0 x.f0.length e0, .slice B1 x.f1.length e1], 61, true⟩, ⟨g2, #[.slice A0 h.length c0, .slice (some ad) s.length c1, .slice A2 p.length c2, .int .i64 b0, .int .i64 b1], 28, true⟩])) (fun u _ => x.f1.length - (intOf u).toNat)
   case atStart => exact ⟨0, Nat.zero_le _, rfl, ⟨fun m hm => absurd hm (Nat.not_lt_zero _)⟩, ST⟩
   case round =>
    clear ST HC
    obtain ⟨j, hj, rfl, HGj, ST⟩ := hrel
    have HC := St.rd ST
    simp only [Rd] at HC
    by_cases hlt3 : j < x.f1.length
    ·have m1 : (j : Int) < (x.f1.length : Int) := by omega
     have m0 : 0 ≤ (j : Int) := by omega
     obtain ⟨k0, k1, v0, v1, lo, hi, a1, a2, a3, a4, a5, a6, a7, a8, a9, a10⟩ := step_at HN.out HH.out HMEM.out hlt3
     obtain ⟨al, rfl, z1⟩ := int_at HBC.out a5
     obtain ⟨ak, rfl, z2⟩ := int_at HK0.out a1
     obtain ⟨ad2, rfl, z3⟩ := span_at HK1.out hlt3
     clear z1 z2 z3
     have HP : Aside0 (∀ w_, Below w.heap.size w w_ → w_.cell? (al.add k0) = some (.int .i64 v0) ∧ w_.cell? (al.add k1) = some (.int .i64 v1) ∧ w_.cell? (ak.add j) = some (.int .i64 k0) ∧ w_.cell? ⟨ak.block, ak.off + (j + 1), none⟩ = some (.int .i64 k1) ∧ w_.cell? (ad2.add (j * 2)) = some (.int .i64 lo) ∧ w_.cell? ⟨(ad2.add (j * 2)).block, (ad2.add (j * 2)).off + 1, none⟩ = some (.int .i64 hi)) := ⟨fun W hW => ⟨el_at (Kd.C_below HBC.out hW) a5 a7, el_at (Kd.C_below HBC.out hW) a6 a8, el_at (Kd.C_below HK0.out hW) a1 a3, el_at (Kd.C_below HK0.out hW) a2 a4, sp_at (Kd.C_below HK1.out hW) hlt3 a9⟩⟩
     have i0 : 0 ≤ (k0 : Int) := by omega
     have i1 : (k0 : Int) < (l.length : Int) := by omega
     have i2 : 0 ≤ (k1 : Int) := by omega
     have i3 : (k1 : Int) < (l.length : Int) := by omega
     have i4 : (j : Int) < (x.f0.length : Int) := by omega
     have i5 : (j : Int) + 1 < (x.f0.length : Int) := by omega
     have i6 : 0 ≤ (j : Int) + 1 := by omega
     have i7 : ((j : Int) + 1).toNat = j + 1 := by omega
     have i8 : wrap64 ((j : Int) + 1) = (j : Int) + 1 := w64 (by omega) (by omega)
     clear a1 a2 a3 a4 a5 a6 a7 a8 a9
     cases hfit : fitQ b0 b1 l (stepQ x j) with
     | false =>
      have HFIT := zh (a10.trans hfit)
      have HF2 := zh hfit
      have HJ := zh hlt3
      clear a10 hfit
      go_upto_region 8 with (fail)
      refine zI (E := fun w_ => w_.cell? (al.add k0) = some (.int .i64 v0) ∧ w_.cell? (al.add k1) = some (.int .i64 v1) ∧ w_.cell? (ak.add j) = some (.int .i64 k0) ∧ w_.cell? ⟨ak.block, ak.off + (j + 1), none⟩ = some (.int .i64 k1) ∧ w_.cell? (ad2.add (j * 2)) = some (.int .i64 lo) ∧ w_.cell? ⟨(ad2.add (j * 2)).block, (ad2.add (j * 2)).off + 1, none⟩ = some (.int .i64 hi)) (n := 42) (ds := []) ST (fun W hW => HP.out W hW) r43.tab8 r43.bits8 ?_
      clear ST HC
      intro v ST HC HT_ HW_ HE_
      simp only [Rd] at HC
      refine zu 0 ?_
      refine zu 1 ?_
      refine zu 3 ?_
      refine zu 4 ?_
      refine zu 10 ?_
      refine zu 12 ?_
      refine zu 16 ?_
      refine zu 17 ?_
      refine zu 19 ?_
      refine zu 25 ?_
      refine zu 27 ?_
      refine zu 31 ?_
      refine zu 32 ?_
      refine zu 34 ?_
      refine zL 2 ST ?_
      refine zu 5 ?_
      refine zL 6 ST ?_
      refine zu 7 ?_
      refine zL 8 ST ?_
      refine zu 9 ?_
      refine zL 11 ST ?_
      refine zu 13 ?_
      refine zu 14 ?_
      refine zL 15 ST ?_
      refine zL 18 ST ?_
      refine zu 20 ?_
      refine zL 21 ST ?_
      refine zu 22 ?_
      refine zL 23 ST ?_
      refine zu 24 ?_
      refine zL 26 ST ?_
      refine zu 28 ?_
      refine zu 29 ?_
      refine zL 30 ST ?_
      refine zL 33 ST ?_
      refine zu 35 ?_
      refine zL 36 ST ?_
      refine zu 37 ?_
      refine zL 38 ST ?_
      refine zu 39 ?_
      refine zG 40 ST (cSits (wrap64 (1000 * v1)) (wrap64 (lo * v0)) (wrap64 (hi * v0)) HFIT.out) ?_ Tryd.func59
      clear ST HC
      intro v ST HC
      simp only [Rd] at HC
      refine zu 41 ?_
      refine zd ?_
      clear HT_ HW_ HE_ i0 i1 i2 i3 i4 i5 i6 i7 i8 HP HFIT
      go_wp2_with (fail)
      go_ret
      exact ⟨by rw [← HR.out, List.all_eq_false.2 ⟨x, HMEM.out, by rw [gS_false HJ.out HF2.out]; exact Bool.false_ne_true⟩]; rfl, ST.out.below⟩
     | true =>
      have HFIT := zh (a10.trans hfit)
      have HF2 := zh hfit
      have HJ := zh hlt3
      clear a10 hfit
      go_upto_region 8 with (fail)
      refine zI (E := fun w_ => w_.cell? (al.add k0) = some (.int .i64 v0) ∧ w_.cell? (al.add k1) = some (.int .i64 v1) ∧ w_.cell? (ak.add j) = some (.int .i64 k0) ∧ w_.cell? ⟨ak.block, ak.off + (j + 1), none⟩ = some (.int .i64 k1) ∧ w_.cell? (ad2.add (j * 2)) = some (.int .i64 lo) ∧ w_.cell? ⟨(ad2.add (j * 2)).block, (ad2.add (j * 2)).off + 1, none⟩ = some (.int .i64 hi)) (n := 42) (ds := []) ST (fun W hW => HP.out W hW) r43.tab8 r43.bits8 ?_
      clear ST HC
      intro v ST HC HT_ HW_ HE_
      simp only [Rd] at HC
      refine zu 0 ?_
      refine zu 1 ?_
      refine zu 3 ?_
      refine zu 4 ?_
      refine zu 10 ?_
      refine zu 12 ?_
      refine zu 16 ?_
      refine zu 17 ?_
      refine zu 19 ?_
      refine zu 25 ?_
      refine zu 27 ?_
      refine zu 31 ?_
      refine zu 32 ?_
      refine zu 34 ?_
      refine zL 2 ST ?_
      refine zu 5 ?_
      refine zL 6 ST ?_
      refine zu 7 ?_
      refine zL 8 ST ?_
      refine zu 9 ?_
      refine zL 11 ST ?_
      refine zu 13 ?_
      refine zu 14 ?_
      refine zL 15 ST ?_
      refine zL 18 ST ?_
      refine zu 20 ?_
      refine zL 21 ST ?_
      refine zu 22 ?_
      refine zL 23 ST ?_
      refine zu 24 ?_
      refine zL 26 ST ?_
      refine zu 28 ?_
      refine zu 29 ?_
      refine zL 30 ST ?_
      refine zL 33 ST ?_
      refine zu 35 ?_
      refine zL 36 ST ?_
      refine zu 37 ?_
      refine zL 38 ST ?_
      refine zu 39 ?_
      refine zG 40 ST (cSits (wrap64 (1000 * v1)) (wrap64 (lo * v0)) (wrap64 (hi * v0)) HFIT.out) ?_ Tryd.func59
      clear ST HC
      intro v ST HC
      simp only [Rd] at HC
      refine zu 41 ?_
      refine zd ?_
      clear HT_ HW_ HE_ i0 i1 i2 i3 i4 i5 i6 i7 i8 HP HFIT
      go_wp2_with (fail)
      go_roundw
      case rel => exact ⟨j + 1, by omega, by go_num, ⟨fun m hm => by rcases Nat.lt_or_ge m j with h9 | h9; exact HGj.out m h9; rw [show m = j by omega]; exact HF2.out⟩, ST⟩
      case measure => simp [intOf]; omega
    ·have HE : Aside0 (gS b0 b1 l x = true) := ⟨gS_true fun m hm => HGj.out m (by omega)⟩
     have m1 : ¬ (j : Int) < (x.f1.length : Int) := by omega
     clear hlt3 hj
     go_wp2_with (fail)
     go_roundw
     case rel => exact ⟨i + 1, by omega, by go_num, ⟨HSN.out HE.out⟩, St.tail ST⟩
     case measure => simp [intOf]; omega
  ·have l1 : ¬ (i : Int) < (s.length : Int) := by omega
   have HGS : Aside0 (s.all (gS b0 b1 l) = true) := ⟨by rw [← HGi.out, List.take_of_length_le (by omega)]⟩
   clear hlt2 hi HGi
   go_wp2_with (fail)
   go_loopw [8] (fun u wr => ∃ j : Nat, j ≤ p.length ∧ u = .int .i64 j ∧ Aside0 ((p.take j).all (gP b0 b1 l) = true) ∧ Aside0 (St w wr [⟨g2, #[.slice A0 h.length c0, .slice A1 s.length c1, .slice A2 p.length c2, .int .i64 b0, .int .i64 b1], 28, true⟩])) (fun u _ => p.length - (intOf u).toNat)
   case atStart => exact ⟨0, Nat.zero_le _, rfl, ⟨rfl⟩, ST⟩
   case round =>
    clear ST HC
    obtain ⟨j, hj, rfl, HGj, ST⟩ := hrel
    have HC := St.rd ST
    simp only [Rd] at HC
    by_cases hlt5 : j < p.length
    ·have m1 : (j : Int) < (p.length : Int) := by omega
     have m0 : 0 ≤ (j : Int) := by omega
     obtain ⟨ak, rfl, _⟩ := H.out.pair hlt5
     have HMEM := zh (List.getElem_mem hlt5)
     have HSN := zh (fun hg => all_take (gP b0 b1 l) hlt5 HGj.out hg)
     obtain ⟨q, hqq⟩ : ∃ q, q = p[j] := ⟨_, rfl⟩
     rw [← hqq] at HMEM HSN
     obtain ⟨k0, k1, v0, v1, a3, a4, a5, a6, a7, a8, a10⟩ := pair_at HN.out HH.out HMEM.out
     obtain ⟨al, rfl, z1⟩ := int_at HBC.out a5
     clear z1
     have HP : Aside0 (∀ w_, Below w.heap.size w w_ → w_.cell? (al.add k0) = some (.int .i64 v0) ∧ w_.cell? (al.add k1) = some (.int .i64 v1) ∧ w_.cell? (ak.add (j * 2)) = some (.int .i64 k0) ∧ w_.cell? ⟨(ak.add (j * 2)).block, (ak.add (j * 2)).off + 1, none⟩ = some (.int .i64 k1)) := ⟨fun W hW => ⟨el_at (Kd.C_below HBC.out hW) a5 a7, el_at (Kd.C_below HBC.out hW) a6 a8, by obtain ⟨ad', e, h9⟩ := (H.out.below hW).pair hlt5; injection e with e; subst e; rw [← hqq, a3, a4] at h9; exact h9⟩⟩
     have i0 : 0 ≤ (k0 : Int) := by omega
     have i1 : (k0 : Int) < (l.length : Int) := by omega
     have i2 : 0 ≤ (k1 : Int) := by omega
     have i3 : (k1 : Int) < (l.length : Int) := by omega
     clear a3 a4 a5 a6 a7 a8 hqq
     cases hfit : gP b0 b1 l q with
     | false =>
      have HFIT := zh (a10.trans hfit)
      have HF2 := zh hfit
      clear a10 hfit
      go_upto_region 13 with (fail)
      refine zI (E := fun w_ => w_.cell? (al.add k0) = some (.int .i64 v0) ∧ w_.cell? (al.add k1) = some (.int .i64 v1) ∧ w_.cell? (ak.add (j * 2)) = some (.int .i64 k0) ∧ w_.cell? ⟨(ak.add (j * 2)).block, (ak.add (j * 2)).off + 1, none⟩ = some (.int .i64 k1)) (n := 23) (ds := []) ST (fun W hW => HP.out W hW) r43.tab13 r43.bits13 ?_
      clear ST HC
      intro v ST HC HT_ HW_ HE_
      simp only [Rd] at HC
      refine zu 0 ?_
      refine zu 2 ?_
      refine zu 3 ?_
      refine zu 5 ?_
      refine zu 11 ?_
      refine zu 12 ?_
      refine zu 14 ?_
      refine zL 1 ST ?_
      refine zL 4 ST ?_
      refine zu 6 ?_
      refine zu 7 ?_
      refine zL 8 ST ?_
      refine zu 9 ?_
      refine zL 10 ST ?_
      refine zL 13 ST ?_
      refine zu 15 ?_
      refine zu 16 ?_
      refine zL 17 ST ?_
      refine zu 18 ?_
      refine zL 19 ST ?_
      refine zu 20 ?_
      refine zG 21 ST (cBears b0 b1 (wrap64 (v1 - v0)) HFIT.out) ?_ Tryd.func40
      clear ST HC
      intro v ST HC
      simp only [Rd] at HC
      refine zu 22 ?_
      refine zd ?_
      clear HT_ HW_ HE_
      go_wp2_with (fail)
      go_ret
      exact ⟨by rw [← HR.out, List.all_eq_false.2 ⟨q, HMEM.out, by rw [HF2.out]; exact Bool.false_ne_true⟩, Bool.and_false]; rfl, ST.out.below⟩
     | true =>
      have HFIT := zh (a10.trans hfit)
      have HF2 := zh hfit
      clear a10 hfit
      go_upto_region 13 with (fail)
      refine zI (E := fun w_ => w_.cell? (al.add k0) = some (.int .i64 v0) ∧ w_.cell? (al.add k1) = some (.int .i64 v1) ∧ w_.cell? (ak.add (j * 2)) = some (.int .i64 k0) ∧ w_.cell? ⟨(ak.add (j * 2)).block, (ak.add (j * 2)).off + 1, none⟩ = some (.int .i64 k1)) (n := 23) (ds := []) ST (fun W hW => HP.out W hW) r43.tab13 r43.bits13 ?_
      clear ST HC
      intro v ST HC HT_ HW_ HE_
      simp only [Rd] at HC
      refine zu 0 ?_
      refine zu 2 ?_
      refine zu 3 ?_
      refine zu 5 ?_
      refine zu 11 ?_
      refine zu 12 ?_
      refine zu 14 ?_
      refine zL 1 ST ?_
      refine zL 4 ST ?_
      refine zu 6 ?_
      refine zu 7 ?_
      refine zL 8 ST ?_
      refine zu 9 ?_
      refine zL 10 ST ?_
      refine zL 13 ST ?_
      refine zu 15 ?_
      refine zu 16 ?_
      refine zL 17 ST ?_
      refine zu 18 ?_
      refine zL 19 ST ?_
      refine zu 20 ?_
      refine zG 21 ST (cBears b0 b1 (wrap64 (v1 - v0)) HFIT.out) ?_ Tryd.func40
      clear ST HC
      intro v ST HC
      simp only [Rd] at HC
      refine zu 22 ?_
      refine zd ?_
      clear HT_ HW_ HE_
      go_wp2_with (fail)
      go_roundw
      case rel => exact ⟨j + 1, by omega, by go_num, ⟨HSN.out HF2.out⟩, ST⟩
      case measure => simp [intOf]; omega
    ·have m1 : ¬ (j : Int) < (p.length : Int) := by omega
     have HGP : Aside0 (p.all (gP b0 b1 l) = true) := ⟨by rw [← HGj.out, List.take_of_length_le (by omega)]⟩
     clear hlt5 hj HGj
     go_wp2_with (fail)
     go_ret
     exact ⟨by rw [← HR.out, HGS.out, HGP.out]; rfl, ST.out.below⟩
end
end Go.Proofs.YtgehkojccmkggaaDoor.K
end
section
namespace Go.Proofs.YtgehkojccmkggaaDoor.H
open Go.RowKit Go.Proofs.YtgehkojccmkggaaDoorW.PrintWords Go.Proofs.YtgehkojccmkggaaDoorW.PrintLast Go.Proofs.YtgehkojccmkggaaDoorW.PrintMore
attribute [local go_sem] max2_int min2_int max_two min_two max_three min_three max_four min_four   -- for this text's walks alone
set_option linter.unusedVariables false
set_option linter.unusedSimpArgs false
end Go.Proofs.YtgehkojccmkggaaDoor.H
end
section
namespace Go.Proofs.YtgehkojccmkggaaDoor.K
open Go.RowKit Go.Shelf Go.Proofs.YtgehkojccmkggaaDoorW.PrintWords Go.Proofs.YtgehkojccmkggaaDoorW.PrintLast Go.Proofs.YtgehkojccmkggaaDoorW.PrintMore Go.Proofs.YtgehkojccmkggaaDoor.H Tune
set_option linter.unusedVariables false
set_option linter.unusedSimpArgs false
attribute [local go_sem] Oper.semAt_some
section
variable {P : Program} {ops : Array Oper} {rest : List Oper} {o : Oper} {a : Act} {Q : Exit → Act → World → Prop} {w0 w : World} {L : List Bk} {R : List Rw} {I : World → Prop}
theorem yF (S : Aside0 (Sx w0 w L R I)) {cs : Array Value} {t : TypeId} {F : Nat → Value} (h : ∀ g w1, Aside0 (Sx w0 w1 (⟨g, cs, t, true⟩ :: L) R I) → Rd w1 (⟨g, cs, t, true⟩ :: L) → wpList P ops Q rest (a.put o.dst (F g)) w1)
  (hgd : o.guard = none := by rfl) (hrun : (execOp a.eval o).run P w = .ok (.value (F w.heap.size)) (w.alloc (.cells cs t (0, 0))) := by first | (go_simp; done) | (go_simp; rfl)) : wpList P ops Q (o :: rest) a w :=
 Kd.event_run hgd hrun (h _ _ (Sx.alloc S cs t) (Sx.rd (Sx.alloc S cs t)))
end
section
variable {A0 : Option Addr} {c0 : Nat} {h : List S26} {A1 : Option Addr} {c1 : Nat} {s : List S61} {A2 : Option Addr} {c2 : Nat} {p : List S48} {w : World} {b0 b1 : Int}
theorem cTuned (X : At A0 c0 h A1 c1 s A2 c2 p w) (N : Neat h s p b0 b1) {B : Option Addr} {d : Nat} {l : List Int} (hl : Heard h.length l) (hB : Kd.C (Kd.int .i64) w B l.length l) (hd : l.length ≤ d) : Calls Tryd.prog 43 #[.agg (sc A0 c0 h A1 c1 s A2 c2 p b0 b1), .slice B l.length d] w fun e w' => e = .returned (.bool ((jsOf h s p b0 b1).all (fitJ (b0, b1) l))) ∧ Below w.heap.size w w' := by
 exact tuned_w ⟨X⟩ N hl hB hd ⟨tuned_all N⟩
end
end Go.Proofs.YtgehkojccmkggaaDoor.K
end
section
namespace Go.Proofs.YtgehkojccmkggaaDoor.K
open Go.RowKit Go.Shelf Go.Proofs.YtgehkojccmkggaaDoorW.PrintWords Go.Proofs.YtgehkojccmkggaaDoorW.PrintLast Go.Proofs.YtgehkojccmkggaaDoorW.PrintMore Go.Proofs.YtgehkojccmkggaaDoor.H Tune
set_option linter.unusedVariables false
set_option linter.unusedSimpArgs false
attribute [local go_sem] Oper.semAt_some
attribute [local go_sem high] eqA26
attribute [local go_sem] max2_int min2_int max_two min_two
def r36.T6 : Bool × List (List Nat × List Nat) := (true, [([], []), ([0], [0]), ([], []), ([1, 2], [1, 2]), ([3], [3]), ([4], [4]), ([5, 5], [5]), ([6], [6]), ([7, 6], [6, 7]), ([6], [6]), ([8, 9, 6], [6, 8, 9]), ([10, 6], [6, 10]), ([11, 6], [6, 11]), ([6], [6]), ([13, 6], [6, 13]), ([6], [6]), ([14, 15, 6], [6, 14, 15]), ([16, 6], [6, 16]), ([17, 6], [6, 17]), ([12, 18, 6], [6, 12, 18]), ([19, 6], [6, 19]), ([6, 20], [6, 20]), ([21, 6, 0, 1, 2, 3, 4, 5, 6, 7, 8, 9, 10, 11, 12, 13, 14, 15, 16, 17, 18, 19, 20, 21], [21])])
def r36.B6 : List Nat := [0, 1, 0, 7, 15, 31, 63, 127, 255, 127, 1023, 2047, 4095, 127, 8319, 127, 57471, 123007, 254079, 524287, 1048575, 2097151, 4194303]
theorem r36.tab6 : rtab .any (opsOf Tryd.f36 6) = r36.T6 := by kernel_rfl
theorem r36.bits6 : waitsOk r36.T6.2 r36.B6 = true := by kernel_rfl
section
variable {A0 : Option Addr} {c0 : Nat} {h : List S26} {A1 : Option Addr} {c1 : Nat} {s : List S61} {A2 : Option Addr} {c2 : Nat} {p : List S48} {w : World} {b0 b1 : Int} (H : Aside0 (At A0 c0 h A1 c1 s A2 c2 p w))
include H
set_option maxRecDepth 100000 in
set_option maxHeartbeats 4000000 in
theorem sound_no (HK : Aside0 (checkT h s p b0 b1 = 10)) :
  Calls Tryd.prog 36 #[.agg #[.slice A0 h.length c0, .slice A1 s.length c1, .slice A2 p.length c2, .int .i64 b0, .int .i64 b1]] w fun e w' => e = .returned (.bool false) ∧ Below w.heap.size w w' := by
 have ST := St.start w
 have HC : True := trivial
 go_enter Tryd.func36, Tryd.ntmps36
 go_wp2_with (first | ((with_reducible refine gate_dst (N := 1) rfl ?_); refine evA ST (N := 1) (cs := #[.slice A0 h.length c0, .slice A1 s.length c1, .slice A2 p.length c2, .int .i64 b0, .int .i64 b1]) (t := 28) ?_; clear ST HC; intro g1 v ST HC; simp only [Rd] at HC) | ((with_reducible refine gate_dst (N := 14) rfl ?_); refine evC ST (N := some 14) (cCheck H HK) ?_ Tryd.func18; clear ST HC; intro v ST HC; simp only [Rd] at HC))
 go_loopw [4] (fun u4 wr => u4 = .bool false ∧ Aside0 (St w wr [⟨g1, #[.slice A0 h.length c0, .slice A1 s.length c1, .slice A2 p.length c2, .int .i64 b0, .int .i64 b1], 28, true⟩])) (fun _ _ => 0)
 case atStart => exact ⟨rfl, ST⟩
 case round =>
  clear ST HC
  obtain ⟨rfl, ST⟩ := hrel
  have HC := St.rd ST
  simp only [Rd] at HC
  go_wp2
  go_loopw [4] (fun u4 wr => u4 = .bool false ∧ Aside0 (St w wr [⟨g1, #[.slice A0 h.length c0, .slice A1 s.length c1, .slice A2 p.length c2, .int .i64 b0, .int .i64 b1], 28, true⟩])) (fun _ _ => 0)
  case atStart => exact ⟨rfl, ST⟩
  case round =>
   clear ST HC
   obtain ⟨rfl, ST⟩ := hrel
   have HC := St.rd ST
   simp only [Rd] at HC
   go_wp2
   go_loopw [4] (fun u4 wr => u4 = .bool false ∧ Aside0 (St w wr [⟨g1, #[.slice A0 h.length c0, .slice A1 s.length c1, .slice A2 p.length c2, .int .i64 b0, .int .i64 b1], 28, true⟩])) (fun _ _ => 0)
   case atStart => exact ⟨rfl, ST⟩
   case round =>
    clear ST HC
    obtain ⟨rfl, ST⟩ := hrel
    have HC := St.rd ST
    simp only [Rd] at HC
    go_wp2
    go_ret
    exact ⟨rfl, ST.out.below⟩
set_option maxRecDepth 100000 in
set_option maxHeartbeats 4000000 in
theorem sound_yes (N : Neat h s p b0 b1) (HK : Aside0 (checkT h s p b0 b1 = 0)) :
  Calls Tryd.prog 36 #[.agg #[.slice A0 h.length c0, .slice A1 s.length c1, .slice A2 p.length c2, .int .i64 b0, .int .i64 b1]] w fun e w' => e = .returned (.bool true) ∧ Below w.heap.size w w' := by
 have hn := N.few
 have hs2 := N.scales
 have hp4 := N.pairs
 have HN := zh N
 clear N
 have ST := St.start w
 have HC : True := trivial
 have i1 : (1 : Int) ≤ (h.length : Int) := by omega
 have i8 : (h.length : Int) ≤ 8 := by omega
 have i2 : (s.length : Int) ≤ 2 := by omega
 have i4 : (p.length : Int) ≤ 4 := by omega
 go_enter Tryd.func36, Tryd.ntmps36
 go_wp2_with (first | ((with_reducible refine gate_dst (N := 1) rfl ?_); refine evA ST (N := 1) (cs := #[.slice A0 h.length c0, .slice A1 s.length c1, .slice A2 p.length c2, .int .i64 b0, .int .i64 b1]) (t := 28) ?_; clear ST HC; intro g1 v ST HC; simp only [Rd] at HC) | ((with_reducible refine gate_dst (N := 14) rfl ?_); refine evC ST (N := some 14) (cCheck H HK) ?_ Tryd.func18; clear ST HC; intro v ST HC; simp only [Rd] at HC) | ((with_reducible refine gate_dst (N := 18) rfl ?_); refine gate_guard (by rfl) ?_; refine evC ST (N := some 18) (cSits (r := true) (h.length : Int) 1 8 (by rw [decide_eq_true i1, decide_eq_true i8]; rfl)) ?_ Tryd.func59; clear ST HC; intro v ST HC; simp only [Rd] at HC) | ((with_reducible refine gate_dst (N := 35) rfl ?_); refine gate_guard (by rfl) ?_; refine evC ST (N := some 35) (cGood b0 b1 0 60 HN.out.beat) ?_ Tryd.func46; clear ST HC; intro v ST HC; simp only [Rd] at HC))
 go_loopw [4, 5] (fun u4 u wr => ∃ k : Nat, k ≤ h.length ∧ u4 = .bool true ∧ u = .int .i64 k ∧ Aside0 (St w wr [⟨g1, #[.slice A0 h.length c0, .slice A1 s.length c1, .slice A2 p.length c2, .int .i64 b0, .int .i64 b1], 28, true⟩])) (fun _ u _ => h.length - (intOf u).toNat)
 case atStart => exact ⟨0, Nat.zero_le _, rfl, rfl, ST⟩
 case round =>
  clear ST HC
  obtain ⟨k, hkk, rfl, rfl, ST⟩ := hrel
  have HC := St.rd ST
  simp only [Rd] at HC
  by_cases hlt : k < h.length
  ·have l1 : (k : Int) < (h.length : Int) := by omega
   have l0 : 0 ≤ (k : Int) := by omega
   obtain ⟨ad, rfl, _⟩ := H.out.key hlt
   have hok := HN.out.heard _ (List.getElem_mem hlt)
   have elo : loH h k = h[k].f0 := by unfold loH; simp [List.getD_eq_getElem?_getD, hlt]
   have ehi : hiH h k = h[k].f1 := by unfold hiH; simp [List.getD_eq_getElem?_getD, hlt]
   unfold okHeard okSpan at hok
   simp only [Bool.and_eq_true, decide_eq_true_eq] at hok
   rw [← elo, ← ehi] at hok
   clear elo ehi
   have HG := zh (span_okZ hok.1.1 hok.1.2.1 hok.1.2.2 : okSpan ⟨loH h k, hiH h k⟩ 1 4000 = true)
   have hd : decide (wrap64 (hiH h k - loH h k) ≤ 40) = true := by rw [w64 (by omega) (by omega)]; exact decide_eq_true hok.2
   clear hok
   go_upto_region 6 with (fail)
   refine zI (E := fun w_ => w_.cell? (ad.add (k * 2)) = some (.int .i64 (loH h k)) ∧ w_.cell? ⟨(ad.add (k * 2)).block, (ad.add (k * 2)).off + 1, none⟩ = some (.int .i64 (hiH h k))) (n := 23) (ds := []) ST (fun W hW => by obtain ⟨ad', e, h9⟩ := (H.out.below hW).key hlt; injection e with e; subst e; exact h9) r36.tab6 r36.bits6 ?_
   clear ST HC
   intro v ST HC HT_ HW_ HE_
   simp only [Rd] at HC
   refine zu 0 ?_
   refine zu 2 ?_
   refine zL 1 ST ?_
   refine zu 3 ?_
   refine zL 4 ST ?_
   refine zG 5 ST (cGood (loH h k) (hiH h k) 1 4000 HG.out) ?_ Tryd.func46
   clear ST HC
   intro v ST HC
   simp only [Rd] at HC
   refine zu 6 ?_
   refine zu 7 ?_
   refine zu 9 ?_
   refine zu 13 ?_
   refine zu 15 ?_
   refine zL 8 ST ?_
   refine zu 10 ?_
   refine zu 11 ?_
   refine zL 12 ST ?_
   refine zL 14 ST ?_
   refine zu 16 ?_
   refine zu 17 ?_
   refine zL 18 ST ?_
   refine zu 19 ?_
   refine zu 20 ?_
   refine zu 21 ?_
   refine zu 22 ?_
   refine zd ?_
   clear HT_ HW_ HE_
   go_wp2_with (fail)
   go_roundw
   case rel => exact ⟨k + 1, by omega, rfl, by go_num, ST⟩
   case measure => simp [intOf]; omega
  ·obtain rfl : k = h.length := by omega
   go_wp2_with (fail)
   go_loopw [4, 6] (fun u4 u wr => ∃ k : Nat, k ≤ s.length ∧ u4 = .bool true ∧ u = .int .i64 k ∧ Aside0 (St w wr [⟨g1, #[.slice A0 h.length c0, .slice A1 s.length c1, .slice A2 p.length c2, .int .i64 b0, .int .i64 b1], 28, true⟩])) (fun _ u _ => s.length - (intOf u).toNat)
   case atStart => exact ⟨0, Nat.zero_le _, rfl, rfl, ST⟩
   case round =>
    clear ST HC
    obtain ⟨i, hki, rfl, rfl, ST⟩ := hrel
    have HC := St.rd ST
    simp only [Rd] at HC
    by_cases hlt2 : i < s.length
    ·have l1 : (i : Int) < (s.length : Int) := by omega
     have l0 : 0 ≤ (i : Int) := by omega
     obtain ⟨ad, B0, e0, B1, e1, rfl, y0, y1, n0, K0, n1, K1⟩ := H.out.scale hlt2
     obtain ⟨x, hx⟩ : ∃ x, x = s[i] := ⟨_, rfl⟩
     obtain ⟨z1, z2, z3, z4, z5⟩ := HN.out.scale _ (List.getElem_mem hlt2)
     rw [← hx] at y0 y1 n0 n1 K0 K1 z1 z2 z3 z4 z5
     clear hx
     replace y0 := ST.out.below.cell (World.block_lt_of_cell? w _ y0) |>.trans y0
     replace y1 := ST.out.below.cell (World.block_lt_of_cell? w _ y1) |>.trans y1
     have Z4 := zh z4
     have Z5 := zh z5
     have HK0 := zh K0
     have HK1 := zh K1
     clear z4 z5 K0 K1
     have q1 : ((x.f0.length : Int) ≤ (h.length : Int)) := by omega
     have q2 : (((x.f1.length : Int) + 1) == (x.f0.length : Int)) = true := beq_iff_eq.2 (by omega)
     have q3 : (x.f1.length : Int) ≤ 8 := by omega
     have Z3 := zh z3
     clear z3
     go_wp2_with (first | ((with_reducible refine gate_dst (N := 7) rfl ?_); refine evA ST (N := 7) (cs := #[.slice none 0 0, .slice none 0 0]) (t := 61) ?_; clear ST HC; intro g7 v ST HC; simp only [Rd] at HC) | ((with_reducible refine gate_store (p := 7) (v := (.tmp 81)) rfl ?_); refine evS (L' := [⟨g7, #[.slice B0 x.f0.length e0, .slice B1 x.f1.length e1], 61, true⟩, ⟨g1, #[.slice A0 h.length c0, .slice (some ad) s.length c1, .slice A2 p.length c2, .int .i64 b0, .int .i64 b1], 28, true⟩]) ST (fun S => St.put (St.put S 0 (0) (.slice B0 x.f0.length e0) rfl) 0 (1) (.slice B1 x.f1.length e1) rfl) ?_; clear ST HC; intro v ST HC; simp only [Rd] at HC))
     clear y0 y1
     go_loopw [4, 8] (fun u4 u wr => ∃ k : Nat, k ≤ x.f0.length ∧ u4 = .bool true ∧ u = .int .i64 k ∧ Aside0 (St w wr [⟨g7, #[.slice B0 x.f0.length e0, .slice B1 x.f1.length e1], 61, true⟩, ⟨g1, #[.slice A0 h.length c0, .slice (some ad) s.length c1, .slice A2 p.length c2, .int .i64 b0, .int .i64 b1], 28, true⟩])) (fun _ u _ => x.f0.length - (intOf u).toNat)
     case atStart => exact ⟨0, Nat.zero_le _, rfl, rfl, ST⟩
     case round =>
      clear ST HC
      obtain ⟨j, hkj, rfl, rfl, ST⟩ := hrel
      have HC := St.rd ST
      simp only [Rd] at HC
      by_cases hlt3 : j < x.f0.length
      ·have m1 : (j : Int) < (x.f0.length : Int) := by omega
       have m0 : 0 ≤ (j : Int) := by omega
       obtain ⟨ak, rfl, xk⟩ := int_at (Kd.C_below HK0.out ST.out.below) hlt3
       have hin := Z4.out _ (List.getElem_mem hlt3)
       unfold inK at hin
       have HIN := zh hin
       clear hin
       obtain ⟨key, hkey⟩ : ∃ key, key = x.f0[j] := ⟨_, rfl⟩
       rw [← hkey] at xk HIN
       clear hkey
       by_cases hj0 : j = 0
       ·have v0 : ((j : Int) == 0) = true := beq_iff_eq.2 (by omega)
        clear hj0
        go_wp2_with (first | ((with_reducible refine gate_dst (N := 114) rfl ?_); refine evC ST (N := some 114) (cSits key 0 ((h.length : Int) - 1) HIN.out) ?_ Tryd.func59; clear ST HC; intro v ST HC; simp only [Rd] at HC))
        go_roundw
        case rel => exact ⟨j + 1, by omega, rfl, by go_num, ST⟩
        case measure => simp [intOf]; omega
       ·have hlt4 : j - 1 < x.f1.length := by have := Z3.out; omega
        obtain ⟨ad2, rfl, _⟩ := span_at HK1.out hlt4
        have hsp := Z5.out _ (List.getElem_mem hlt4)
        unfold okSpan at hsp
        simp only [Bool.and_eq_true, decide_eq_true_eq] at hsp
        obtain ⟨st, hst⟩ : ∃ st, st = x.f1[j - 1] := ⟨_, rfl⟩
        rw [← hst] at hsp
        have HP : Aside0 (∀ W, Below w.heap.size w W → W.cell? (ad2.add ((j - 1) * 2)) = some (.int .i64 st.f0) ∧ W.cell? ⟨(ad2.add ((j - 1) * 2)).block, (ad2.add ((j - 1) * 2)).off + 1, none⟩ = some (.int .i64 st.f1)) := ⟨fun W hW => by obtain ⟨ad', e, h9⟩ := span_at (Kd.C_below HK1.out hW) hlt4; injection e with e; subst e; rw [hst]; exact h9⟩
        clear hst
        have HG := zh (span_okZ (by omega) hsp.2.1 hsp.2.2 : okSpan ⟨st.f0, st.f1⟩ 1 5000 = true)
        clear hsp
        have v0 : ((j : Int) == 0) = false := beq_eq_false_iff_ne.2 (by omega)
        have v1 : (j : Int) - 1 < (x.f1.length : Int) := by omega
        have v2 : 0 ≤ (j : Int) - 1 := by omega
        have v3 : ((j : Int) - 1).toNat = j - 1 := by omega
        have v4 : (j : Int) ≤ 8 := by omega
        go_wp2_with (first | ((with_reducible refine gate_dst (N := 114) rfl ?_); refine evC ST (N := some 114) (cSits key 0 ((h.length : Int) - 1) HIN.out) ?_ Tryd.func59; clear ST HC xk; intro v ST HC; simp only [Rd] at HC; obtain ⟨u0, u1⟩ := HP.out _ ST.out.below) | ((with_reducible refine gate_dst (N := 125) rfl ?_); refine gate_guard (by rfl) ?_; refine evC ST (N := some 125) (cGood st.f0 st.f1 1 5000 HG.out) ?_ Tryd.func46; clear ST HC; intro v ST HC; simp only [Rd] at HC))
        clear v3
        go_roundw
        case rel => exact ⟨j + 1, by omega, rfl, by go_num, ST⟩
        case measure => simp [intOf]; omega
      ·obtain rfl : j = x.f0.length := by omega
       go_wp2_with (fail)
       go_roundw
       case rel => exact ⟨i + 1, by omega, rfl, by go_num, St.tail ST⟩
       case measure => simp [intOf]; omega
    ·obtain rfl : i = s.length := by omega
     go_wp2_with (fail)
     go_loopw [4, 9] (fun u4 u wr => ∃ k : Nat, k ≤ p.length ∧ u4 = .bool true ∧ u = .int .i64 k ∧ Aside0 (St w wr [⟨g1, #[.slice A0 h.length c0, .slice A1 s.length c1, .slice A2 p.length c2, .int .i64 b0, .int .i64 b1], 28, true⟩])) (fun _ u _ => p.length - (intOf u).toNat)
     case atStart => exact ⟨0, Nat.zero_le _, rfl, rfl, ST⟩
     case round =>
      clear ST HC
      obtain ⟨j, hkj, rfl, rfl, ST⟩ := hrel
      have HC := St.rd ST
      simp only [Rd] at HC
      by_cases hlt5 : j < p.length
      ·have m1 : (j : Int) < (p.length : Int) := by omega
       have m0 : 0 ≤ (j : Int) := by omega
       obtain ⟨ak, rfl, _⟩ := H.out.pair hlt5
       have hq := HN.out.pair _ (List.getElem_mem hlt5)
       unfold inK at hq
       obtain ⟨q, hqq⟩ : ∃ q, q = p[j] := ⟨_, rfl⟩
       have HP : Aside0 (∀ W, Below w.heap.size w W → W.cell? (ak.add (j * 2)) = some (.int .i64 q.f0) ∧ W.cell? ⟨(ak.add (j * 2)).block, (ak.add (j * 2)).off + 1, none⟩ = some (.int .i64 q.f1)) := ⟨fun W hW => by obtain ⟨ad', e, h9⟩ := (H.out.below hW).pair hlt5; injection e with e; subst e; rw [hqq]; exact h9⟩
       rw [← hqq] at hq
       have HQ := zh hq
       clear hq hqq
       obtain ⟨u0, u1⟩ := HP.out _ ST.out.below
       go_wp2_with (first | ((with_reducible refine gate_dst (N := 146) rfl ?_); refine evC ST (N := some 146) (cSits q.f0 0 ((h.length : Int) - 1) HQ.out.1) ?_ Tryd.func59; clear ST HC u0 u1; intro v ST HC; simp only [Rd] at HC; obtain ⟨u0, u1⟩ := HP.out _ ST.out.below) | ((with_reducible refine gate_dst (N := 156) rfl ?_); refine gate_guard (by rfl) ?_; refine evC ST (N := some 156) (cSits q.f1 0 ((h.length : Int) - 1) HQ.out.2) ?_ Tryd.func59; clear ST HC; intro v ST HC; simp only [Rd] at HC))
       go_roundw
       case rel => exact ⟨j + 1, by omega, rfl, by go_num, ST⟩
       case measure => simp [intOf]; omega
      ·obtain rfl : j = p.length := by omega
       go_wp2_with (fail)
       go_ret
       exact ⟨rfl, ST.out.below⟩
end
end Go.Proofs.YtgehkojccmkggaaDoor.K
end
section
namespace Go.Proofs.YtgehkojccmkggaaDoor.K
open Go.RowKit Go.Shelf Go.Proofs.YtgehkojccmkggaaDoorW.PrintWords Go.Proofs.YtgehkojccmkggaaDoorW.PrintLast Go.Proofs.YtgehkojccmkggaaDoorW.PrintMore Go.Proofs.YtgehkojccmkggaaDoor.H Tune
set_option linter.unusedVariables false
set_option linter.unusedSimpArgs false
attribute [local go_sem] Oper.semAt_some
def Row26 (cur : Array Value) (l : List S26) : Prop := ∀ i, i < l.length → cur[i * 2]? = some (.int .i64 (l.getD i z26).f0) ∧ cur[i * 2 + 1]? = some (.int .i64 (l.getD i z26).f1)
theorem Row26.set {cur : Array Value} {l : List S26} (h : Row26 cur l) (k : Nat) (a b : Int) (hk : k < l.length) : Row26 ((cur.setIfInBounds (k * 2) (.int .i64 a)).setIfInBounds (k * 2 + 1) (.int .i64 b)) (l.set k ⟨a, b⟩) := by
 intro i hi
 rw [List.length_set] at hi
 obtain ⟨h1, h2⟩ := h i hi
 obtain ⟨l1, e1⟩ := Array.getElem?_eq_some_iff.1 h1
 obtain ⟨l2, e2⟩ := Array.getElem?_eq_some_iff.1 h2
 by_cases e : i = k
 ·subst e
  have e3 : (l.set i ⟨a, b⟩).getD i z26 = ⟨a, b⟩ := by simp [List.getD_eq_getElem?_getD, hk]
  rw [e3]
  constructor
  ·rw [Array.getElem?_setIfInBounds, if_neg (by omega), Array.getElem?_setIfInBounds, if_pos rfl, if_pos l1]
  ·rw [Array.getElem?_setIfInBounds, if_pos rfl, if_pos (by rw [Array.size_setIfInBounds]; exact l2)]
 ·have e3 : (l.set k ⟨a, b⟩).getD i z26 = l.getD i z26 := by simp [List.getD_eq_getElem?_getD, List.getElem?_set, Ne.symm e]
  rw [e3]
  constructor
  ·rw [Array.getElem?_setIfInBounds, if_neg (by omega), Array.getElem?_setIfInBounds, if_neg (by omega)]; exact h1
  ·rw [Array.getElem?_setIfInBounds, if_neg (by omega), Array.getElem?_setIfInBounds, if_neg (by omega)]; exact h2
theorem C26_of_row {w : World} {g : Nat} {t : TypeId} {cur : Array Value} {l : List S26} (hb : w.heap[g]? = some (.cells cur t (0, 0))) (h : Row26 cur l) (hn : l.length ≤ 4000000) : Kd.C k26 w (some ⟨g, 0, none⟩) l.length l := by
 refine ⟨rfl, by omega, fun _ => ⟨_, rfl, fun j p hj => ?_⟩⟩
 obtain ⟨hlt, hp⟩ := List.getElem?_eq_some_iff.1 hj
 have e : l.getD j z26 = p := by simp [List.getD_eq_getElem?_getD, hlt, hp]
 obtain ⟨h1, h2⟩ := h j hlt
 rw [e] at h1 h2
 refine ⟨[.int .i64 p.f0, .int .i64 p.f1], rfl, k26_mk w p, fun i u hu => ?_⟩
 have hs : k26.sz = 2 := rfl
 rw [hs, Addr.add_lit, blk_cell hb]
 match i, hu with
 | 0, hu => injection hu with hu; subst hu; rw [show 0 + (j * 2 + 0) = j * 2 by omega]; exact h1
 | 1, hu => injection hu with hu; subst hu; rw [show 0 + (j * 2 + 1) = j * 2 + 1 by omega]; exact h2
section
variable {ops : Array Oper} {rest : List Oper} {o : Oper} {a : Act} {Q : Exit → Act → World → Prop} {w0 w : World} {L : List Bk}
theorem evLit (S : Aside0 (St w0 w L)) {e : TypeId} (h : ∀ g w1, Aside0 (St w0 w1 (⟨g, #[], e, true⟩ :: L)) → Rd w1 (⟨g, #[], e, true⟩ :: L) → wpList Tryd.prog ops Q rest (a.put o.dst (.slice (some ⟨g, 0, none⟩) 0 0)) w1)
  (hgd : o.guard = none := by rfl) (hrun : (execOp a.eval o).run Tryd.prog w = .ok (.value (.slice (some ⟨w.heap.size, 0, none⟩) 0 0)) (w.alloc (.cells #[] e (0, 0))) := by first | (go_simp; done) | (go_simp; rfl)) : wpList Tryd.prog ops Q (o :: rest) a w :=
 Kd.event_run hgd hrun (h _ _ (St.alloc S #[] e) (St.rd (St.alloc S #[] e)))
theorem evCopy {ge : Nat} (S : Aside0 (St w0 w (⟨ge, #[], 26, true⟩ :: L))) {A : Option Addr} {c : Nat} {l : List S26} (hC : Kd.C k26 w A l.length l) (hl : 0 < l.length ∧ l.length ≤ 8)
  (h : ∀ g cap cur w1, Row26 cur l → l.length ≤ cap → Aside0 (St w0 w1 (⟨g, cur, 26, true⟩ :: L)) → Rd w1 (⟨g, cur, 26, true⟩ :: L) → wpList Tryd.prog ops Q rest (a.put o.dst (.slice (some ⟨g, 0, none⟩) l.length cap)) w1)
  {s x : Operand} (ho : o.op = .call { callee := .builtin .append, args := #[s, x], argTypes := #[22, 22] } := by rfl) (hgd : o.guard = none := by rfl) (hs : a.eval s = .slice (some ⟨ge, 0, none⟩) 0 0 := by rfl) (hx : a.eval x = .slice A l.length c := by rfl) : wpList Tryd.prog ops Q (o :: rest) a w := by
 have S0 := S.out
 have hge := S0.blks.1
 have hown := S0.own _ (List.mem_cons_self ..) rfl
 refine Kd.R_append_rows k26 (w0 := w0) (Rr := k26.K w) w0.heap.size hgd s x 22 26 (.agg #[.int .i64 0, .int .i64 0]) 16 ho Tryd.underlying22 info26 rfl (by decide) (by omega) _ [] l A _ _ (fun _ => True) (fun _ => False) hs hx
  ⟨fun _ _ => trivial, [], ⟨rfl, .inr ⟨ge, 0, #[], rfl, hown, hge, Nat.le_refl _, Nat.zero_le _, rfl, rfl⟩⟩, Reps.none _ _⟩ hC (fun x cs hx => by rw [k26_open hx]; exact k26_mkM _ _ _ _) (fun _ h => h.elim) (fun _ _ => trivial) S0.below S0.below.size (by simp; omega) ?_
 intro v1 w1 hR hb hg hat
 obtain ⟨_, inner, ⟨hlen, hor⟩, hreps⟩ := hR
 rw [List.nil_append] at hlen hor hreps
 rcases hor with ⟨_, h0⟩ | ⟨g, cap, cur, rfl, hgb, hcur, hnc, hcm, hsz, htake⟩
 ·omega
 have hnew : ∀ y ∈ L, y.g < g := by
  intro y hy
  have h1 := (List.pairwise_cons.1 S0.apart).1 y hy
  have h2 := blk_lt (S0.blks.2.of_mem hy)
  rcases hat with e | ⟨b, e, hbb⟩
  ·have : g = ge := by simpa [Value.ownBlock] using e
   rw [this]; exact h1
  ·have : g = b := by simpa [Value.ownBlock] using e
   omega
 have ST : Aside0 (St w0 w1 (⟨g, cur, 26, true⟩ :: L)) := by
  refine ⟨⟨hb, ⟨hcur, S0.blks.2.map fun y hy hx => blk_grown hx hg ?_⟩, ?_, List.Pairwise.cons hnew (List.pairwise_cons.1 S0.apart).2⟩⟩
  ·have h1 : y.g < ge := (List.pairwise_cons.1 S0.apart).1 y hy
   simp [Value.ownBlock]
   omega
  ·intro y hy e
   rcases List.mem_cons.1 hy with rfl | hy
   ·exact hgb
   ·exact S0.own y (List.mem_cons_of_mem _ hy) e
 refine h g cap cur w1 ?_ hnc ST (St.rd ST)
 intro i hi
 have h1 := hreps.2 i _ (List.getElem?_eq_getElem hi)
 have h2 := k26_openM h1
 have hs2 : k26.sz = 2 := rfl
 rw [hs2] at h2 htake hlen
 have e : l.getD i z26 = l[i] := by simp [List.getD_eq_getElem?_getD, hi]
 rw [e]
 have key : ∀ m (u : Value), m < 2 → ((inner.drop (i * 2)).take 2)[m]? = some u → cur[i * 2 + m]? = some u := by
  intro m u hm hu
  rw [List.getElem?_take, if_pos hm, List.getElem?_drop, ← htake, List.getElem?_take, if_pos (by omega)] at hu
  rw [← Array.getElem?_toList]
  exact hu
 constructor
 ·exact key 0 _ (by omega) (by rw [h2]; rfl)
 ·exact key 1 _ (by omega) (by rw [h2]; rfl)
end
end Go.Proofs.YtgehkojccmkggaaDoor.K
end
section
namespace Go.Proofs.YtgehkojccmkggaaDoor.K
open Go.RowKit Go.Shelf Go.Proofs.YtgehkojccmkggaaDoorW.PrintWords Go.Proofs.YtgehkojccmkggaaDoorW.PrintLast Go.Proofs.YtgehkojccmkggaaDoorW.PrintMore Go.Proofs.YtgehkojccmkggaaDoor.H Tune
set_option linter.unusedVariables false
set_option linter.unusedSimpArgs false
attribute [local go_sem] Oper.semAt_some
attribute [local go_sem high] eqA26
attribute [local go_sem] max2_int min2_int max_two min_two
def r44.T3 : Bool × List (List Nat × List Nat) := (true, [([], []), ([0], [0]), ([], []), ([], []), ([], []), ([3, 4], [3, 4]), ([1, 2, 0, 1, 2, 3, 4, 5], [1, 2]), ([6, 5, 5, 0, 1, 2, 3, 4, 5], [5, 6])])
def r44.B3 : List Nat := [0, 1, 0, 0, 0, 24, 63, 127]
theorem r44.tab3 : rtab .any (opsOf Tryd.f44 3) = r44.T3 := by kernel_rfl
theorem r44.bits3 : waitsOk r44.T3.2 r44.B3 = true := by kernel_rfl
section
variable {A0 : Option Addr} {c0 : Nat} {h : List S26} {A1 : Option Addr} {c1 : Nat} {s : List S61} {A2 : Option Addr} {c2 : Nat} {p : List S48} {w : World} {b0 b1 : Int} (H : Aside0 (At A0 c0 h A1 c1 s A2 c2 p w))
include H
set_option maxRecDepth 100000 in
set_option maxHeartbeats 4000000 in
theorem just_b (k : Nat) (q : Int) (hk : k < h.length) (hn : 0 < h.length ∧ h.length ≤ 8) : Calls Tryd.prog 44 #[.agg #[.slice A0 h.length c0, .slice A1 s.length c1, .slice A2 p.length c2, .int .i64 b0, .int .i64 b1], .int .i64 (k : Int), .int .i64 q] w fun e w' => ∃ v : Nat × Nat × Array Value, e = .returned (.agg (sc (some ⟨v.1, 0, none⟩) v.2.1 (h.set k ⟨q, q⟩) A1 c1 s A2 c2 p b0 b1)) ∧ (w'.heap[v.1]? = some (.cells v.2.2 26 (0, 0)) ∧ w.heap.size ≤ v.1 ∧ Row26 v.2.2 (h.set k ⟨q, q⟩) ∧ h.length ≤ v.2.1) ∧ Below w.heap.size w w' := by
 have ST := St.start w
 have HC : True := trivial
 have hk1 : (k : Int) < (h.length : Int) := by omega
 have hk0 : 0 ≤ (k : Int) := by omega
 go_enter Tryd.func44, Tryd.ntmps44
 go_upto_region 3 with (first | ((with_reducible refine gate_dst (N := 3) rfl ?_); refine evA ST (N := 3) (cs := #[.slice A0 h.length c0, .slice A1 s.length c1, .slice A2 p.length c2, .int .i64 b0, .int .i64 b1]) (t := 28) ?_; clear ST HC; intro g3 w ST HC; simp only [Rd] at HC) | ((with_reducible refine gate_dst (N := 6) rfl ?_); refine evA ST (N := 6) (cs := #[.slice none 0 0, .slice none 0 0, .slice none 0 0, .int .i64 0, .int .i64 0]) (t := 28) ?_; clear ST HC; intro g6 w ST HC; simp only [Rd] at HC) | ((with_reducible refine gate_dst (N := 7) rfl ?_); refine evA ST (N := 7) (cs := #[.slice none 0 0, .slice none 0 0, .slice none 0 0, .int .i64 0, .int .i64 0]) (t := 28) ?_; clear ST HC; intro g7 w ST HC; simp only [Rd] at HC) | ((with_reducible refine gate_store (p := 7) (v := (.tmp 8)) rfl ?_); refine evS (L' := [⟨g7, #[.slice A0 h.length c0, .slice A1 s.length c1, .slice A2 p.length c2, .int .i64 b0, .int .i64 b1], 28, true⟩, ⟨g6, #[.slice none 0 0, .slice none 0 0, .slice none 0 0, .int .i64 0, .int .i64 0], 28, true⟩, ⟨g3, #[.slice A0 h.length c0, .slice A1 s.length c1, .slice A2 p.length c2, .int .i64 b0, .int .i64 b1], 28, true⟩]) ST (fun S => St.put (St.put (St.put (St.put (St.put S 0 (0) (.slice A0 h.length c0) rfl) 0 (1) (.slice A1 s.length c1) rfl) 0 (2) (.slice A2 p.length c2) rfl) 0 (3) (.int .i64 b0) rfl) 0 (4) (.int .i64 b1) rfl) ?_; clear ST HC; intro w ST HC; simp only [Rd] at HC) | ((with_reducible refine gate_dst (N := 9) rfl ?_); refine evLit ST (e := 26) ?_; clear ST HC; intro g9 w ST HC; simp only [Rd] at HC) | ((with_reducible refine gate_dst (N := 12) rfl ?_); refine evCopy ST (Kd.C_below H.out.d0 ST.out.below) hn ?_; clear ST HC; intro g12 cap cur w hrow hcap ST HC; simp only [Rd] at HC; have hq := hrow k hk; have HQ := zh hrow; clear hrow; obtain ⟨hq0, hq1⟩ := hq) | ((with_reducible refine gate_store (p := 13) (v := (.tmp 12)) rfl ?_); refine evS (L' := [⟨g12, cur, 26, true⟩, ⟨g7, #[.slice (some ⟨g12, 0, none⟩) h.length cap, .slice A1 s.length c1, .slice A2 p.length c2, .int .i64 b0, .int .i64 b1], 28, true⟩, ⟨g6, #[.slice none 0 0, .slice none 0 0, .slice none 0 0, .int .i64 0, .int .i64 0], 28, true⟩, ⟨g3, #[.slice A0 h.length c0, .slice A1 s.length c1, .slice A2 p.length c2, .int .i64 b0, .int .i64 b1], 28, true⟩]) ST (fun S => St.put S 1 (0) (.slice (some ⟨g12, 0, none⟩) h.length cap) rfl) ?_; clear ST HC; intro w ST HC; simp only [Rd] at HC))
 refine zI (E := fun _ => True) (n := 8) (ds := [7]) ST (fun _ _ => trivial) r44.tab3 r44.bits3 ?_
 clear ST HC
 intro w ST HC HT_ HW_ HE_
 simp only [Rd] at HC
 refine zu 0 ?_
 refine zu 2 ?_
 refine zu 3 ?_
 refine zu 4 ?_
 refine zL 1 ST ?_
 refine zG 5 ST (cBand q q) ?_ Tryd.func42
 clear ST HC
 intro w ST HC
 simp only [Rd] at HC
 refine zu 6 ?_
 refine zS 7 (L' := [⟨g12, ((cur.setIfInBounds (k * 2) (.int .i64 q)).setIfInBounds (k * 2 + 1) (.int .i64 q)), 26, true⟩, ⟨g7, #[.slice (some ⟨g12, 0, none⟩) h.length cap, .slice A1 s.length c1, .slice A2 p.length c2, .int .i64 b0, .int .i64 b1], 28, true⟩, ⟨g6, #[.slice none 0 0, .slice none 0 0, .slice none 0 0, .int .i64 0, .int .i64 0], 28, true⟩, ⟨g3, #[.slice A0 h.length c0, .slice A1 s.length c1, .slice A2 p.length c2, .int .i64 b0, .int .i64 b1], 28, true⟩]) ST (fun S => St.put (St.put S 0 (k * 2) (.int .i64 q) rfl) 0 (k * 2 + 1) (.int .i64 q) rfl) ?_
 clear ST HC
 intro w ST HC
 simp only [Rd] at HC
 refine zd ?_
 clear HT_ HW_ HE_ hq0 hq1
 go_wp2_with (first | ((with_reducible refine gate_store (p := 6) (v := (.tmp 21)) rfl ?_); refine evS (L' := [⟨g12, ((cur.setIfInBounds (k * 2) (.int .i64 q)).setIfInBounds (k * 2 + 1) (.int .i64 q)), 26, true⟩, ⟨g7, #[.slice (some ⟨g12, 0, none⟩) h.length cap, .slice A1 s.length c1, .slice A2 p.length c2, .int .i64 b0, .int .i64 b1], 28, true⟩, ⟨g6, #[.slice (some ⟨g12, 0, none⟩) h.length cap, .slice A1 s.length c1, .slice A2 p.length c2, .int .i64 b0, .int .i64 b1], 28, true⟩, ⟨g3, #[.slice A0 h.length c0, .slice A1 s.length c1, .slice A2 p.length c2, .int .i64 b0, .int .i64 b1], 28, true⟩]) ST (fun S => St.put (St.put (St.put (St.put (St.put S 2 (0) (.slice (some ⟨g12, 0, none⟩) h.length cap) rfl) 2 (1) (.slice A1 s.length c1) rfl) 2 (2) (.slice A2 p.length c2) rfl) 2 (3) (.int .i64 b0) rfl) 2 (4) (.int .i64 b1) rfl) ?_; clear ST HC; intro w ST HC; simp only [Rd] at HC))
 exact bodyPost_ret (v := .agg #[.slice (some ⟨g12, 0, none⟩) h.length cap, .slice A1 s.length c1, .slice A2 p.length c2, .int .i64 b0, .int .i64 b1]) (by simp [results, Tryd.results44, go_sem, HC]) rfl ⟨(g12, cap, _), by unfold sc; rw [List.length_set], ⟨ST.out.blks.1, ST.out.own _ (List.mem_cons_self ..) rfl, HQ.out.set k q q hk, hcap⟩, ST.out.below⟩
theorem cJustB {k : Nat} {q : Int} {h3 : List S26} (he : Aside0 (h.set k ⟨q, q⟩ = h3)) (hk : k < h.length) (hn : 0 < h.length ∧ h.length ≤ 8) {w1 : World} (hW : Below w.heap.size w w1) : Calls Tryd.prog 44 #[.agg (sc A0 c0 h A1 c1 s A2 c2 p b0 b1), .int .i64 (k : Int), .int .i64 q] w1 fun e w' => ∃ v : Nat × Nat × Array Value, e = .returned (.agg (sc (some ⟨v.1, 0, none⟩) v.2.1 h3 A1 c1 s A2 c2 p b0 b1)) ∧ (w'.heap[v.1]? = some (.cells v.2.2 26 (0, 0)) ∧ w1.heap.size ≤ v.1 ∧ Row26 v.2.2 h3 ∧ h.length ≤ v.2.1) ∧ Below w1.heap.size w1 w' := by rw [← he.out]; exact just_b ⟨H.out.below hW⟩ k q hk hn
omit H in
theorem At.row {g cap : Nat} {cur : Array Value} {t : TypeId} {h2 : List S26} (H : At A0 c0 h A1 c1 s A2 c2 p w) (hb : w.heap[g]? = some (.cells cur t (0, 0))) (hr : Row26 cur h2) (hl : h2.length = h.length) (h8 : h.length ≤ 8) (hc : h.length ≤ cap) : At (some ⟨g, 0, none⟩) cap h2 A1 c1 s A2 c2 p w := by
 have hsm : small h2 s p = true := by have h9 := H.sm; unfold small at h9 ⊢; rw [hl]; exact h9
 exact ⟨hsm, H.gl, C26_of_row hb hr (by omega), by omega, H.d1, H.n1, H.d2, H.n2⟩
omit H in
theorem At.addr (H : At A0 c0 h A1 c1 s A2 c2 p w) (h1 : 0 < h.length) : ∃ ad, A0 = some ad := by
 obtain ⟨ad, e, _⟩ := H_at H.d0 0 h1
 exact ⟨ad, e⟩
end
end Go.Proofs.YtgehkojccmkggaaDoor.K
end
section
namespace Go.Proofs.YtgehkojccmkggaaDoor.K
open Go.RowKit Go.Shelf Go.Proofs.YtgehkojccmkggaaDoorW.PrintWords Go.Proofs.YtgehkojccmkggaaDoorW.PrintLast Go.Proofs.YtgehkojccmkggaaDoorW.PrintMore Go.Proofs.YtgehkojccmkggaaDoor.H Tune
set_option linter.unusedVariables false
set_option linter.unusedSimpArgs false
attribute [local go_sem] Oper.semAt_some
section
variable {w0 w w1 : World} {L : List Bk} {I : World → Prop}
theorem Sx.anew (h : Aside0 (Sx w0 w L [] I)) : Aside0 (Sx w w (L.map fun x => { x with own := false }) [] I) := by
 obtain ⟨⟨a1, a2, a3, a4, a5, a6, a7, ok, b1, b2, b3, b4⟩⟩ := h
 refine ⟨⟨Below.refl _ _, ?_, ?_, by rw [List.pairwise_map]; exact a4, (fun r hr => by cases hr), (fun r hr => by cases hr), List.Pairwise.nil, ok, b1, b2, ?_, (fun k _ r hr => by cases hr)⟩⟩
 ·clear a1 a3 a4 a5 a6 a7 b1 b2 b3 b4
  induction L with
  | nil => trivial
  | cons x L ih => exact ⟨a2.1, ih a2.2⟩
 ·intro x hx e
  obtain ⟨y, _, rfl⟩ := List.mem_map.1 hx
  cases e
 ·intro k hk x hx e
  obtain ⟨y, _, rfl⟩ := List.mem_map.1 hx
  cases e
theorem Sx.made (S : Aside0 (Sx w0 w L [] I)) (hb : Below w.heap.size w w1) {g : Nat} {cs : Array Value} {t : TypeId} (hg : w1.heap[g]? = some (.cells cs t (0, 0))) (hl : w.heap.size ≤ g) : Aside0 (Sx w0 w1 (⟨g, cs, t, true⟩ :: L) [] I) := by
 have h2 := Sx.call S hb
 obtain ⟨⟨a1, a2, a3, a4, a5, a6, a7, ok, b1, b2, b3, b4⟩⟩ := S
 obtain ⟨⟨c1, c2, c3, c4, c5, c6, c7, _⟩⟩ := h2
 refine ⟨⟨c1, ⟨hg, c2⟩, ?_, List.Pairwise.cons (fun x hx => ?_) c4, (fun r hr => by cases hr), (fun r hr => by cases hr), List.Pairwise.nil, ok, b1.step (fun k _ hlt => hb.block k hlt), (fun k hk => by have := b2 k hk; have := hb.size; omega), ?_, (fun k _ r hr => by cases hr)⟩⟩
 ·intro x hx e
  rcases List.mem_cons.1 hx with rfl | hx
  ·exact Nat.le_trans a1.size hl
  ·exact a3 x hx e
 ·have := blk_lt (a2.of_mem hx)
  show g ≠ x.g
  omega
 ·intro k hk x hx e
  rcases List.mem_cons.1 hx with rfl | hx
  ·have := b2 k hk
   show g ≠ k
   omega
  ·exact b3 k hk x hx e
end
section
variable {P : Program} {ops : Array Oper} {rest : List Oper} {o : Oper} {a : Act} {Q : Exit → Act → World → Prop} {w0 w : World} {L : List Bk} {I : World → Prop}
theorem yB (S : Aside0 (Sx w0 w L [] I)) {N : Option Tmp} {f : FuncId} {args : Array Value} {F : Nat × Nat × Array Value → Value} {t : TypeId} {R' : Nat × Nat × Array Value → Prop} (hC : Calls P f args w fun e w' => ∃ v, e = .returned (F v) ∧ (w'.heap[v.1]? = some (.cells v.2.2 t (0, 0)) ∧ w.heap.size ≤ v.1 ∧ R' v) ∧ Below w.heap.size w w')
  (h : ∀ g c cur w1, R' (g, c, cur) → Aside0 (Sx w0 w1 (⟨g, cur, t, true⟩ :: L) [] I) → Rd w1 (⟨g, cur, t, true⟩ :: L) → wpList P ops Q rest (a.put N (F (g, c, cur))) w1)
  {fn : Func} {ao : Array Operand} {ts : Array TypeId} (hf : P.funcs[f]? = some fn) (hd : o.dst = N := by rfl) (hg : o.guard = none := by rfl) (hname : (fn.name == "runtime.NumGoroutine") = false := by exact zk) (hb : fn.body.isSome = true := by rfl)
  (hop : o.op = .call { callee := .value (.func f), args := ao, argTypes := ts } := by rfl) (hargs : ao.map a.eval = args := by exact zm) : wpList P ops Q (o :: rest) a w := by
 refine goesL_ N hd hg hf hname hb args hop hargs (hC.mono ?_)
 rintro r w1 ⟨⟨g, c, cur⟩, rfl, ⟨h1, h2, h3⟩, hb⟩
 exact ⟨_, rfl, h g c cur w1 h3 (Sx.made S hb h1 h2) (Sx.rd (Sx.made S hb h1 h2))⟩
end
section
variable {P : Program} {md : Region.Mode} {ops : Array Oper} {Q : Exit → Act → World → Prop} {ds : List Nat} {w0 w : World} {L : List Bk} {I : World → Prop} {n_ : Tmp} {oi : Oper} {fuel : Nat} {l : Array Bool} {a a' : Act}
theorem yBr {S : World → Prop} (i : Nat) (ST : Aside0 (Sx w0 w L [] I)) {f : FuncId} {args : Array Value} {F : Nat × Nat × Array Value → Value} {t : TypeId} {R' : Nat × Nat × Array Value → Prop} (hC : Calls P f args w fun e w' => ∃ v, e = .returned (F v) ∧ (w'.heap[v.1]? = some (.cells v.2.2 t (0, 0)) ∧ w.heap.size ≤ v.1 ∧ R' v) ∧ Below w.heap.size w w')
  (h : ∀ g c cur w1, R' (g, c, cur) → Aside0 (Sx w0 w1 (⟨g, cur, t, true⟩ :: L) [] I) → Rd w1 (⟨g, cur, t, true⟩ :: L) → wpAnyLast P md ops Q S ds fuel (l.setIfInBounds i true) (a.put (some n_) (F (g, c, cur))) w1)
  {fn : Func} (hf : P.funcs[f]? = some fn) {rest : List Oper} (hi : ops.toList.drop i = oi :: rest := by exact rfl) (hN : oi.dst = some n_ := by exact rfl) (hc : readyB md ops l (l.setIfInBounds i true) i = true := by exact one_of HT_.out zk) (hd : i ∈ ds := by decide)
  (hname : (fn.name == "runtime.NumGoroutine") = false := by exact zk) (hb : fn.body.isSome = true := by rfl) (hw : Region.wanted oi (yielded ops a.tmps) = true := by rfl) {ao : Array Operand} {ts : Array TypeId}
  (hop : oi.op = .call { callee := .value (.func f), args := ao, argTypes := ts } := by rfl) (hargs : ao.map a.eval = args := by exact zm) : wpAnyLast P md ops Q S ds (fuel + 1) l a w := by
 refine last_ _ (drop_at hi) hN hc hd (fun K hK => ?_)
 refine goes_ hf hname hb args hw hN hop hargs (hC.mono ?_)
 rintro r w1 ⟨⟨g, c, cur⟩, rfl, ⟨h1, h2, h3⟩, hb⟩
 exact ⟨_, rfl, hK.out _ _ (h g c cur w1 h3 (Sx.made ST hb h1 h2) (Sx.rd (Sx.made ST hb h1 h2)))⟩
theorem yXr {R0 : List Rw} {S : World → Prop} (i : Nat) (ST : Aside0 (Sx w0 w L R0 I)) {f : FuncId} {args : Array Value} {β : Type} {F : β → Value} {R' : β → World → Prop} (hC : Calls P f args w fun e w' => ∃ v, e = .returned (F v) ∧ R' v w' ∧ Below w.heap.size w w') (h : ∀ v w1, R' v w1 → Aside0 (Sx w0 w1 L R0 I) → Rd w1 L → wpAnyLast P md ops Q S ds fuel (l.setIfInBounds i true) (a.put (some n_) (F v)) w1)
  {fn : Func} (hf : P.funcs[f]? = some fn) {rest : List Oper} (hi : ops.toList.drop i = oi :: rest := by exact rfl) (hN : oi.dst = some n_ := by exact rfl) (hc : readyB md ops l (l.setIfInBounds i true) i = true := by exact one_of HT_.out zk) (hd : i ∈ ds := by decide)
  (hname : (fn.name == "runtime.NumGoroutine") = false := by exact zk) (hb : fn.body.isSome = true := by rfl) (hw : Region.wanted oi (yielded ops a.tmps) = true := by rfl) {ao : Array Operand} {ts : Array TypeId}
  (hop : oi.op = .call { callee := .value (.func f), args := ao, argTypes := ts } := by rfl) (hargs : ao.map a.eval = args := by exact zm) : wpAnyLast P md ops Q S ds (fuel + 1) l a w := by
 refine last_ _ (drop_at hi) hN hc hd (fun K hK => ?_)
 refine goes_ hf hname hb args hw hN hop hargs (hC.mono ?_)
 rintro r w1 ⟨v, rfl, hr, hb⟩
 exact ⟨_, rfl, hK.out _ _ (h v w1 hr (Sx.call ST hb) (Sx.rd (Sx.call ST hb)))⟩
end
end Go.Proofs.YtgehkojccmkggaaDoor.K
end
section
namespace Go.Proofs.YtgehkojccmkggaaDoor.K
open Go.RowKit Go.Shelf Go.Proofs.YtgehkojccmkggaaDoorW.PrintWords Go.Proofs.YtgehkojccmkggaaDoorW.PrintLast Go.Proofs.YtgehkojccmkggaaDoorW.PrintMore Go.Proofs.YtgehkojccmkggaaDoor.H Tune
set_option linter.unusedVariables false
set_option linter.unusedSimpArgs false
attribute [local go_sem] Oper.semAt_some
attribute [local go_sem high] eqA26
attribute [local go_sem] max2_int min2_int max_two min_two
def r8.T3 : Bool × List (List Nat × List Nat) := (true, [([], []), ([0], [0]), ([], []), ([2], [2]), ([3], [3]), ([1, 4], [1, 4]), ([], []), ([6], [6]), ([], []), ([8], [8]), ([9], [9]), ([7, 10, 5], [7, 10]), ([5, 11, 0, 1, 2, 3, 4, 5], [5]), ([11, 12, 0, 1, 2, 3, 4, 5, 6, 7, 8, 9, 10, 11, 12], [11])])
def r8.B3 : List Nat := [0, 1, 0, 4, 12, 31, 0, 64, 0, 256, 768, 2047, 4095, 8191]
theorem r8.tab3 : rtab .any (opsOf Tryd.f8 3) = r8.T3 := by kernel_rfl
theorem r8.bits3 : waitsOk r8.T3.2 r8.B3 = true := by kernel_rfl
def r8.T10 : Bool × List (List Nat × List Nat) := (true, [([], []), ([0], [0]), ([1], [1]), ([2], [2]), ([2, 2], [2]), ([3, 4, 2], [2, 3, 4]), ([2, 5], [2, 5]), ([6, 4], [6]), ([7], [7]), ([7], [7]), ([8, 9, 7], [7, 8, 9]), ([7, 10], [7, 10]), ([11, 7], [11]), ([12], [12]), ([13, 12], [12, 13]), ([14, 12], [12, 14]), ([12, 15], [12, 15]), ([16, 12], [16]), ([17, 17], [17]), ([17, 18], [17, 18]), ([19, 18, 0, 1, 2, 3, 4, 5, 6, 7, 8, 9, 10, 11, 12, 13, 14, 15, 16, 17, 18, 19], [19])])
def r8.B10 : List Nat := [0, 1, 3, 7, 7, 31, 63, 127, 255, 255, 1023, 2047, 4095, 8191, 16383, 32767, 65535, 131071, 262143, 524287, 1048575]
theorem r8.tab10 : rtab .any (opsOf Tryd.f8 10) = r8.T10 := by kernel_rfl
theorem r8.bits10 : waitsOk r8.T10.2 r8.B10 = true := by kernel_rfl
def r8.T11 : Bool × List (List Nat × List Nat) := (true, [([], []), ([0], [0]), ([], []), ([2], [2]), ([3], [3]), ([1, 4], [1, 4]), ([5], [5]), ([6], [6]), ([6], [6]), ([7, 8, 6, 6], [6, 7, 8]), ([9, 6], [6, 9]), ([6, 10], [6, 10]), ([11, 9], [11]), ([12], [12]), ([12], [12]), ([12], [12]), ([14, 15, 12], [12, 14, 15]), ([16, 12], [12, 16]), ([13, 17, 12, 12], [12, 13, 17]), ([18, 12], [12, 18]), ([12, 19], [12, 19]), ([20, 18], [20]), ([21], [21]), ([21], [21]), ([21], [21]), ([23, 24, 21], [21, 23, 24]), ([25, 21], [21, 25]), ([21], [21]), ([21], [21]), ([27, 28, 21], [21, 27, 28]), ([29, 21], [21, 29]), ([26, 30, 21], [21, 26, 30]), ([22, 31, 21, 21], [21, 22, 31]), ([32, 21], [21, 32]), ([21, 33], [21, 33]), ([34, 32], [34]), ([35], [35]), ([35], [35]), ([37, 35], [35, 37]), ([35], [35]), ([38, 39, 35], [35, 38, 39]), ([40, 35], [35, 40]), ([36, 41, 35, 35], [35, 36, 41]), ([42, 35], [35, 42]), ([35, 43], [35, 43])])
def r8.B11 : List Nat := [0, 1, 0, 4, 12, 31, 63, 127, 127, 511, 1023, 2047, 4095, 8191, 8191, 8191, 57343, 122879, 262143, 524287, 1048575, 2097151, 4194303, 4194303, 4194303, 29360127, 62914559, 4194303, 4194303, 406847487, 943718399, 2143289343, 4294967295, 8589934591, 17179869183, 34359738367, 68719476735, 68719476735, 206158430207, 68719476735, 1030792151039, 2130303778815, 4398046511103, 8796093022207, 17592186044415]
theorem r8.tab11 : rtab .any (opsOf Tryd.f8 11) = r8.T11 := by kernel_rfl
theorem r8.bits11 : waitsOk r8.T11.2 r8.B11 = true := by kernel_rfl
def r8.T17 : Bool × List (List Nat × List Nat) := (true, [([], []), ([0], [0]), ([], []), ([1, 2], [1, 2]), ([3], [3]), ([], []), ([], []), ([5, 6], [5, 6]), ([7], [7]), ([4, 8], [4, 8]), ([9], [9])])
def r8.B17 : List Nat := [0, 1, 0, 7, 15, 0, 0, 96, 224, 511, 1023]
theorem r8.tab17 : rtab .any (opsOf Tryd.f8 17) = r8.T17 := by kernel_rfl
theorem r8.bits17 : waitsOk r8.T17.2 r8.B17 = true := by kernel_rfl
def r8.T18 : Bool × List (List Nat × List Nat) := (true, [([], []), ([], []), ([], []), ([], []), ([2, 3], [2, 3]), ([4], [4]), ([0, 1, 5], [0, 1, 5]), ([6, 6], [6]), ([7], [7]), ([8], [8]), ([8], [8]), ([9, 7, 0, 1, 2, 3, 4, 5, 6, 7, 8, 9], [9]), ([10, 11, 0, 1, 2, 3, 4, 5, 6, 7, 8, 9, 10, 11], [10])])
def r8.B18 : List Nat := [0, 0, 0, 0, 12, 28, 63, 127, 255, 511, 511, 1023, 4095]
theorem r8.tab18 : rtab .any (opsOf Tryd.f8 18) = r8.T18 := by kernel_rfl
theorem r8.bits18 : waitsOk r8.T18.2 r8.B18 = true := by kernel_rfl
def r8.T32 : Bool × List (List Nat × List Nat) := (true, [([], []), ([0], [0]), ([1], [1]), ([2, 1], [1, 2]), ([1], [1]), ([3, 4, 1], [1, 3, 4]), ([1], [1]), ([6, 1], [1, 6]), ([5, 7, 1], [1, 5, 7]), ([1, 8], [1, 8]), ([], []), ([10, 1], [10]), ([11], [11]), ([12, 11], [11, 12]), ([11], [11]), ([13, 14, 11], [11, 13, 14]), ([11], [11]), ([16, 11], [11, 16]), ([15, 17, 11], [11, 15, 17]), ([11, 18], [11, 18]), ([9, 11, 0, 1, 2, 3, 4, 5, 6, 7, 8, 9], [0, 9]), ([19, 20, 0, 1, 2, 3, 4, 5, 6, 7, 8, 9, 10, 11, 12, 13, 14, 15, 16, 17, 18, 19, 20], [10, 19])])
def r8.B32 : List Nat := [0, 1, 3, 7, 3, 31, 3, 67, 255, 511, 0, 1027, 3075, 7171, 3075, 31747, 3075, 68611, 261123, 523267, 4095, 2097151]
theorem r8.tab32 : rtab .any (opsOf Tryd.f8 32) = r8.T32 := by kernel_rfl
theorem r8.bits32 : waitsOk r8.T32.2 r8.B32 = true := by kernel_rfl
section
variable {A0 : Option Addr} {c0 : Nat} {h : List S26} {A1 : Option Addr} {c1 : Nat} {s : List S61} {A2 : Option Addr} {c2 : Nat} {p : List S48} {w : World} {b0 b1 : Int}
theorem cTuningN (X : At A0 c0 h A1 c1 s A2 c2 p w) {r : List Int} {n : Nat} {r2 : Int} (hn : r.length = n) (hr : tune_Tuning.f h s p b0 b1 = some (r, r2)) : Calls Tryd.prog 20 #[.agg (sc A0 c0 h A1 c1 s A2 c2 p b0 b1)] w fun e w' => ∃ v : Option Addr × Nat, e = .returned (.tuple #[.slice v.1 n v.2, .int .i64 r2]) ∧ (r.length ≤ v.2 ∧ Kd.C (Kd.int .i64) w' v.1 r.length r) ∧ Below w.heap.size w w' := by
 subst hn
 refine (tune_Tuning.calls A0 c0 h A1 c1 s A2 c2 p b0 b1 r r2 w X.d0 X.n0 X.d1 X.n1 X.d2 X.n2 X.gl hr).mono ?_
 rintro e w' ⟨v, rfl, ⟨A, c, rfl, hc, hF⟩, hb⟩
 exact ⟨(A, c), rfl, ⟨hc, Kd.F_now hF⟩, hb⟩
theorem cTunedN (X : At A0 c0 h A1 c1 s A2 c2 p w) (N : Neat h s p b0 b1) {B : Option Addr} {d n : Nat} {l : List Int} {b : Bool} (hn : l.length = n) (hl : Heard h.length l) (hB : Kd.C (Kd.int .i64) w B l.length l) (hd : l.length ≤ d) (hb : (jsOf h s p b0 b1).all (fitJ (b0, b1) l) = b) : Calls Tryd.prog 43 #[.agg (sc A0 c0 h A1 c1 s A2 c2 p b0 b1), .slice B n d] w fun e w' => e = .returned (.bool b) ∧ Below w.heap.size w w' := by
 subst hn hb
 exact cTuned X N hl hB hd
end
section
variable {A0 : Option Addr} {c0 : Nat} {h : List S26} {A1 : Option Addr} {c1 : Nat} {s : List S61} {A2 : Option Addr} {c2 : Nat} {p : List S48} {w : World} {b0 b1 : Int} {n0 n1 : Int} (H : Aside0 (At A0 c0 h A1 c1 s A2 c2 p w))
include H
set_option maxRecDepth 100000 in
set_option maxHeartbeats 4000000 in
theorem ends_A (HS : decide (checkT h s p b0 b1 = 0) = false)  :
  Calls Tryd.prog 8 #[.agg #[.slice A0 h.length c0, .slice A1 s.length c1, .slice A2 p.length c2, .int .i64 b0, .int .i64 b1], .agg #[.int .i64 n0, .int .i64 n1]] w fun e w' => e = .returned (.bool true) ∧ Below w.heap.size w w' := by
 have ST := Sx.start w
 have HC : True := trivial
 go_enter Tryd.func8, Tryd.ntmps8
 go_wp2_with (first | ((with_reducible refine gate_dst (N := 2) rfl ?_); refine yA ST (N := 2) (cs := #[.slice A0 h.length c0, .slice A1 s.length c1, .slice A2 p.length c2, .int .i64 b0, .int .i64 b1]) (t := 28) ?_; clear ST HC; intro g2 w ST HC; simp only [Rd] at HC) | ((with_reducible refine gate_dst (N := 3) rfl ?_); refine yA ST (N := 3) (cs := #[.int .i64 n0, .int .i64 n1]) (t := 48) ?_; clear ST HC; intro g3 w ST HC; simp only [Rd] at HC) | ((with_reducible refine gate_dst (N := 24) rfl ?_); refine yC ST (N := some 24) (cSound H HS _ ST.out.below) ?_ Tryd.func36; clear ST HC; intro w ST HC; simp only [Rd] at HC) | ((with_reducible refine gate_dst (N := 26) rfl ?_); refine yC ST (N := some 26) (cPlayed H _ ST.out.below) ?_ Tryd.func22; clear ST HC; intro w ST HC; simp only [Rd] at HC))
 go_ret
 exact ⟨rfl, ST.out.below⟩
set_option maxRecDepth 100000 in
set_option maxHeartbeats 4000000 in
theorem ends_B (HS : decide (checkT h s p b0 b1 = 0) = true) {a b : Nat} (ha : a < h.length) (hb : b < h.length) (HA : Aside0 (saronref00_Turn.f n0 (h.length : Int) = some (a : Int))) (HB : Aside0 (saronref00_Turn.f n1 (h.length : Int) = some (b : Int))) {r : List Int} (HP : Aside0 (tune_Pitch.f h s p b0 b1 a = some (0, 0, 12))) (HD : Aside0 (tune_Apart.f h s p b0 b1 a b = some (0, 0, 12))) (HT : Aside0 (tune_Tuning.f h s p b0 b1 = some (r, 12))) (HN : Aside0 (r.length = 0))  :
  Calls Tryd.prog 8 #[.agg #[.slice A0 h.length c0, .slice A1 s.length c1, .slice A2 p.length c2, .int .i64 b0, .int .i64 b1], .agg #[.int .i64 n0, .int .i64 n1]] w fun e w' => e = .returned (.bool true) ∧ Below w.heap.size w w' := by
 have ha1 : (a : Int) < (h.length : Int) := by omega
 have ha0 : 0 ≤ (a : Int) := by omega
 have hb1 : (b : Int) < (h.length : Int) := by omega
 have hb0 : 0 ≤ (b : Int) := by omega
 have ST := Sx.start w
 have HC : True := trivial
 go_enter Tryd.func8, Tryd.ntmps8
 go_upto_region 3 with (first | ((with_reducible refine gate_dst (N := 2) rfl ?_); refine yA ST (N := 2) (cs := #[.slice A0 h.length c0, .slice A1 s.length c1, .slice A2 p.length c2, .int .i64 b0, .int .i64 b1]) (t := 28) ?_; clear ST HC; intro g2 w ST HC; simp only [Rd] at HC) | ((with_reducible refine gate_dst (N := 3) rfl ?_); refine yA ST (N := 3) (cs := #[.int .i64 n0, .int .i64 n1]) (t := 48) ?_; clear ST HC; intro g3 w ST HC; simp only [Rd] at HC) | ((with_reducible refine gate_dst (N := 24) rfl ?_); refine yC ST (N := some 24) (cSound H HS _ ST.out.below) ?_ Tryd.func36; clear ST HC; intro w ST HC; simp only [Rd] at HC))
 refine yI (E := fun _ => True) (n := 14) (ds := []) ST (fun _ _ => trivial) r8.tab3 r8.bits3 ?_
 clear ST HC
 intro w ST HC HT_ HW_ HE_
 simp only [Rd] at HC
 refine zu 0 ?_
 refine zu 2 ?_
 refine zu 6 ?_
 refine zu 8 ?_
 refine yL 1 ST ?_
 refine yL 3 ST ?_
 refine zu 4 ?_
 refine yL 7 ST ?_
 refine yL 9 ST ?_
 refine zu 10 ?_
 refine yG 5 ST (cTurn n0 (h.length : Int) HA _ ST.out.below) ?_ Tryd.func39
 clear ST HC
 intro w ST HC
 simp only [Rd] at HC
 refine yG 11 ST (cTurn n1 (h.length : Int) HB _ ST.out.below) ?_ Tryd.func39
 clear ST HC
 intro w ST HC
 simp only [Rd] at HC
 refine zu 12 ?_
 refine zu 13 ?_
 refine zd ?_
 clear HT_ HW_ HE_
 go_upto_region 10 with (first | ((with_reducible refine gate_dst (N := 42) rfl ?_); refine yC ST (N := some 42) (cPitch H HP _ ST.out.below) ?_ Tryd.func23; clear ST HC; intro w ST HC; simp only [Rd] at HC) | ((with_reducible refine gate_dst (N := 7) rfl ?_); refine yA ST (N := 7) (cs := #[.int .i64 0, .int .i64 0]) (t := 26) ?_; clear ST HC; intro g7 w ST HC; simp only [Rd] at HC) | ((with_reducible refine gate_store (p := 7) (v := (.tmp 43)) rfl ?_); refine yS (L' := [⟨g7, #[.int .i64 0, .int .i64 0], 26, true⟩, ⟨g3, #[.int .i64 n0, .int .i64 n1], 48, true⟩, ⟨g2, #[.slice A0 h.length c0, .slice A1 s.length c1, .slice A2 p.length c2, .int .i64 b0, .int .i64 b1], 28, true⟩]) ST (fun S => Sx.put (Sx.put S 0 (0) (.int .i64 0) rfl) 0 (1) (.int .i64 0) rfl) ?_; clear ST HC; intro w ST HC; simp only [Rd] at HC) | ((with_reducible refine gate_dst (N := 49) rfl ?_); refine yC ST (N := some 49) (cApart H HD _ ST.out.below) ?_ Tryd.func27; clear ST HC; intro w ST HC; simp only [Rd] at HC) | ((with_reducible refine gate_dst (N := 9) rfl ?_); refine yA ST (N := 9) (cs := #[.int .i64 0, .int .i64 0]) (t := 26) ?_; clear ST HC; intro g9 w ST HC; simp only [Rd] at HC) | ((with_reducible refine gate_store (p := 9) (v := (.tmp 50)) rfl ?_); refine yS (L' := [⟨g9, #[.int .i64 0, .int .i64 0], 26, true⟩, ⟨g7, #[.int .i64 0, .int .i64 0], 26, true⟩, ⟨g3, #[.int .i64 n0, .int .i64 n1], 48, true⟩, ⟨g2, #[.slice A0 h.length c0, .slice A1 s.length c1, .slice A2 p.length c2, .int .i64 b0, .int .i64 b1], 28, true⟩]) ST (fun S => Sx.put (Sx.put S 0 (0) (.int .i64 0) rfl) 0 (1) (.int .i64 0) rfl) ?_; clear ST HC; intro w ST HC; simp only [Rd] at HC) | ((with_reducible refine gate_dst (N := 54) rfl ?_); refine yX ST (N := some 54) (F := fun v : Option Addr × Nat => .tuple #[.slice v.1 0 v.2, .int .i64 12]) (cTuningN (b0 := b0) (b1 := b1) (H.out.below ST.out.below) HN.out HT.out) ?_ Tryd.func20; clear ST HC; intro ⟨AT, cT⟩ w ⟨hTc, hTC⟩ ST HC; have HTC := zh hTC; clear hTC; simp only [Rd] at HC))
 refine yI (E := fun _ => True) (n := 21) (ds := []) ST (fun _ _ => trivial) r8.tab10 r8.bits10 ?_
 clear ST HC
 intro w ST HC HT_ HW_ HE_
 simp only [Rd] at HC
 refine zu 0 ?_
 refine zu 1 ?_
 refine zu 2 ?_
 refine yL 3 ST ?_
 refine yG 4 ST (cBand 0 0 _ ST.out.below) ?_ Tryd.func42
 clear ST HC
 intro w ST HC
 simp only [Rd] at HC
 refine zu 5 ?_
 refine zu 6 ?_
 refine zu 7 ?_
 refine yL 8 ST ?_
 refine yL 9 ST ?_
 refine zu 10 ?_
 refine zu 11 ?_
 refine zu 12 ?_
 refine zu 13 ?_
 refine zu 14 ?_
 refine zu 15 ?_
 refine zu 16 ?_
 refine zu 17 ?_
 refine yG 18 ST (cPlayed H _ ST.out.below) ?_ Tryd.func22
 clear ST HC
 intro w ST HC
 simp only [Rd] at HC
 refine zu 19 ?_
 refine zu 20 ?_
 refine zd ?_
 clear HT_ HW_ HE_
 go_wp2_with (fail)
 go_ret
 exact ⟨rfl, ST.out.below⟩
end
section
variable {w W : World} {A : Option Addr} {r : List Int}
theorem ends_at {at_ : Addr} {n a b : Nat} {ta tb : Int} (hC : Kd.C (Kd.int .i64) w (some at_) r.length r) (hn : r.length = n) (ha : a < n) (hb : b < n) (h1 : r.getD a 0 = ta) (h2 : r.getD b 0 = tb) (hW : Below w.heap.size w W) : W.cell? (at_.add a) = some (.int .i64 ta) ∧ W.cell? (at_.add b) = some (.int .i64 tb) := by
 subst hn
 obtain ⟨ad, e, x⟩ := int_at (Kd.C_below hC hW) ha
 injection e with e
 subst e
 obtain ⟨ad, e, y⟩ := int_at (Kd.C_below hC hW) hb
 injection e with e
 subst e
 rw [show r.getD a 0 = r[a] by simp [List.getD_eq_getElem?_getD, ha]] at h1
 rw [show r.getD b 0 = r[b] by simp [List.getD_eq_getElem?_getD, hb]] at h2
 rw [← h1, ← h2]
 exact ⟨x, y⟩
theorem ends_el {ae : Addr} {k : Nat} {key : Int} (hC : Kd.C (Kd.int .i64) w (some ae) r.length r) (hk : k < r.length) (h1 : r.getD k 0 = key) : w.cell? (ae.add k) = some (.int .i64 key) := (ends_at hC rfl hk hk h1 h1 (Below.refl _ _)).1
end
section
variable {ad : Addr} {c0 : Nat} {h : List S26} {A1 : Option Addr} {c1 : Nat} {s : List S61} {A2 : Option Addr} {c2 : Nat} {p : List S48} {w : World} {b0 b1 : Int} {n0 n1 : Int} (H : Aside0 (At (some ad) c0 h A1 c1 s A2 c2 p w))
include H
set_option maxRecDepth 100000 in
set_option maxHeartbeats 4000000 in
theorem ends_C (HS : decide (checkT h s p b0 b1 = 0) = true) {a b : Nat} (ha : a < h.length) (hb : b < h.length) (HA : Aside0 (saronref00_Turn.f n0 (h.length : Int) = some (a : Int))) (HB : Aside0 (saronref00_Turn.f n1 (h.length : Int) = some (b : Int))) {r : List Int} (hn : 0 < h.length ∧ h.length ≤ 8) {p0 p1 d0 d1 ta tb : Int} (HP : Aside0 (tune_Pitch.f h s p b0 b1 a = some (p0, p1, 0))) (HD : Aside0 (tune_Apart.f h s p b0 b1 a b = some (d0, d1, 0))) (HT : Aside0 (tune_Tuning.f h s p b0 b1 = some (r, 0))) (HN : Aside0 (r.length = h.length)) (HTa : Aside0 (r.getD a 0 = ta)) (HTb : Aside0 (r.getD b 0 = tb)) (HNE : Aside0 (Neat h s p b0 b1)) (HHE : Aside0 (Heard h.length r)) (HFIT : Aside0 ((jsOf h s p b0 b1).all (fitJ (b0, b1) r) = true)) (HB1 : (decide (p0 ≤ ta) && decide (ta ≤ p1)) = true) (HB2 : (decide (d0 ≤ wrap64 (tb - ta)) && decide (wrap64 (tb - ta) ≤ d1)) = true) (HU : saronref00_Under.f p0 p1 (loH h a) (hiH h a) = some true)
  {el : List Int} (HEL : Aside0 (el = [p0, p1, wrap64 (p0 - 1), wrap64 (p1 + 1)])) (HJ : Aside0 (∀ k : Nat, k < 4 → loH h a ≤ el.getD k 0 → el.getD k 0 ≤ hiH h a → ∃ r, tune_Tuning.f (h.set a ⟨el.getD k 0, el.getD k 0⟩) s p b0 b1 = some (r, if k < 2 then 0 else 12)))
  {M : Nat} {is_t LO HI : Nat → Bool} {q0 q1 : Nat → Int} (hM : Aside0 (p1 + 1 = p0 + (M : Int))) (hp : Aside0 (0 ≤ p0 ∧ p1 ≤ 4000)) (HL0 : Aside0 (LO 0 = false ∧ HI 0 = false)) (HLM : Aside0 (LO M = true ∧ HI M = true)) (HCan : Aside0 (∀ m : Nat, m < M → tune_Can.f h s p b0 b1 a (p0 + (m : Int)) = some (is_t m, 0)))
  (HPit : Aside0 (∀ m : Nat, m < M → is_t m = true → tune_Pitch.f (h.set a ⟨p0 + (m : Int), p0 + (m : Int)⟩) s p b0 b1 b = some (q0 m, q1 m, 0) ∧ d0 ≤ wrap64 (q0 m - (p0 + (m : Int))) ∧ wrap64 (q1 m - (p0 + (m : Int))) ≤ d1))
  (HLf : Aside0 (∀ m : Nat, m < M → is_t m = false → LO (m + 1) = LO m ∧ HI (m + 1) = HI m)) (HLt : Aside0 (∀ m : Nat, m < M → is_t m = true → LO (m + 1) = (LO m || decide (wrap64 (q0 m - (p0 + (m : Int))) = d0)) ∧ HI (m + 1) = (HI m || decide (wrap64 (q1 m - (p0 + (m : Int))) = d1)))) :
  Calls Tryd.prog 8 #[.agg #[.slice (some ad) h.length c0, .slice A1 s.length c1, .slice A2 p.length c2, .int .i64 b0, .int .i64 b1], .agg #[.int .i64 n0, .int .i64 n1]] w fun e w' => e = .returned (.bool true) ∧ Below w.heap.size w w' := by
 have ha1 : (a : Int) < (h.length : Int) := by omega
 have ha0 : 0 ≤ (a : Int) := by omega
 have hb1 : (b : Int) < (h.length : Int) := by omega
 have hb0 : 0 ≤ (b : Int) := by omega
 have ST := Sx.start w
 have HC : True := trivial
 go_enter Tryd.func8, Tryd.ntmps8
 go_upto_region 3 with (first | ((with_reducible refine gate_dst (N := 2) rfl ?_); refine yA ST (N := 2) (cs := #[.slice (some ad) h.length c0, .slice A1 s.length c1, .slice A2 p.length c2, .int .i64 b0, .int .i64 b1]) (t := 28) ?_; clear ST HC; intro g2 w ST HC; simp only [Rd] at HC) | ((with_reducible refine gate_dst (N := 3) rfl ?_); refine yA ST (N := 3) (cs := #[.int .i64 n0, .int .i64 n1]) (t := 48) ?_; clear ST HC; intro g3 w ST HC; simp only [Rd] at HC) | ((with_reducible refine gate_dst (N := 24) rfl ?_); refine yC ST (N := some 24) (cSound H HS _ ST.out.below) ?_ Tryd.func36; clear ST HC; intro w ST HC; simp only [Rd] at HC))
 refine yI (E := fun _ => True) (n := 14) (ds := []) ST (fun _ _ => trivial) r8.tab3 r8.bits3 ?_
 clear ST HC
 intro w ST HC HT_ HW_ HE_
 simp only [Rd] at HC
 refine zu 0 ?_
 refine zu 2 ?_
 refine zu 6 ?_
 refine zu 8 ?_
 refine yL 1 ST ?_
 refine yL 3 ST ?_
 refine zu 4 ?_
 refine yL 7 ST ?_
 refine yL 9 ST ?_
 refine zu 10 ?_
 refine yG 5 ST (cTurn n0 (h.length : Int) HA _ ST.out.below) ?_ Tryd.func39
 clear ST HC
 intro w ST HC
 simp only [Rd] at HC
 refine yG 11 ST (cTurn n1 (h.length : Int) HB _ ST.out.below) ?_ Tryd.func39
 clear ST HC
 intro w ST HC
 simp only [Rd] at HC
 refine zu 12 ?_
 refine zu 13 ?_
 refine zd ?_
 clear HT_ HW_ HE_
 go_upto_region 11 with (first | ((with_reducible refine gate_dst (N := 42) rfl ?_); refine yC ST (N := some 42) (cPitch H HP _ ST.out.below) ?_ Tryd.func23; clear ST HC; intro w ST HC; simp only [Rd] at HC) | ((with_reducible refine gate_dst (N := 7) rfl ?_); refine yA ST (N := 7) (cs := #[.int .i64 0, .int .i64 0]) (t := 26) ?_; clear ST HC; intro g7 w ST HC; simp only [Rd] at HC) | ((with_reducible refine gate_store (p := 7) (v := (.tmp 43)) rfl ?_); refine yS (L' := [⟨g7, #[.int .i64 p0, .int .i64 p1], 26, true⟩, ⟨g3, #[.int .i64 n0, .int .i64 n1], 48, true⟩, ⟨g2, #[.slice (some ad) h.length c0, .slice A1 s.length c1, .slice A2 p.length c2, .int .i64 b0, .int .i64 b1], 28, true⟩]) ST (fun S => Sx.put (Sx.put S 0 (0) (.int .i64 p0) rfl) 0 (1) (.int .i64 p1) rfl) ?_; clear ST HC; intro w ST HC; simp only [Rd] at HC) | ((with_reducible refine gate_dst (N := 49) rfl ?_); refine yC ST (N := some 49) (cApart H HD _ ST.out.below) ?_ Tryd.func27; clear ST HC; intro w ST HC; simp only [Rd] at HC) | ((with_reducible refine gate_dst (N := 9) rfl ?_); refine yA ST (N := 9) (cs := #[.int .i64 0, .int .i64 0]) (t := 26) ?_; clear ST HC; intro g9 w ST HC; simp only [Rd] at HC) | ((with_reducible refine gate_store (p := 9) (v := (.tmp 50)) rfl ?_); refine yS (L' := [⟨g9, #[.int .i64 d0, .int .i64 d1], 26, true⟩, ⟨g7, #[.int .i64 p0, .int .i64 p1], 26, true⟩, ⟨g3, #[.int .i64 n0, .int .i64 n1], 48, true⟩, ⟨g2, #[.slice (some ad) h.length c0, .slice A1 s.length c1, .slice A2 p.length c2, .int .i64 b0, .int .i64 b1], 28, true⟩]) ST (fun S => Sx.put (Sx.put S 0 (0) (.int .i64 d0) rfl) 0 (1) (.int .i64 d1) rfl) ?_; clear ST HC; intro w ST HC; simp only [Rd] at HC) | ((with_reducible refine gate_dst (N := 54) rfl ?_); refine yX ST (N := some 54) (F := fun v : Option Addr × Nat => .tuple #[.slice v.1 h.length v.2, .int .i64 0]) (cTuningN (b0 := b0) (b1 := b1) (H.out.below ST.out.below) HN.out HT.out) ?_ Tryd.func20; clear ST HC; intro ⟨AT, cT⟩ w ⟨hTc, hTC⟩ ST HC; have HTC := zh hTC; clear hTC; simp only [Rd] at HC))
 obtain ⟨at_, rfl, _⟩ := int_at HTC.out (show a < r.length by rw [HN.out]; exact ha)
 have HTA : Aside0 (∀ W, Below w.heap.size w W → W.cell? (at_.add a) = some (.int .i64 ta) ∧ W.cell? (at_.add b) = some (.int .i64 tb)) := ⟨fun W hW => ends_at HTC.out HN.out ha hb HTa.out HTb.out hW⟩
 have HBA := zh ST.out.below
 replace ST : Aside0 (Sx w w [⟨g9, #[.int .i64 d0, .int .i64 d1], 26, false⟩, ⟨g7, #[.int .i64 p0, .int .i64 p1], 26, false⟩, ⟨g3, #[.int .i64 n0, .int .i64 n1], 48, false⟩, ⟨g2, #[.slice (some ad) h.length c0, .slice A1 s.length c1, .slice A2 p.length c2, .int .i64 b0, .int .i64 b1], 28, false⟩] [] (fun _ => True)) := Sx.anew ST
 have H9 := zh (H.out.below HBA.out)
 clear HC
 have HC := Sx.rd ST
 simp only [Rd] at HC
 refine yI (E := fun w_ => (w_.cell? (ad.add (a * 2)) = some (.int .i64 (loH h a)) ∧ w_.cell? ⟨(ad.add (a * 2)).block, (ad.add (a * 2)).off + 1, none⟩ = some (.int .i64 (hiH h a))) ∧ w_.cell? (at_.add a) = some (.int .i64 ta) ∧ w_.cell? (at_.add b) = some (.int .i64 tb)) (n := 45) (ds := []) ST (fun W hW => ⟨(H9.out.below hW).heard ha, HTA.out W hW⟩) r8.tab11 r8.bits11 ?_
 clear ST HC
 intro w ST HC HT_ HW_ HE_
 simp only [Rd] at HC
 refine zu 0 ?_
 refine zu 1 ?_
 refine zu 2 ?_
 refine yL 3 ST ?_
 refine zu 4 ?_
 refine zu 5 ?_
 refine zu 6 ?_
 refine zu 8 ?_
 refine yL 7 ST ?_
 refine yG 9 ST (cTunedN (H9.out.below ST.out.below) HNE.out HN.out HHE.out (Kd.C_below HTC.out ST.out.below) hTc HFIT.out) ?_ Tryd.func43
 clear ST HC
 intro w ST HC
 simp only [Rd] at HC
 refine zu 10 ?_
 refine zu 11 ?_
 refine zu 12 ?_
 refine zu 14 ?_
 refine zu 15 ?_
 refine zu 16 ?_
 refine yL 13 ST ?_
 refine yL 17 ST ?_
 refine yG 18 ST (cBears p0 p1 ta HB1 _ ST.out.below) ?_ Tryd.func40
 clear ST HC
 intro w ST HC
 simp only [Rd] at HC
 refine zu 19 ?_
 refine zu 20 ?_
 refine zu 21 ?_
 refine zu 23 ?_
 refine zu 24 ?_
 refine zu 25 ?_
 refine zu 27 ?_
 refine zu 28 ?_
 refine zu 29 ?_
 refine yL 22 ST ?_
 refine yL 26 ST ?_
 refine yL 30 ST ?_
 refine zu 31 ?_
 refine yG 32 ST (cBears d0 d1 (wrap64 (tb - ta)) HB2 _ ST.out.below) ?_ Tryd.func40
 clear ST HC
 intro w ST HC
 simp only [Rd] at HC
 refine zu 33 ?_
 refine zu 34 ?_
 refine zu 35 ?_
 refine zu 37 ?_
 refine zu 39 ?_
 refine yL 36 ST ?_
 refine yL 38 ST ?_
 refine zu 40 ?_
 refine yL 41 ST ?_
 refine yG 42 ST (cUnder p0 p1 (loH h a) (hiH h a) HU _ ST.out.below) ?_ Tryd.func41
 clear ST HC
 intro w ST HC
 simp only [Rd] at HC
 refine zu 43 ?_
 refine zu 44 ?_
 refine zd ?_
 clear HT_ HW_ HE_
 go_wp2_with (first | ((with_reducible refine gate_dst (N := 142) rfl ?_); refine yF ST (cs := #[.int .i64 p0, .int .i64 p1, .int .i64 (wrap64 (p0 - 1)), .int .i64 (wrap64 (p1 + 1))]) (t := 3) (F := fun g_ => .slice (some ⟨g_, 0, none⟩) 4 4) ?_; clear ST HC; intro g142 w ST HC; simp only [Rd] at HC))
 have HE0 := C_is (xs := [p0, p1, wrap64 (p0 - 1), wrap64 (p1 + 1)]) ST.out.blks.1 (show 4 ≤ 9223372036854775807 by decide)
 rw [← HEL.out] at HE0
 have HE := zh HE0
 clear HE0
 replace ST := Sx.tail ST
 have HB0 := zh (below_step HBA.out ST.out.below)
 replace H := zh (H9.out.below ST.out.below)
 replace ST : Aside0 (Sx w w [⟨g9, #[.int .i64 d0, .int .i64 d1], 26, false⟩, ⟨g7, #[.int .i64 p0, .int .i64 p1], 26, false⟩, ⟨g3, #[.int .i64 n0, .int .i64 n1], 48, false⟩, ⟨g2, #[.slice (some ad) h.length c0, .slice A1 s.length c1, .slice A2 p.length c2, .int .i64 b0, .int .i64 b1], 28, false⟩] [] (fun _ => True)) := Sx.anew ST
 clear HC HBA H9 HTA HTC
 have HC := Sx.rd ST
 simp only [Rd] at HC
 generalize (⟨g142, 0, none⟩ : Addr) = ae at HE ⊢
 have HE4 : Aside0 (el.length = 4) := ⟨by rw [HEL.out]; rfl⟩
 go_loopw [14] (fun u wr => ∃ k : Nat, k ≤ 4 ∧ u = .int .i64 k ∧ Aside0 (Sx w wr [⟨g9, #[.int .i64 d0, .int .i64 d1], 26, false⟩, ⟨g7, #[.int .i64 p0, .int .i64 p1], 26, false⟩, ⟨g3, #[.int .i64 n0, .int .i64 n1], 48, false⟩, ⟨g2, #[.slice (some ad) h.length c0, .slice A1 s.length c1, .slice A2 p.length c2, .int .i64 b0, .int .i64 b1], 28, false⟩] [] (fun _ => True))) (fun u _ => 4 - (intOf u).toNat)
 case atStart => exact ⟨0, Nat.zero_le _, rfl, ST⟩
 case round =>
  clear ST HC
  obtain ⟨k, hk4, rfl, ST⟩ := hrel
  have HC := Sx.rd ST
  simp only [Rd] at HC
  by_cases hlt : k < 4
  ·have l1 : (k : Int) < 4 := by omega
   have l0 : 0 ≤ (k : Int) := by omega
   obtain ⟨key, hkey⟩ : ∃ key, el.getD k 0 = key := ⟨_, rfl⟩
   have HK : Aside0 (∀ W, Below w.heap.size w W → W.cell? (ae.add k) = some (.int .i64 key)) := ⟨fun W hW => ends_el (Kd.C_below HE.out hW) (by rw [HE4.out]; exact hlt) hkey⟩
   have HJK := HJ.out k hlt
   rw [hkey] at HJK
   have HJ2 := zh HJK
   clear HJK hkey
   cases hbb : (decide (loH h a ≤ key) && decide (key ≤ hiH h a)) with
   | false =>
    have HBB := zh hbb
    clear hbb
    go_upto_region 17 with (fail)
    refine yI (E := fun w_ => (w_.cell? (ad.add (a * 2)) = some (.int .i64 (loH h a)) ∧ w_.cell? ⟨(ad.add (a * 2)).block, (ad.add (a * 2)).off + 1, none⟩ = some (.int .i64 (hiH h a))) ∧ w_.cell? (ae.add k) = some (.int .i64 key)) (n := 11) (ds := []) ST (fun W hW => ⟨(H.out.below hW).heard ha, HK.out W hW⟩) r8.tab17 r8.bits17 ?_
    clear ST HC
    intro v ST HC HT_ HW_ HE_
    simp only [Rd] at HC
    refine zu 0 ?_
    refine zu 2 ?_
    refine zu 5 ?_
    refine zu 6 ?_
    refine zu 7 ?_
    refine yL 1 ST ?_
    refine zu 3 ?_
    refine yL 4 ST ?_
    refine yL 8 ST ?_
    refine yG 9 ST (cBears (loH h a) (hiH h a) key HBB.out _ ST.out.below) ?_ Tryd.func40
    clear ST HC
    intro v ST HC
    simp only [Rd] at HC
    refine zu 10 ?_
    refine zd ?_
    clear HT_ HW_ HE_
    go_wp2_with (fail)
    go_roundw
    case rel => exact ⟨k + 1, by omega, by go_num, ST⟩
    case measure => simp [intOf]; omega
   | true =>
    have HJ3 : Aside0 (∃ r, tune_Tuning.f (h.set a ⟨key, key⟩) s p b0 b1 = some (r, if k < 2 then 0 else 12)) := ⟨HJ2.out (by rw [Bool.and_eq_true, decide_eq_true_eq, decide_eq_true_eq] at hbb; exact hbb.1) (by rw [Bool.and_eq_true, decide_eq_true_eq, decide_eq_true_eq] at hbb; exact hbb.2)⟩
    obtain ⟨h3, hs3⟩ : ∃ h3, h.set a ⟨key, key⟩ = h3 := ⟨_, rfl⟩
    rw [hs3] at HJ3
    have HS3 := zh hs3
    clear hs3
    have HL3 : Aside0 (h3.length = h.length) := ⟨by rw [← HS3.out, List.length_set]⟩
    have HBB := zh hbb
    clear hbb
    go_upto_region 17 with (fail)
    refine yI (E := fun w_ => (w_.cell? (ad.add (a * 2)) = some (.int .i64 (loH h a)) ∧ w_.cell? ⟨(ad.add (a * 2)).block, (ad.add (a * 2)).off + 1, none⟩ = some (.int .i64 (hiH h a))) ∧ w_.cell? (ae.add k) = some (.int .i64 key)) (n := 11) (ds := []) ST (fun W hW => ⟨(H.out.below hW).heard ha, HK.out W hW⟩) r8.tab17 r8.bits17 ?_
    clear ST HC
    intro v ST HC HT_ HW_ HE_
    simp only [Rd] at HC
    refine zu 0 ?_
    refine zu 2 ?_
    refine zu 5 ?_
    refine zu 6 ?_
    refine zu 7 ?_
    refine yL 1 ST ?_
    refine zu 3 ?_
    refine yL 4 ST ?_
    refine yL 8 ST ?_
    refine yG 9 ST (cBears (loH h a) (hiH h a) key HBB.out _ ST.out.below) ?_ Tryd.func40
    clear ST HC
    intro v ST HC
    simp only [Rd] at HC
    refine zu 10 ?_
    refine zd ?_
    clear HT_ HW_ HE_
    go_upto_region 18 with (fail)
    by_cases hk2 : k < 2
    ·have l2 : (k : Int) < 2 := by omega
     have HJ4 : Aside0 (∃ r, tune_Tuning.f h3 s p b0 b1 = some (r, 0)) := ⟨by have h9 := HJ3.out; rw [if_pos hk2] at h9; exact h9⟩
     obtain ⟨⟨r3, hr3⟩⟩ := HJ4
     have HJT := zh hr3
     clear hr3
     refine yI (E := fun w_ => (w_.cell? (ad.add (a * 2)) = some (.int .i64 (loH h a)) ∧ w_.cell? ⟨(ad.add (a * 2)).block, (ad.add (a * 2)).off + 1, none⟩ = some (.int .i64 (hiH h a))) ∧ w_.cell? (ae.add k) = some (.int .i64 key)) (n := 13) (ds := [6, 7]) ST (fun W hW => ⟨(H.out.below hW).heard ha, HK.out W hW⟩) r8.tab18 r8.bits18 ?_
     clear ST HC
     intro v ST HC HT_ HW_ HE_
     simp only [Rd] at HC
     refine zu 1 ?_
     refine zu 2 ?_
     refine zu 3 ?_
     refine zu 4 ?_
     refine yL 0 ST ?_
     refine yL 5 ST ?_
     refine yBr 6 ST (t := 26) (F := fun v : Nat × Nat × Array Value => .agg (sc (some ⟨v.1, 0, none⟩) v.2.1 h3 A1 c1 s A2 c2 p b0 b1)) (R' := fun v => Row26 v.2.2 h3 ∧ h.length ≤ v.2.1) (cJustB (b0 := b0) (b1 := b1) H HS3 ha hn ST.out.below) ?_ Tryd.func44
     clear ST HC
     intro gj cj cur v ⟨hrow, hcap⟩ ST HC
     have HQ := zh hrow
     clear hrow
     simp only [Rd] at HC
     refine yXr 7 ST (F := fun v : Value => .tuple #[v, .int .i64 0]) (cTuning ⟨(H.out.below ST.out.below).row ST.out.blks.1 HQ.out HL3.out hn.2 hcap⟩ HJT _ (Below.refl _ _)) ?_ Tryd.func20
     clear ST HC
     intro vt v _ ST HC
     simp only [Rd] at HC
     refine zu 8 ?_
     refine zu 9 ?_
     refine zu 10 ?_
     refine zu 11 ?_
     refine zu 12 ?_
     refine zd ?_
     clear HT_ HW_ HE_
     go_wp2_with (fail)
     go_roundw
     case rel => exact ⟨k + 1, by omega, by go_num, Sx.tail ST⟩
     case measure => simp [intOf]; omega
    ·have l2 : ¬ (k : Int) < 2 := by omega
     have HJ4 : Aside0 (∃ r, tune_Tuning.f h3 s p b0 b1 = some (r, 12)) := ⟨by have h9 := HJ3.out; rw [if_neg hk2] at h9; exact h9⟩
     obtain ⟨⟨r3, hr3⟩⟩ := HJ4
     have HJT := zh hr3
     clear hr3
     refine yI (E := fun w_ => (w_.cell? (ad.add (a * 2)) = some (.int .i64 (loH h a)) ∧ w_.cell? ⟨(ad.add (a * 2)).block, (ad.add (a * 2)).off + 1, none⟩ = some (.int .i64 (hiH h a))) ∧ w_.cell? (ae.add k) = some (.int .i64 key)) (n := 13) (ds := [6, 7]) ST (fun W hW => ⟨(H.out.below hW).heard ha, HK.out W hW⟩) r8.tab18 r8.bits18 ?_
     clear ST HC
     intro v ST HC HT_ HW_ HE_
     simp only [Rd] at HC
     refine zu 1 ?_
     refine zu 2 ?_
     refine zu 3 ?_
     refine zu 4 ?_
     refine yL 0 ST ?_
     refine yL 5 ST ?_
     refine yBr 6 ST (t := 26) (F := fun v : Nat × Nat × Array Value => .agg (sc (some ⟨v.1, 0, none⟩) v.2.1 h3 A1 c1 s A2 c2 p b0 b1)) (R' := fun v => Row26 v.2.2 h3 ∧ h.length ≤ v.2.1) (cJustB (b0 := b0) (b1 := b1) H HS3 ha hn ST.out.below) ?_ Tryd.func44
     clear ST HC
     intro gj cj cur v ⟨hrow, hcap⟩ ST HC
     have HQ := zh hrow
     clear hrow
     simp only [Rd] at HC
     refine yXr 7 ST (F := fun v : Value => .tuple #[v, .int .i64 12]) (cTuning ⟨(H.out.below ST.out.below).row ST.out.blks.1 HQ.out HL3.out hn.2 hcap⟩ HJT _ (Below.refl _ _)) ?_ Tryd.func20
     clear ST HC
     intro vt v _ ST HC
     simp only [Rd] at HC
     refine zu 8 ?_
     refine zu 9 ?_
     refine zu 10 ?_
     refine zu 11 ?_
     refine zu 12 ?_
     refine zd ?_
     clear HT_ HW_ HE_
     go_wp2_with (fail)
     go_roundw
     case rel => exact ⟨k + 1, by omega, by go_num, Sx.tail ST⟩
     case measure => simp [intOf]; omega
  ·have l1 : ¬ (k : Int) < 4 := by omega
   clear hlt hk4 HJ HE HE4 HEL
   go_wp2_with (fail)
   go_loopw [17, 18, 19] (fun u17 u18 u19 wr => ∃ (m : Nat) (x : Int) (lo hi : Bool), m ≤ M ∧ Aside0 (x = p0 + (m : Int)) ∧ Aside0 (lo = LO m) ∧ Aside0 (hi = HI m) ∧ u17 = .bool lo ∧ u18 = .bool hi ∧ u19 = .int .i64 x ∧ Aside0 (Sx w wr [⟨g9, #[.int .i64 d0, .int .i64 d1], 26, false⟩, ⟨g7, #[.int .i64 p0, .int .i64 p1], 26, false⟩, ⟨g3, #[.int .i64 n0, .int .i64 n1], 48, false⟩, ⟨g2, #[.slice (some ad) h.length c0, .slice A1 s.length c1, .slice A2 p.length c2, .int .i64 b0, .int .i64 b1], 28, false⟩] [] (fun _ => True))) (fun _ _ u19 _ => (p1 + 1 - intOf u19).toNat)
   case atStart => exact ⟨0, p0, false, false, Nat.zero_le _, ⟨by omega⟩, ⟨HL0.out.1.symm⟩, ⟨HL0.out.2.symm⟩, rfl, rfl, rfl, ST⟩
   case round =>
    clear ST HC
    obtain ⟨m, x, lo, hi, hm, HX, HLO, HHI, rfl, rfl, rfl, ST⟩ := hrel
    have HC := Sx.rd ST
    simp only [Rd] at HC
    by_cases hlt : m < M
    ·have x1 : x ≤ p1 := by have h9 := HX.out; have h8 := hM.out; omega
     have x2 : wrap64 (x + 1) = x + 1 := w64 (by have h9 := HX.out; have h8 := hM.out; have h7 := hp.out; omega) (by have h9 := HX.out; have h8 := hM.out; have h7 := hp.out; omega)
     have HM := zh hlt
     have HCA := zh (HCan.out m hlt)
     rw [← HX.out] at HCA
     clear hlt hm
     cases his : is_t m with
     | false =>
      rw [his] at HCA
      have HIS := zh his
      clear his
      go_wp2_with (first | ((with_reducible refine gate_dst (N := 194) rfl ?_); refine yC ST (N := some 194) (cCan H HCA _ ST.out.below) ?_ Tryd.func25; clear ST HC; intro v ST HC; simp only [Rd] at HC))
      go_roundw
      case rel => exact ⟨m + 1, x + 1, _, _, HM.out, ⟨by have h9 := HX.out; omega⟩, ⟨by rw [HLO.out, (HLf.out m HM.out HIS.out).1]⟩, ⟨by rw [HHI.out, (HLf.out m HM.out HIS.out).2]⟩, rfl, rfl, by first | rfl | go_num | (rw [x2]), ST⟩
      case measure => simp [intOf]; omega
     | true =>
      rw [his] at HCA
      have HIS := zh his
      clear his
      obtain ⟨y0, hy0⟩ : ∃ y0, q0 m = y0 := ⟨_, rfl⟩
      obtain ⟨y1, hy1⟩ : ∃ y1, q1 m = y1 := ⟨_, rfl⟩
      have HPQ := zh (HPit.out m HM.out HIS.out)
      have HLT := zh (HLt.out m HM.out HIS.out)
      rw [hy0, hy1, ← HX.out] at HPQ HLT
      clear hy0 hy1
      obtain ⟨h3, hs3⟩ : ∃ h3, h.set a ⟨x, x⟩ = h3 := ⟨_, rfl⟩
      rw [hs3] at HPQ
      have HS3 := zh hs3
      clear hs3
      have HL3 : Aside0 (h3.length = h.length) := ⟨by rw [← HS3.out, List.length_set]⟩
      have HPP := zh HPQ.out.1
      have z0 : d0 ≤ wrap64 (y0 - x) := HPQ.out.2.1
      have z1 : wrap64 (y1 - x) ≤ d1 := HPQ.out.2.2
      have z2 : decide (wrap64 (y0 - x) < d0) = false := decide_eq_false (by omega)
      have z3 : decide (d1 < wrap64 (y1 - x)) = false := decide_eq_false (by omega)
      rw [← HLO.out, ← HHI.out] at HLT
      clear HPQ
      go_upto_region 32 with (first | ((with_reducible refine gate_dst (N := 194) rfl ?_); refine yC ST (N := some 194) (cCan H HCA _ ST.out.below) ?_ Tryd.func25; clear ST HC; intro v ST HC; simp only [Rd] at HC) | ((with_reducible refine gate_dst (N := 205) rfl ?_); refine yB (N := some 205) ST (t := 26) (F := fun v : Nat × Nat × Array Value => .agg (sc (some ⟨v.1, 0, none⟩) v.2.1 h3 A1 c1 s A2 c2 p b0 b1)) (R' := fun v => Row26 v.2.2 h3 ∧ h.length ≤ v.2.1) (cJustB (b0 := b0) (b1 := b1) H HS3 ha hn ST.out.below) ?_ Tryd.func44; clear ST HC; intro gj cj cur v ⟨hrow, hcap⟩ ST HC; have HQ := zh hrow; clear hrow; simp only [Rd] at HC) | ((with_reducible refine gate_dst (N := 207) rfl ?_); refine yC ST (N := some 207) (cPitch ⟨(H.out.below ST.out.below).row ST.out.blks.1 HQ.out HL3.out hn.2 hcap⟩ HPP _ (Below.refl _ _)) ?_ Tryd.func23; clear ST HC; intro v ST HC; simp only [Rd] at HC) | ((with_reducible refine gate_dst (N := 22) rfl ?_); refine yA ST (N := 22) (cs := #[.int .i64 0, .int .i64 0]) (t := 26) ?_; clear ST HC; intro g22 v ST HC; simp only [Rd] at HC) | ((with_reducible refine gate_store (p := 22) (v := (.tmp 208)) rfl ?_); refine yS (L' := [⟨g22, #[.int .i64 y0, .int .i64 y1], 26, true⟩, ⟨gj, cur, 26, true⟩, ⟨g9, #[.int .i64 d0, .int .i64 d1], 26, false⟩, ⟨g7, #[.int .i64 p0, .int .i64 p1], 26, false⟩, ⟨g3, #[.int .i64 n0, .int .i64 n1], 48, false⟩, ⟨g2, #[.slice (some ad) h.length c0, .slice A1 s.length c1, .slice A2 p.length c2, .int .i64 b0, .int .i64 b1], 28, false⟩]) ST (fun S => Sx.put (Sx.put S 0 (0) (.int .i64 y0) rfl) 0 (1) (.int .i64 y1) rfl) ?_; clear ST HC; intro v ST HC; simp only [Rd] at HC))
      cases lo with
      | false =>
       cases hi with
       | false =>
        refine yI (E := fun _ => True) (n := 22) (ds := []) ST (fun _ _ => trivial) r8.tab32 r8.bits32 ?_
        clear ST HC
        intro v ST HC HT_ HW_ HE_
        simp only [Rd] at HC
        refine zu 0 ?_
        refine zu 1 ?_
        refine zu 2 ?_
        refine zu 4 ?_
        refine zu 6 ?_
        refine zu 10 ?_
        refine zu 11 ?_
        refine zu 12 ?_
        refine zu 14 ?_
        refine zu 16 ?_
        refine yL 3 ST ?_
        refine zu 5 ?_
        refine yL 7 ST ?_
        refine zu 8 ?_
        refine zu 9 ?_
        refine zu 20 ?_
        refine yL 13 ST ?_
        refine zu 15 ?_
        refine yL 17 ST ?_
        refine zu 18 ?_
        refine zu 19 ?_
        refine zu 21 ?_
        refine zd ?_
        clear HT_ HW_ HE_
        go_wp2_with (fail)
        go_roundw
        case rel => exact ⟨m + 1, x + 1, _, _, HM.out, ⟨by have h9 := HX.out; omega⟩, ⟨by rw [HLT.out.1]; first | rfl | simp⟩, ⟨by rw [HLT.out.2]; first | rfl | simp⟩, rfl, rfl, by first | rfl | go_num | (rw [x2]), Sx.tail (Sx.tail ST)⟩
        case measure => simp [intOf]; omega
       | true =>
        refine yI (E := fun _ => True) (n := 22) (ds := []) ST (fun _ _ => trivial) r8.tab32 r8.bits32 ?_
        clear ST HC
        intro v ST HC HT_ HW_ HE_
        simp only [Rd] at HC
        refine zu 0 ?_
        refine zu 1 ?_
        refine zu 2 ?_
        refine zu 4 ?_
        refine zu 6 ?_
        refine zu 10 ?_
        refine zu 11 ?_
        refine zn 12 ?_
        refine zn 14 ?_
        refine zn 16 ?_
        refine yL 3 ST ?_
        refine zu 5 ?_
        refine yL 7 ST ?_
        refine zu 8 ?_
        refine zu 9 ?_
        refine zu 20 ?_
        refine yM 13 ST ?_
        refine zn 15 ?_
        refine yM 17 ST ?_
        refine zn 18 ?_
        refine zu 19 ?_
        refine zu 21 ?_
        refine zd ?_
        clear HT_ HW_ HE_
        go_wp2_with (fail)
        go_roundw
        case rel => exact ⟨m + 1, x + 1, _, _, HM.out, ⟨by have h9 := HX.out; omega⟩, ⟨by rw [HLT.out.1]; first | rfl | simp⟩, ⟨by rw [HLT.out.2]; rfl⟩, rfl, rfl, by first | rfl | go_num | (rw [x2]), Sx.tail (Sx.tail ST)⟩
        case measure => simp [intOf]; omega
      | true =>
       cases hi with
       | false =>
        refine yI (E := fun _ => True) (n := 22) (ds := []) ST (fun _ _ => trivial) r8.tab32 r8.bits32 ?_
        clear ST HC
        intro v ST HC HT_ HW_ HE_
        simp only [Rd] at HC
        refine zu 0 ?_
        refine zu 1 ?_
        refine zn 2 ?_
        refine zn 4 ?_
        refine zn 6 ?_
        refine zu 10 ?_
        refine zu 11 ?_
        refine zu 12 ?_
        refine zu 14 ?_
        refine zu 16 ?_
        refine yM 3 ST ?_
        refine zn 5 ?_
        refine yM 7 ST ?_
        refine zn 8 ?_
        refine zu 9 ?_
        refine zu 20 ?_
        refine yL 13 ST ?_
        refine zu 15 ?_
        refine yL 17 ST ?_
        refine zu 18 ?_
        refine zu 19 ?_
        refine zu 21 ?_
        refine zd ?_
        clear HT_ HW_ HE_
        go_wp2_with (fail)
        go_roundw
        case rel => exact ⟨m + 1, x + 1, _, _, HM.out, ⟨by have h9 := HX.out; omega⟩, ⟨by rw [HLT.out.1]; rfl⟩, ⟨by rw [HLT.out.2]; first | rfl | simp⟩, rfl, rfl, by first | rfl | go_num | (rw [x2]), Sx.tail (Sx.tail ST)⟩
        case measure => simp [intOf]; omega
       | true =>
        refine yI (E := fun _ => True) (n := 22) (ds := []) ST (fun _ _ => trivial) r8.tab32 r8.bits32 ?_
        clear ST HC
        intro v ST HC HT_ HW_ HE_
        simp only [Rd] at HC
        refine zu 0 ?_
        refine zu 1 ?_
        refine zn 2 ?_
        refine zn 4 ?_
        refine zn 6 ?_
        refine zu 10 ?_
        refine zu 11 ?_
        refine zn 12 ?_
        refine zn 14 ?_
        refine zn 16 ?_
        refine yM 3 ST ?_
        refine zn 5 ?_
        refine yM 7 ST ?_
        refine zn 8 ?_
        refine zu 9 ?_
        refine zu 20 ?_
        refine yM 13 ST ?_
        refine zn 15 ?_
        refine yM 17 ST ?_
        refine zn 18 ?_
        refine zu 19 ?_
        refine zu 21 ?_
        refine zd ?_
        clear HT_ HW_ HE_
        go_wp2_with (fail)
        go_roundw
        case rel => exact ⟨m + 1, x + 1, _, _, HM.out, ⟨by have h9 := HX.out; omega⟩, ⟨by rw [HLT.out.1]; rfl⟩, ⟨by rw [HLT.out.2]; rfl⟩, rfl, rfl, by first | rfl | go_num | (rw [x2]), Sx.tail (Sx.tail ST)⟩
        case measure => simp [intOf]; omega
    ·obtain rfl : m = M := by omega
     have x1 : ¬ x ≤ p1 := by have h9 := HX.out; have h8 := hM.out; omega
     obtain rfl : lo = true := by rw [HLO.out]; exact HLM.out.1
     obtain rfl : hi = true := by rw [HHI.out]; exact HLM.out.2
     clear hlt hm
     go_wp2_with (first | ((with_reducible refine gate_dst (N := 255) rfl ?_); refine gate_guard (by rfl) ?_; refine yC ST (N := some 255) (cPlayed H _ ST.out.below) ?_ Tryd.func22; clear ST HC; intro v ST HC; simp only [Rd] at HC))
     go_ret
     exact ⟨rfl, below_step HB0.out ST.out.below⟩
end
end Go.Proofs.YtgehkojccmkggaaDoor.K
end
section
namespace Go.Proofs.YtgehkojccmkggaaDoor.K
open Go.RowKit Go.Shelf Go.Proofs.YtgehkojccmkggaaDoorW.PrintWords Go.Proofs.YtgehkojccmkggaaDoorW.PrintLast Go.Proofs.YtgehkojccmkggaaDoorW.PrintMore Go.Proofs.YtgehkojccmkggaaDoor.H Tune
set_option linter.unusedVariables false
set_option linter.unusedSimpArgs false
attribute [local go_sem] Oper.semAt_some
def Tg (h : List S26) (s : List S61) (p : List S48) (B : Int × Int) (l : Nat → Int) : Prop := (∀ x, x < h.length → loH h x ≤ l x ∧ l x ≤ hiH h x) ∧ AllFit s p noLeft B l
section
variable {h : List S26} {s : List S61} {p : List S48} {b0 b1 : Int}
theorem Tg_iff (hc : checkT h s p b0 b1 = 0) (l : Nat → Int) : TunS h (jsOf h s p b0 b1) (b0, b1) l ↔ Tg h s p (b0, b1) l := TunS_plain hc _ _
theorem asked_g (hc : checkT h s p b0 b1 = 0) : (askedE h s p b0 b1 true = 0 ∧ ∃ l, Tg h s p (b0, b1) l) ∨ (askedE h s p b0 b1 true = 12 ∧ ¬ ∃ l, Tg h s p (b0, b1) l) := by
 have F := (fine_of hc).1
 have e : (tunS h (jsOf h s p b0 b1) noLeft (b0, b1) [] = true) ↔ ∃ l, Tg h s p (b0, b1) l := (tun_some F).trans (exists_congr fun l => Tg_iff hc l)
 unfold askedE
 rw [if_neg (fun e => e hc), if_neg (by decide)]
 by_cases ht : tunS h (jsOf h s p b0 b1) noLeft (b0, b1) [] = true
 ·rw [if_pos ht]; exact .inl ⟨rfl, e.1 ht⟩
 ·rw [if_neg ht]; exact .inr ⟨rfl, fun h9 => ht (e.2 h9)⟩
theorem inK_nat' {n k : Nat} (h : k < n) : inK n (k : Int) = true := by unfold inK; rw [decide_eq_true (by omega), decide_eq_true (by omega)]; rfl
theorem pitch_f (hsm : small h s p = true) {k : Nat} (hk : k < h.length) {E : Int} (hE : askedE h s p b0 b1 true = E) : tune_Pitch.f h s p b0 b1 (k : Int) = some ((pitchT h s p b0 b1 k).1, (pitchT h s p b0 b1 k).2, E) := by
 unfold tune_Pitch.f
 rw [if_pos hsm, inK_nat' hk, hE]
theorem pitch_g (hc : checkT h s p b0 b1 = 0) {k : Nat} (hk : k < h.length) (hE : askedE h s p b0 b1 true = 0) :
  (∀ l, Tg h s p (b0, b1) l → (pitchT h s p b0 b1 k).1 ≤ l k ∧ l k ≤ (pitchT h s p b0 b1 k).2) ∧ (∃ l, Tg h s p (b0, b1) l ∧ l k = (pitchT h s p b0 b1 k).1) ∧ ∃ l, Tg h s p (b0, b1) l ∧ l k = (pitchT h s p b0 b1 k).2 := by
 have F := (fine_of hc).1
 obtain ⟨_, _, hT⟩ := askedE_ok hE
 have hn := pitL_some F hk hT
 have hs := pitL_sorted h (jsOf h s p b0 b1) (b0, b1) k
 have hmem : ∀ q, q ∈ pitL h (jsOf h s p b0 b1) (b0, b1) k ↔ ∃ l, Tg h s p (b0, b1) l ∧ l k = q := fun q => by
  rw [mem_pitL, pit_iff F hk]
  constructor
  ·rintro ⟨_, _, l, hl, e⟩
   exact ⟨l, (Tg_iff hc l).1 hl, e⟩
  ·rintro ⟨l, hl, e⟩
   have h1 := hl.1 k hk
   exact ⟨by omega, by omega, l, (Tg_iff hc l).2 hl, e⟩
 unfold pitchT
 rw [inK_nat' hk, if_pos hE, Int.toNat_natCast]
 generalize pitL h (jsOf h s p b0 b1) (b0, b1) k = L at hn hs hmem ⊢
 have e0 : L.getD 0 0 = L[0] := by simp [List.getD_eq_getElem?_getD, hn]
 have e1 : L.getD (L.length - 1) 0 = L[L.length - 1]'(by omega) := by simp [List.getD_eq_getElem?_getD, show L.length - 1 < L.length by omega]
 refine ⟨fun l hl => ?_, (hmem _).1 ?_, (hmem _).1 ?_⟩
 ·obtain ⟨i, hi, ei⟩ := List.getElem_of_mem ((hmem (l k)).2 ⟨l, hl, rfl⟩)
  rw [List.pairwise_iff_getElem] at hs
  dsimp only
  rw [e0, e1, ← ei]
  constructor
  ·by_cases h0 : i = 0
   ·subst h0; exact Int.le_refl _
   ·exact Int.le_of_lt (hs 0 i hn hi (by omega))
  ·by_cases h0 : i = L.length - 1
   ·subst h0; exact Int.le_refl _
   ·exact Int.le_of_lt (hs i (L.length - 1) hi (by omega) (by omega))
 ·dsimp only; rw [e0]; exact List.getElem_mem _
 ·dsimp only; rw [e1]; exact List.getElem_mem _
theorem pitch_no {k : Nat} (hk : k < h.length) (hE : askedE h s p b0 b1 true = 12) : pitchT h s p b0 b1 (k : Int) = (0, 0) := by
 unfold pitchT
 rw [inK_nat' hk, if_neg (by rw [hE]; decide)]
theorem can_f (hsm : small h s p = true) (hc : checkT h s p b0 b1 = 0) {k : Nat} (hk : k < h.length) (q : Int) {E : Int} (hE : askedE h s p b0 b1 true = E) : ∃ r : Bool, tune_Can.f h s p b0 b1 (k : Int) q = some (r, E) ∧ (r = true ↔ ∃ l, Tg h s p (b0, b1) l ∧ l k = q) := by
 have F := (fine_of hc).1
 refine ⟨_, by unfold tune_Can.f; rw [if_pos hsm, inK_nat' hk, hE], ?_⟩
 have key : tunS h (jsOf h s p b0 b1) noLeft (b0, b1) [((k : Int), q)] = true ↔ ∃ l, Tg h s p (b0, b1) l ∧ l k = q := (pit_iff F hk).trans (exists_congr fun l => and_congr (Tg_iff hc l) Iff.rfl)
 unfold canB
 rw [inK_nat' hk, Bool.and_eq_true, key, decide_eq_true_eq]
 refine ⟨fun h9 => h9.2, fun h9 => ⟨?_, h9⟩⟩
 rcases asked_g hc with ⟨h1, _⟩ | ⟨_, h1⟩
 ·exact h1
 ·obtain ⟨l, hl, _⟩ := h9
  exact absurd ⟨l, hl⟩ h1
theorem tuning_g (hsm : small h s p = true) {E : Int} (hE : askedE h s p b0 b1 true = E) : ∃ r, tune_Tuning.f h s p b0 b1 = some (r, E) := ⟨_, by unfold tune_Tuning.f; rw [if_pos hsm, hE]⟩
theorem set_lo {a : Nat} (ha : a < h.length) (x y : Int) (k : Nat) : loH (h.set a ⟨x, y⟩) k = (if k = a then x else loH h k) ∧ hiH (h.set a ⟨x, y⟩) k = (if k = a then y else hiH h k) := by
 unfold loH hiH
 by_cases e : k = a
 ·subst e
  rw [if_pos rfl, if_pos rfl, show (h.set k ⟨x, y⟩).getD k z26 = ⟨x, y⟩ by simp [List.getD_eq_getElem?_getD, ha]]
  exact ⟨rfl, rfl⟩
 ·rw [if_neg e, if_neg e, show (h.set a ⟨x, y⟩).getD k z26 = h.getD k z26 by simp [List.getD_eq_getElem?_getD, List.getElem?_set, Ne.symm e]]
  exact ⟨rfl, rfl⟩
theorem check_set (hc : checkT h s p b0 b1 = 0) {a : Nat} {x y : Int} (ha : a < h.length) (h1 : 1 ≤ x) (h2 : x ≤ y) (h3 : y ≤ 4000) (h4 : y - x ≤ 40) : checkT (h.set a ⟨x, y⟩) s p b0 b1 = 0 := by
 obtain ⟨⟨a1, a2, a3, a4⟩, a5⟩ := check_iff.1 hc
 refine check_iff.2 ⟨⟨?_, ?_, a3, by rw [List.length_set]; exact a4⟩, a5⟩
 ·unfold ok0 at a1 ⊢
  rw [List.length_set]
  exact a1
 ·rw [List.all_eq_true] at a2 ⊢
  intro z hz
  rcases List.mem_or_eq_of_mem_set hz with hz | rfl
  ·exact a2 z hz
  ·unfold okHeard okSpan
   simp only [Bool.and_eq_true, decide_eq_true_eq]
   omega
theorem small_set (hsm : small h s p = true) (a : Nat) (v : S26) : small (h.set a v) s p = true := by unfold small at hsm ⊢; rw [List.length_set]; exact hsm
theorem Tg_set {a : Nat} (ha : a < h.length) {x y : Int} (h1 : loH h a ≤ x) (h2 : y ≤ hiH h a) (B : Int × Int) (l : Nat → Int) : Tg (h.set a ⟨x, y⟩) s p B l ↔ Tg h s p B l ∧ x ≤ l a ∧ l a ≤ y := by
 unfold Tg
 rw [List.length_set]
 constructor
 ·rintro ⟨g1, g2⟩
  have g3 := g1 a ha
  rw [(set_lo ha x y a).1, (set_lo ha x y a).2, if_pos rfl, if_pos rfl] at g3
  refine ⟨⟨fun k hk => ?_, g2⟩, g3⟩
  have g4 := g1 k hk
  rw [(set_lo ha x y k).1, (set_lo ha x y k).2] at g4
  by_cases e : k = a
  ·subst e; omega
  ·rw [if_neg e, if_neg e] at g4; exact g4
 ·rintro ⟨⟨g1, g2⟩, g3⟩
  refine ⟨fun k hk => ?_, g2⟩
  rw [(set_lo ha x y k).1, (set_lo ha x y k).2]
  by_cases e : k = a
  ·subst e; rw [if_pos rfl, if_pos rfl]; exact g3
  ·rw [if_neg e, if_neg e]; exact g1 k hk
end
end Go.Proofs.YtgehkojccmkggaaDoor.K
end
section
namespace Go.Proofs.YtgehkojccmkggaaDoor.K
open Go.RowKit Go.Shelf Go.Proofs.YtgehkojccmkggaaDoorW.PrintWords Go.Proofs.YtgehkojccmkggaaDoorW.PrintLast Go.Proofs.YtgehkojccmkggaaDoorW.PrintMore Go.Proofs.YtgehkojccmkggaaDoor.H Tune
set_option linter.unusedVariables false
set_option linter.unusedSimpArgs false
attribute [local go_sem] Oper.semAt_some
def InSpans (h : List S26) (l : List Int) : Prop := l.length = h.length ∧ ∀ i, i < h.length → loH h i ≤ l.getD i 0 ∧ l.getD i 0 ≤ hiH h i
section
variable {h : List S26} {s : List S61} {p : List S48} {b0 b1 : Int} {l : List Int}
theorem heard_of {js : List J} (F : Fine h js) (hl : InSpans h l) : Heard h.length l := by
 refine ⟨hl.1, fun x hx => ?_⟩
 obtain ⟨i, hi, rfl⟩ := List.getElem_of_mem hx
 have h1 := hl.2 i (by have := hl.1; omega)
 rw [show l.getD i 0 = l[i] by simp [List.getD_eq_getElem?_getD, hi]] at h1
 have h2 := F.span i (by have := hl.1; omega)
 omega
end
end Go.Proofs.YtgehkojccmkggaaDoor.K
end
section
namespace Go.Proofs.YtgehkojccmkggaaDoor.K
open Go.RowKit Go.Shelf Go.Proofs.YtgehkojccmkggaaDoorW.PrintWords Go.Proofs.YtgehkojccmkggaaDoorW.PrintLast Go.Proofs.YtgehkojccmkggaaDoorW.PrintMore Go.Proofs.YtgehkojccmkggaaDoor.H Tune
set_option linter.unusedVariables false
set_option linter.unusedSimpArgs false
attribute [local go_sem] Oper.semAt_some
attribute [local go_sem high] eqA26
attribute [local go_sem] max2_int min2_int max_two min_two
section
variable {A0 : Option Addr} {c0 : Nat} {h : List S26} {A1 : Option Addr} {c1 : Nat} {s : List S61} {A2 : Option Addr} {c2 : Nat} {p : List S48} {w : World} {b0 b1 : Int} {n0 n1 n2 : Int} (H : Aside0 (At A0 c0 h A1 c1 s A2 c2 p w))
include H
end
end Go.Proofs.YtgehkojccmkggaaDoor.K
end
section
namespace Go.Proofs.YtgehkojccmkggaaDoor.K
open Go.RowKit Go.Shelf Go.Proofs.YtgehkojccmkggaaDoorW.PrintWords Go.Proofs.YtgehkojccmkggaaDoorW.PrintLast Go.Proofs.YtgehkojccmkggaaDoorW.PrintMore Go.Proofs.YtgehkojccmkggaaDoor.H Tune
set_option linter.unusedVariables false
set_option linter.unusedSimpArgs false
attribute [local go_sem] Oper.semAt_some
theorem asked_two {h : List S26} {s : List S61} {p : List S48} {b0 b1 : Int} (hc : checkT h s p b0 b1 = 0) : askedE h s p b0 b1 true = 0 ∨ askedE h s p b0 b1 true = 12 := by
 unfold askedE
 rw [if_neg (fun e => e hc), if_neg (by decide)]
 split
 ·exact .inl rfl
 ·exact .inr rfl
theorem inK_nat {n k : Nat} (h : k < n) : inK n (k : Int) = true := by unfold inK; rw [decide_eq_true (by omega), decide_eq_true (by omega)]; rfl
theorem apart_f {h : List S26} {s : List S61} {p : List S48} {b0 b1 : Int} (hsm : small h s p = true) {x y : Nat} (hx : x < h.length) (hy : y < h.length) : tune_Apart.f h s p b0 b1 (x : Int) (y : Int) = some ((apartT h s p b0 b1 x y).1, (apartT h s p b0 b1 x y).2, askedE h s p b0 b1 true) := by
 unfold tune_Apart.f
 rw [if_pos hsm, show apartE h s p b0 b1 (x : Int) (y : Int) = askedE h s p b0 b1 true by unfold apartE; rw [inK_nat hx, inK_nat hy]; rfl]
theorem apart_no {h : List S26} {s : List S61} {p : List S48} {b0 b1 : Int} {x y : Nat} (hx : x < h.length) (hy : y < h.length) (hE : askedE h s p b0 b1 true = 12) : apartT h s p b0 b1 (x : Int) (y : Int) = (0, 0) := by
 unfold apartT
 rw [if_neg]
 rw [show apartE h s p b0 b1 (x : Int) (y : Int) = askedE h s p b0 b1 true by unfold apartE; rw [inK_nat hx, inK_nat hy]; rfl, hE]
 decide
end Go.Proofs.YtgehkojccmkggaaDoor.K
end
section
namespace Go.Proofs.YtgehkojccmkggaaDoor.K
open Go.RowKit Go.Shelf Go.Proofs.YtgehkojccmkggaaDoorW.PrintWords Go.Proofs.YtgehkojccmkggaaDoorW.PrintLast Go.Proofs.YtgehkojccmkggaaDoorW.PrintMore Go.Proofs.YtgehkojccmkggaaDoor.H Tune
set_option linter.unusedVariables false
set_option linter.unusedSimpArgs false
attribute [local go_sem] Oper.semAt_some
section
variable {h : List S26} {s : List S61} {p : List S48} {b0 b1 : Int}
theorem tuning_is (hc : checkT h s p b0 b1 = 0) (hE : askedE h s p b0 b1 true = 0) : InSpans h (tuningL h s p b0 b1) ∧ (jsOf h s p b0 b1).all (fitJ (b0, b1) (tuningL h s p b0 b1)) = true ∧ TunS h (jsOf h s p b0 b1) (b0, b1) fun x => (tuningL h s p b0 b1).getD x 0 := by
 have F := (fine_of hc).1
 obtain ⟨_, _, hT⟩ := askedE_ok hE
 obtain ⟨h8, h9⟩ := tunL_spec F noLeft (b0, b1) []
 have h7 := tunL_some F noLeft (b0, b1) []
 unfold tuningL
 rw [if_pos hE]
 cases ht : tunL h (jsOf h s p b0 b1) noLeft (b0, b1) [] with
 | none => rw [ht, hT] at h7; cases h7
 | some l =>
  obtain ⟨_, e1, e2, _⟩ := h9 l ht
  have hin : InSpans h l := ⟨e1, fun i hi => ⟨(e2.1 i hi rfl).1, (e2.1 i hi rfl).2.1⟩⟩
  refine ⟨hin, ?_, e2⟩
  have hi := isT_iff.2 ⟨e1, e2⟩
  unfold isT at hi
  rw [Bool.and_eq_true, Bool.and_eq_true] at hi
  exact hi.2.2
theorem set_asked (hc : checkT h s p b0 b1 = 0) {a : Nat} (ha : a < h.length) {x : Int} (h1 : loH h a ≤ x) (h2 : x ≤ hiH h a) : checkT (h.set a ⟨x, x⟩) s p b0 b1 = 0 ∧ ((∃ l, Tg h s p (b0, b1) l ∧ l a = x) → askedE (h.set a ⟨x, x⟩) s p b0 b1 true = 0) ∧ ((¬ ∃ l, Tg h s p (b0, b1) l ∧ l a = x) → askedE (h.set a ⟨x, x⟩) s p b0 b1 true = 12) := by
 have sp := (fine_of hc).1.span a ha
 have hd : checkT (h.set a ⟨x, x⟩) s p b0 b1 = 0 := check_set hc ha (by omega) (Int.le_refl _) (by omega) (by omega)
 refine ⟨hd, ?_, ?_⟩
 ·rintro ⟨l, hl, e⟩
  rcases asked_g hd with ⟨e, _⟩ | ⟨_, hno⟩
  ·exact e
  ·exact absurd ⟨l, (Tg_set ha h1 h2 _ l).2 ⟨hl, by omega, by omega⟩⟩ hno
 ·intro hno
  rcases asked_g hd with ⟨_, l, hl⟩ | ⟨e, _⟩
  ·have h9 := (Tg_set ha h1 h2 _ l).1 hl
   exact absurd ⟨l, h9.1, by omega⟩ hno
  ·exact e
end
theorem any_snoc (f : Nat → Bool) (m : Nat) : (List.range (m + 1)).any f = ((List.range m).any f || f m) := by rw [List.range_succ, List.any_append]; simp
theorem tuneEnds_true {A0 : Option Addr} {c0 : Nat} {h : List S26} {A1 : Option Addr} {c1 : Nat} {s : List S61} {A2 : Option Addr} {c2 : Nat} {p : List S48} {w : World} {b0 b1 : Int} (n0 n1 : Int) (H : At A0 c0 h A1 c1 s A2 c2 p w) :
  Calls Tryd.prog 8 #[.agg #[.slice A0 h.length c0, .slice A1 s.length c1, .slice A2 p.length c2, .int .i64 b0, .int .i64 b1], .agg #[.int .i64 n0, .int .i64 n1]] w fun e w' => e = .returned (.bool true) ∧ Below w.heap.size w w' := by
 have hsm := H.sm
 by_cases hc : checkT h s p b0 b1 = 0
 ·obtain ⟨F, _⟩ := fine_of hc
  have hn : 0 < h.length ∧ h.length ≤ 8 := ⟨F.some, F.few⟩
  obtain ⟨ad, rfl⟩ := H.addr hn.1
  obtain ⟨a, ha, ea⟩ := turn_at n0 h.length F.some (by omega)
  obtain ⟨b, hb, eb⟩ := turn_at n1 h.length F.some (by omega)
  have sa := F.span a ha
  have sb := F.span b hb
  have A := asked_g hc
  have tf : tune_Tuning.f h s p b0 b1 = some (tuningL h s p b0 b1, askedE h s p b0 b1 true) := by unfold tune_Tuning.f; rw [if_pos hsm]
  rcases asked_two hc with hE | hE
  ·obtain ⟨t1, t2, t3⟩ := tuning_is hc hE
   obtain ⟨q1, ⟨l1, hl1, e1⟩, ⟨l2, hl2, e2⟩⟩ := pitch_g hc ha hE
   obtain ⟨_, r1, ⟨l3, hl3, e3⟩, ⟨l4, hl4, e4⟩⟩ := apart_range (s := s) (p := p) (b0 := b0) (b1 := b1) ha hb hE
   have hP := pitch_f hsm ha hE
   have hD := apart_f (b0 := b0) (b1 := b1) hsm ha hb
   rw [hE] at hD tf
   generalize hp0 : (pitchT h s p b0 b1 (a : Int)).1 = p0 at *
   generalize hp1 : (pitchT h s p b0 b1 (a : Int)).2 = p1 at *
   generalize hd0 : (apartT h s p b0 b1 (a : Int) (b : Int)).1 = d0 at *
   generalize hd1 : (apartT h s p b0 b1 (a : Int) (b : Int)).2 = d1 at *
   have ta := q1 _ ((Tg_iff hc _).1 t3)
   have td := r1 _ t3
   have b1a := t1.2 a ha
   have b1b := t1.2 b hb
   have v1 := hl1.1 a ha
   have v2 := hl2.1 a ha
   have hw : wrap64 ((tuningL h s p b0 b1).getD b 0 - (tuningL h s p b0 b1).getD a 0) = (tuningL h s p b0 b1).getD b 0 - (tuningL h s p b0 b1).getD a 0 := w64 (by omega) (by omega)
   have hw2 : wrap64 (p0 - 1) = p0 - 1 := w64 (by omega) (by omega)
   have hw3 : wrap64 (p1 + 1) = p1 + 1 := w64 (by omega) (by omega)
   have key : ∀ x : Int, loH h a ≤ x → x ≤ hiH h a → (∃ l, Tg h s p (b0, b1) l ∧ l a = x) → tune_Pitch.f (h.set a ⟨x, x⟩) s p b0 b1 (b : Int) = some ((pitchT (h.set a ⟨x, x⟩) s p b0 b1 b).1, (pitchT (h.set a ⟨x, x⟩) s p b0 b1 b).2, 0) ∧ d0 ≤ wrap64 ((pitchT (h.set a ⟨x, x⟩) s p b0 b1 b).1 - x) ∧ wrap64 ((pitchT (h.set a ⟨x, x⟩) s p b0 b1 b).2 - x) ≤ d1 ∧ ∀ l, Tg h s p (b0, b1) l → l a = x → wrap64 ((pitchT (h.set a ⟨x, x⟩) s p b0 b1 b).1 - x) ≤ l b - l a ∧ l b - l a ≤ wrap64 ((pitchT (h.set a ⟨x, x⟩) s p b0 b1 b).2 - x) := by
    intro x x1 x2 hx
    obtain ⟨k1, k2, _⟩ := set_asked hc ha x1 x2
    have hb2 : b < (h.set a ⟨x, x⟩).length := by rw [List.length_set]; exact hb
    obtain ⟨y1, ⟨m1, y2, y3⟩, ⟨m2, y4, y5⟩⟩ := pitch_g k1 hb2 (k2 hx)
    have u1 := (Tg_set ha x1 x2 _ m1).1 y2
    have u2 := (Tg_set ha x1 x2 _ m2).1 y4
    have g1 := u1.1.1 b hb
    have g2 := u2.1.1 b hb
    have f1 := r1 m1 ((Tg_iff hc _).2 u1.1)
    have f2 := r1 m2 ((Tg_iff hc _).2 u2.1)
    have w1 : wrap64 ((pitchT (h.set a ⟨x, x⟩) s p b0 b1 b).1 - x) = (pitchT (h.set a ⟨x, x⟩) s p b0 b1 b).1 - x := w64 (by omega) (by omega)
    have w2 : wrap64 ((pitchT (h.set a ⟨x, x⟩) s p b0 b1 b).2 - x) = (pitchT (h.set a ⟨x, x⟩) s p b0 b1 b).2 - x := w64 (by omega) (by omega)
    refine ⟨pitch_f (small_set hsm a ⟨x, x⟩) hb2 (k2 hx), by omega, by omega, fun l hl e => ?_⟩
    have := y1 l ((Tg_set ha x1 x2 _ l).2 ⟨hl, by omega, by omega⟩)
    omega
   have inx : ∀ x : Int, (∃ l, Tg h s p (b0, b1) l ∧ l a = x) → loH h a ≤ x ∧ x ≤ hiH h a := by
    rintro x ⟨l, hl, e⟩
    have := hl.1 a ha
    omega
   obtain ⟨is_t, his⟩ : ∃ is_t : Nat → Bool, ∀ m : Nat, is_t m = true ↔ ∃ l, Tg h s p (b0, b1) l ∧ l a = p0 + (m : Int) := by
    classical
    exact ⟨fun m => decide (∃ l, Tg h s p (b0, b1) l ∧ l a = p0 + (m : Int)), fun m => decide_eq_true_iff⟩
   refine ends_C (M := (p1 + 1 - p0).toNat) (is_t := is_t) (q0 := fun m => (pitchT (h.set a ⟨p0 + (m : Int), p0 + (m : Int)⟩) s p b0 b1 b).1) (q1 := fun m => (pitchT (h.set a ⟨p0 + (m : Int), p0 + (m : Int)⟩) s p b0 b1 b).2)
    (LO := fun m => (List.range m).any fun i => is_t i && decide (wrap64 ((pitchT (h.set a ⟨p0 + (i : Int), p0 + (i : Int)⟩) s p b0 b1 b).1 - (p0 + (i : Int))) = d0)) (HI := fun m => (List.range m).any fun i => is_t i && decide (wrap64 ((pitchT (h.set a ⟨p0 + (i : Int), p0 + (i : Int)⟩) s p b0 b1 b).2 - (p0 + (i : Int))) = d1))
    ⟨H⟩ (decide_eq_true hc) ha hb ⟨ea⟩ ⟨eb⟩ hn ⟨hP⟩ ⟨hD⟩ ⟨tf⟩ ⟨t1.1⟩ ⟨rfl⟩ ⟨rfl⟩ ⟨neat_of hc⟩ ⟨heard_of F t1⟩ ⟨t2⟩ ?_ ?_ ?_ ⟨rfl⟩ ⟨?_⟩ ⟨by omega⟩ ⟨by omega, by omega⟩ ⟨rfl, rfl⟩ ⟨?_⟩ ⟨?_⟩ ⟨?_⟩ ⟨?_⟩ ⟨?_⟩
   ·rw [decide_eq_true (by omega), decide_eq_true (by omega)]; rfl
   ·rw [hw, decide_eq_true (by omega), decide_eq_true (by omega)]; rfl
   ·unfold saronref00_Under.f
    rw [if_pos (by omega), decide_eq_true (by omega)]
   ·intro k hk x1 x2
    obtain ⟨k1, k2, k3⟩ := set_asked hc ha x1 x2
    match k, hk with
    | 0, _ => exact tuning_g (small_set hsm a _) (k2 ⟨l1, hl1, e1⟩)
    | 1, _ => exact tuning_g (small_set hsm a _) (k2 ⟨l2, hl2, e2⟩)
    | 2, _ => exact tuning_g (small_set hsm a _) (k3 fun ⟨l, hl, e⟩ => by
      have := q1 l hl
      have e' : l a = wrap64 (p0 - 1) := e
      omega)
    | 3, _ => exact tuning_g (small_set hsm a _) (k3 fun ⟨l, hl, e⟩ => by
      have := q1 l hl
      have e' : l a = wrap64 (p1 + 1) := e
      omega)
   ·have g3 := (Tg_iff hc _).1 hl3
    have g4 := (Tg_iff hc _).1 hl4
    have z3 := q1 _ g3
    have z4 := q1 _ g4
    constructor
    ·refine List.any_eq_true.2 ⟨(l3 a - p0).toNat, List.mem_range.2 (by omega), ?_⟩
     have ex : ∃ l, Tg h s p (b0, b1) l ∧ l a = p0 + (((l3 a - p0).toNat : Nat) : Int) := ⟨l3, g3, by omega⟩
     obtain ⟨i1, i2⟩ := inx _ ex
     obtain ⟨_, j1, j2, j3⟩ := key _ i1 i2 ex
     have := j3 l3 g3 (by omega)
     rw [(his _).2 ex, decide_eq_true (by omega)]; rfl
    ·refine List.any_eq_true.2 ⟨(l4 a - p0).toNat, List.mem_range.2 (by omega), ?_⟩
     have ex : ∃ l, Tg h s p (b0, b1) l ∧ l a = p0 + (((l4 a - p0).toNat : Nat) : Int) := ⟨l4, g4, by omega⟩
     obtain ⟨i1, i2⟩ := inx _ ex
     obtain ⟨_, j1, j2, j3⟩ := key _ i1 i2 ex
     have := j3 l4 g4 (by omega)
     rw [(his _).2 ex, decide_eq_true (by omega)]; rfl
   ·intro m hm
    obtain ⟨r, r1, r2⟩ := can_f hsm hc ha (p0 + (m : Int)) hE
    rw [r1, show r = is_t m from Bool.eq_iff_iff.2 (r2.trans (his m).symm)]
   ·intro m hm ht
    have ex := (his m).1 ht
    obtain ⟨i1, i2⟩ := inx _ ex
    obtain ⟨j0, j1, j2, _⟩ := key _ i1 i2 ex
    exact ⟨j0, j1, j2⟩
   ·intro m hm ht
    rw [any_snoc, any_snoc, ht]
    simp
   ·intro m hm ht
    rw [any_snoc, any_snoc, ht]
    simp
  ·have e12 : tuningL h s p b0 b1 = [] := by unfold tuningL; rw [if_neg (by rw [hE]; decide)]
   have hP := pitch_f hsm ha hE
   have hD := apart_f (b0 := b0) (b1 := b1) hsm ha hb
   rw [pitch_no ha hE] at hP
   rw [apart_no ha hb hE, hE] at hD
   rw [hE] at tf
   exact ends_B ⟨H⟩ (decide_eq_true hc) ha hb ⟨ea⟩ ⟨eb⟩ ⟨hP⟩ ⟨hD⟩ ⟨tf⟩ ⟨by rw [e12]; rfl⟩
 ·exact ends_A ⟨H⟩ (decide_eq_false hc)
end Go.Proofs.YtgehkojccmkggaaDoor.K
end
section
namespace Go.Proofs.YtgehkojccmkggaaDoor.tuneEnds
open Go.ChangeShapes Go.WideShapes Go.ChangeAt Go.RowKit Go.Proofs.YtgehkojccmkggaaDoorW.PrintWords Go.Proofs.YtgehkojccmkggaaDoor.H Go.Proofs.YtgehkojccmkggaaDoor.K
set_option linter.unusedVariables false
theorem own : ownKnob Tryd.prog.godebug = none := by kernel_rfl
theorem laidOut : laidOutB Tryd.prog = true := by kernel_rfl
abbrev zeros : Array Value := #[.agg #[.slice none 0 0, .slice none 0 0, .slice none 0 0, .int .i64 0, .int .i64 0], .agg #[.int .i64 0, .int .i64 0]]
theorem door_met (os : Os) (args : Array Value) : laidMetH Tryd.prog laid1 ((World.doorLaid Tryd.prog 600 os).forCall (fun _ _ => 0) ⟨#[], args, []⟩).memory :=
 laidMetH_of_parts3 (fuel := 8) (laidMet_of_run' 8 zk zk) zk zk
set_option maxRecDepth 100000 in
set_option maxHeartbeats 2000000 in
theorem lifted (os : Os) (started : os.Started) (H : Type) (enc : TypeId × Value → H) (F : Stop.Interp) :
  ReturnsInHanded {} Tryd.checked os 8 .any ((Rows.OpenSpec.upto Rows.tuneEndsSpec).preRow enc Tryd.prog Tryd.f8 Rows.tuneEndsUptoRow.domain false Rows.tuneEndsUptoRow.laid) (((Rows.OpenSpec.upto Rows.tuneEndsSpec).at F).post enc Tryd.prog Tryd.f8 false true false false) := by
 refine returnsInHanded_of_row (C := Tryd.checked) (s := Rows.OpenSpec.upto Rows.tuneEndsSpec) own started zk Tryd.func8
  (witness_row_at (enc := enc) (C := Tryd.checked) false (World.doorLaid Tryd.prog 600 os) zeros rfl zk zk zk
   (OpenSpec.preRow_of_cond (x := ([.agg [.nil, .nil, .nil, .agg [.lit (.int .i64 0), .lit (.int .i64 0)]], .agg [.lit (.int .i64 0), .lit (.int .i64 0)]], [], [])) 8 zk zk (fun k hk => by cases hk; kernel_rfl) zk (door_met os _))) ?_
 intro W base args ds gs before hval0 hW _ hcond _ hL _ _
 have hval : ∀ (j : Nat) t v, Tryd.f8.params[j]? = some t → args[j]? = some v → Value.okWide Tryd.prog W .any base t v := hval0
 have hbulk : Rows.uptoBulkAll (ds ++ gs) ≤ 1048576 := of_decide_eq_true (hcond _ rfl)
 have hW' := hW
 obtain ⟨p, q, hA0, hV, rfl, hfz, hnd⟩ := hW
 have hA : DataW.TrodAll enc Tryd.prog W 0 (fun _ => true) true Tryd.f8.params.toList args.toList ds p := hA0
 rw [Tryd.params8] at hA hval
 obtain ⟨v0, vs0, d0, ds0, p0, q0, hargs, rfl, rfl, h0, r0⟩ := trodAll_cons hA
 obtain ⟨v1, vs1, d1, ds1, p1, q1, rfl, rfl, rfl, h1, r1⟩ := trodAll_cons r0
 obtain ⟨rfl, rfl, rfl⟩ := trodAll_nil r1
 obtain rfl : args = #[v0, v1] := by cases args; simp_all
 obtain ⟨rfl, rfl⟩ := trodVars_none hV
 have hb0 : Rows.uptoBulk d0 ≤ 1048576 := by
  simp only [List.append_nil, Rows.uptoBulkAll] at hbulk
  omega
 have hb1 : Rows.uptoBulk d1 ≤ 1048576 := by
  simp only [List.append_nil, Rows.uptoBulkAll] at hbulk
  omega
 have k0 := h0
 have lt0 : ∀ x ∈ p0, x.block < W.heap.size := by obtain ⟨m, hm⟩ := k0; exact DataW.trod_lt m _ _ _ hm
 obtain ⟨A0, c0, l0, A1, c1, l1, A2, c2, l2, b0, b1, rfl, hc0, hC0, hc1, hC1, hc2, hC2, hs⟩ := arg_set (hval 0 28 v0 rfl rfl) h0 hb0
 have k1 := h1
 have lt1 : ∀ x ∈ p1, x.block < W.heap.size := by obtain ⟨m, hm⟩ := k1; exact DataW.trod_lt m _ _ _ hm
 obtain ⟨n0, n1, rfl, _, _⟩ := arg_two (hval 1 48 v1 rfl rfl) h1
 clear hA0 hval0
 have hG := glob_of_laid hL
 refine (tuneEnds_true n0 n1 ⟨hs, hG, hC0, hc0, hC1, hc1, hC2, hc2⟩).mono fun e W' ⟨he, bel⟩ => ?_
 subst he
 exact ⟨_, rfl, _, _, _, [], _, [], hW', trodAll_mk1 (shut_bool Tryd.underlying4 _), (trodAll_cons_mk (Below.trod laidOut zk (of_decide_eq_true zk) k0 bel lt0) (trodAll_cons_mk (Below.trod laidOut zk (of_decide_eq_true zk) k1 bel lt1) trodAll_mk0)), rfl, bel.frame _, fun h => by cases h⟩
theorem over : Rows.TuneEndsUptoSaid :=
 OpenClaim.holds_of_cond 8 Tryd.f8 rfl rfl rfl rfl rfl rfl rfl ⟨rfl, rfl, rfl, rfl, rfl⟩ rfl rfl rfl rfl rfl zk Tryd.func8 zk
  (of_decide_eq_true zk) (by unfold Func.isWrapper; first | (rw [if_pos (by decide +kernel)]; kernel_rfl) | (rw [if_neg (by decide +kernel)]; exact ⟨rfl, rfl⟩))
  (fun os started H enc _ F => by rw [OpenClaim.pre_eq_preRow]; exact lifted os started H enc F)
theorem proved : Rows.TuneEndsUptoCardSaid :=
 Claim7.holds_tied_plain_at .later [] _ _ _ _ over (fun _ h => by cases h) zk (fun _ h => by cases h) tuneEndsUpto_row_tie rfl ⟨rfl, rfl⟩ zk rfl
  (fun f fn hf hfn => by
   obtain rfl : f = 8 := Option.some.inj ((show Tryd.prog.funcNamed "saron/saronlaw01.TuneEnds" = some 8 by kernel_rfl).symm.trans hf) |>.symm
   obtain rfl : fn = Tryd.f8 := (Option.some.inj (Tryd.func8.symm.trans hfn)).symm
   exact ⟨by kernel_rfl, fun j t ht => by
    rw [Tryd.params8] at ht
    have hm : t ∈ [28, 48] := by simpa using Array.mem_of_getElem? ht
    have hall : ([28, 48].all fun u => !Tryd.prog.wantsStandIn u) = true := by kernel_rfl
    exact (show Tryd.prog.wantsStandIn t = false by simpa using List.all_eq_true.1 hall t hm)⟩)
  zk
end Go.Proofs.YtgehkojccmkggaaDoor.tuneEnds
namespace Go.Proofs.YtgehkojccmkggaaDoor
theorem tuneEnds_card : Rows.TuneEndsUptoCardSaid := tuneEnds.proved
end Go.Proofs.YtgehkojccmkggaaDoor
end
