/- TuneLeft, its second form: for every set, and any number that chooses the key, of bulk at most 1,048,576, the law returns true, and each argument reads afterwards as it read before. Condition: when the call begins the package's table of asks reads as the program's text lays it; the card ties that to the text. -/
import Derived.ArgAppend
import Derived.Below
import Derived.BigQuiet
import Derived.ChangeKeysEq
import Derived.Deep.AppendLies
import Derived.Deep.CutBlock
import Derived.Deep.DeepCutAuto
import Derived.Deep.DeepHandedRow
import Derived.Deep.Draws
import Derived.Deep.LoopGhost
import Derived.Deep.OwnRows
import Derived.Deep.QuietTactic
import Derived.Deep.RegionHeld3
import Derived.JoinedCond
import Derived.KernelRfl
import Derived.LaidMore
import Derived.Laws.BitsLemmas
import Derived.Laws.BytesArg
import Derived.Laws.IdiomCopy
import Derived.Laws.MakeOwn
import Derived.Laws.OwnMore
import Derived.Laws.Rows
import Derived.Laws.Slices
import Derived.Lib.AppendStr
import Derived.Lib.ConvBytes
import Derived.Lib.LaidTab
import Derived.Maps.AppendAt
import Derived.OpenShut
import Derived.OrdersHeld
import Derived.OwnWalk
import Derived.ProofKit
import Derived.RowKit
import Derived.RowKit3
import Derived.SevenTiedAt
import Derived.SizedLaws
import Derived.Stop.Joined
import Derived.Tactics
import Derived.WalkKit
import Derived.WideLaws
import Derived.Test.YtgehkojccmkggaaDoorCards
import Derived.Test.YtgehkojccmkggaaDoorProg
import Derived.Test.YtgehkojccmkggaaDoorTie
import Derived.Test.YtgehkojccmkggaaDoorZB1
import Derived.Test.YtgehkojccmkggaaDoorZB2
import Derived.Test.YtgehkojccmkggaaDoorZB5
import Derived.Test.YtgehkojccmkggaaDoorZB6
set_option linter.all false
section
set_option linter.unusedVariables false
set_option linter.unusedSimpArgs false
namespace Go.Proofs.YtgehkojccmkggaaDoorW.PrintWords
open Go.RowKit
theorem ReadsRow.inner_ {α : Type} {R : α → List Value → Prop} {size : Nat} {w : World} {ad : Addr} {n : Nat} {ps : List α} (h : ReadsRow R size w (some ad) n ps) :
  ∃ inner, Reps R size ps inner ∧ ∀ j u, inner[j]? = some u → w.cell? (ad.add j) = some u := by
 have key : ∀ m, m ≤ ps.length → ∃ inner, Reps R size (ps.take m) inner ∧ ∀ j u, inner[j]? = some u → w.cell? (ad.add j) = some u := by
  intro m
  induction m with
  | zero => exact fun _ => ⟨[], Reps.none _ _, fun j u hu => by simp at hu⟩
  | succ m ih =>
   intro hm
   obtain ⟨inner, hr, hc⟩ := ih (by omega)
   obtain ⟨ad', he, hcell⟩ := h.2.2 (by have := h.1; omega)
   injection he with he
   subst he
   obtain ⟨c, hcl, hp, hcc⟩ := hcell m _ (List.getElem?_eq_getElem (show m < ps.length by omega))
   refine ⟨inner ++ c, ?_, fun j u hu => ?_⟩
   ·rw [List.take_succ_eq_append_getElem (show m < ps.length by omega)]
    exact hr.snoc hp hcl
   ·have hil : inner.length = m * size := by rw [hr.1, List.length_take, Nat.min_eq_left (by omega)]
    rcases Nat.lt_or_ge j inner.length with hj | hj
    ·rw [List.getElem?_append_left hj] at hu
     exact hc j u hu
    ·rw [List.getElem?_append_right hj] at hu
     have := hcc (j - inner.length) u hu
     rwa [hil, Nat.add_sub_cancel' (by omega)] at this
 obtain ⟨inner, hr, hc⟩ := key ps.length (Nat.le_refl _)
 rw [List.take_length] at hr
 exact ⟨inner, hr, hc⟩
namespace Kd
theorem reps_append {α : Type} {R : α → List Value → Prop} {size : Nat} {ps qs : List α} {cs ds : List Value} (h : Reps R size ps cs) (h' : Reps R size qs ds) : Reps R size (ps ++ qs) (cs ++ ds) := by
 refine ⟨by rw [List.length_append, List.length_append, h.1, h'.1, Nat.add_mul], fun j p hj => ?_⟩
 rcases Nat.lt_or_ge j ps.length with hlt | hge
 ·rw [List.getElem?_append_left hlt] at hj
  have hle : j * size + size ≤ cs.length := by rw [h.1, ← Nat.succ_mul]; exact Nat.mul_le_mul_right _ hlt
  rw [List.drop_append_of_le_length (by omega), List.take_append_of_le_length (by rw [List.length_drop]; omega)]
  exact h.2 j p hj
 ·rw [List.getElem?_append_right hge] at hj
  have h2 := h'.2 (j - ps.length) p hj
  have hle : ps.length * size ≤ j * size := Nat.mul_le_mul_right _ hge
  rw [List.drop_append, List.drop_eq_nil_of_le (by rw [h.1]; exact hle), List.nil_append, h.1, ← Nat.sub_mul]
  exact h2
section
variable {P : Program} {ops : Array Oper} {rest : List Oper} {o : Oper} {a : Act} {Q : Exit → Act → World → Prop} {α : Type}
theorem R_append_rows (d : Kd α) {Rr : α → List Value → Prop} {w0 W : World} (base : Nat) (hgd : o.guard = none) (s x : Operand) (t e : TypeId) (z : Value) (bytes : Nat)
  (ho : o.op = .call { callee := .builtin .append, args := #[s, x], argTypes := #[t, t] })
  (ht : P.underlying t = some (.slice e)) (hinfo : (P.info? e).map (fun i => (i.zero, i.size, i.bytes)) = some (some z, d.sz, bytes)) (hz : z.cells.size = d.sz) (hs0 : 0 < d.sz) (hb0 : 0 < bytes)
  (v : Value) (xs ys : List α) (A : Option Addr) (m c : Nat) (ok okp : Nat → Prop) (hs : a.eval s = v) (hx : a.eval x = .slice A m c)
  (HO : d.R e W base ok v xs) (HR : ReadsRow Rr d.sz W A m ys) (hKM : ∀ x cs, Rr x cs → d.M W base okp x cs) (hokp : ∀ k, okp k → ok k ∧ some k ≠ v.ownBlock) (hfresh : ∀ k, W.heap.size ≤ k → ok k)
  (HB : Below base w0 W) (hbase : base ≤ W.heap.size) (hl : (xs.length + m) * bytes ≤ 140737488355328)
  (h : ∀ v1 w1, d.R e w1 base ok v1 (xs ++ ys) → Below base w0 w1 → W.grownBy w1 v.ownBlock → (v1.ownBlock = v.ownBlock ∨ ∃ b, v1.ownBlock = some b ∧ W.heap.size ≤ b) → wpList P ops Q rest (a.put o.dst v1) w1) :
  wpList P ops Q (o :: rest) a W := by
 obtain ⟨i0, hi, hzz⟩ := Option.map_eq_some_iff.1 hinfo
 simp only [Prod.mk.injEq] at hzz
 obtain ⟨hz0, hz1, hz2⟩ := hzz
 have hm : ys.length = m := HR.1
 have hlen : xs.length + m ≤ 140737488355328 := Nat.le_trans (Nat.le_mul_of_pos_right _ hb0) hl
 obtain ⟨hok, inner, hown, hr⟩ := HO
 have hrun : ∃ v1 w1, (Builtin.append_ #[t, t] o.type #[v, .slice A m c]).run P W = .ok v1 w1 ∧ d.R e w1 base ok v1 (xs ++ ys) ∧ W.grownBy w1 v.ownBlock ∧ (v1.ownBlock = v.ownBlock ∨ ∃ b, v1.ownBlock = some b ∧ W.heap.size ≤ b) := by
  rcases A with _ | ad
  ·have h0 : m = 0 := by
    rcases Nat.eq_zero_or_pos m with h0 | h0
    ·exact h0
    ·obtain ⟨ad, h, _⟩ := HR.2.2 h0
     cases h
   subst h0
   obtain rfl : ys = [] := List.eq_nil_of_length_eq_zero hm
   refine ⟨v, W, ?_, by rw [List.append_nil]; exact ⟨hok, inner, hown, hr⟩, World.grownBy.refl W _, .inl rfl⟩
   rcases hown.2 with ⟨rfl, hn⟩ | ⟨g, cap, cur, rfl, _, _, hnc, _⟩
   ·simp [Builtin.append_, run_underlying ht, sizeOf, typeInfo, hi, Builtin.lenOf, Builtin.firstCells]
   ·simp [Builtin.append_, run_underlying ht, sizeOf, typeInfo, hi, Builtin.lenOf, Builtin.firstCells, hnc, storeCells]
  ·obtain ⟨news, hnr, hnc⟩ := ReadsRow.inner_ HR
   have hnM : Reps (d.M W base okp) d.sz ys news := hnr.imp_ (fun p c hp => hKM p c hp)
   have hone : ∀ u ∈ news, u.oneCell' = true := by
    intro u hu
    obtain ⟨q, hq, rfl⟩ := List.mem_iff_getElem.1 hu
    have hql : q / d.sz < ys.length := by
     rw [Nat.div_lt_iff_lt_mul hs0]
     rw [← hnM.1]
     exact hq
    have hc := hnM.2 (q / d.sz) _ (List.getElem?_eq_getElem hql)
    refine d.K_one (d.K_of_M hc) _ ?_
    rw [List.mem_iff_getElem?]
    refine ⟨q % d.sz, ?_⟩
    rw [List.getElem?_take, if_pos (Nat.mod_lt _ hs0), List.getElem?_drop, Nat.mul_comm, Nat.div_add_mod, List.getElem?_eq_getElem hq]
   obtain ⟨v1, w1, hrun, h2, hg, _, hat⟩ := run_append_own_at (P := P) W base t o.type e i0 z d.sz bytes ht hi hz0 hz1 hz2 hz hs0 v xs.length inner hown ad m c news (by rw [hnM.1, hm]) hnc hone (by simp only [maxLen]; omega) hl hbase
   have hat' : v1.ownBlock = v.ownBlock ∨ ∃ b, v1.ownBlock = some b ∧ W.heap.size ≤ b := by
    rcases hat with hat | hat
    ·exact .inl hat
    ·exact .inr ⟨_, hat, Nat.le_refl _⟩
   have hne : ∀ k, some k ≠ v.ownBlock → k < W.heap.size → some k ≠ v1.ownBlock := by
    intro k hk hlt
    rcases hat' with hat | ⟨b, hb, hle⟩
    ·rw [hat]; exact hk
    ·rw [hb]
     intro he
     injection he with he
     omega
   have step : ∀ {q : α} {c : List Value} {o : Nat → Prop}, d.M W base o q c → (∀ k, o k → ok k ∧ some k ≠ v.ownBlock) → d.M w1 base (fun k => ok k ∧ some k ≠ v1.ownBlock) q c := by
    intro q c o hq ho
    have h1 := d.M_move (w1 := w1) (fun k hk => hg.block k hk.2.2.1 (ho k hk.1).2) (d.M_bound hq)
    exact d.M_mono (fun k hk => ⟨(ho k hk.1).1, hne k (ho k hk.1).2 hk.2.2.1⟩) h1
   refine ⟨v1, w1, hrun, ⟨fun k hk => ?_, inner ++ news, by rw [List.length_append, hm]; exact h2, reps_append (hr.imp_ (fun _ _ hq => step hq (fun _ hk => hk))) (hnM.imp_ (fun _ _ hq => step hq hokp))⟩, hg, hat'⟩
   rcases hat' with hat | ⟨b, hb, hle⟩
   ·exact hok k (hat ▸ hk)
   ·rw [hb] at hk
    injection hk with hk
    exact hfresh k (by omega)
 obtain ⟨v1, w1, hr1, h1, hg, hat⟩ := hrun
 refine wpList_plain hgd fun K hK => ?_
 unfold Oper.wp execOp
 simp only [ho, resolve, invoke, builtin, Sem.run_bind, Sem.run_pure, Result.andThen_ok, List.map_toArray, List.map_cons, List.map_nil, hs, hx, hr1]
 exact hK _ _ (h v1 w1 h1 (HB.grown hg hbase (own_base hown)) hg hat)
end
end Kd
end Go.Proofs.YtgehkojccmkggaaDoorW.PrintWords
end
section
namespace Go.Proofs.YtgehkojccmkggaaDoor.H
open Go.RowKit Go.Proofs.YtgehkojccmkggaaDoorW.PrintWords Go.Proofs.YtgehkojccmkggaaDoorW.PrintLast Go.Proofs.YtgehkojccmkggaaDoorW.PrintMore
set_option linter.unusedVariables false
set_option linter.unusedSimpArgs false
theorem info26 : (Tryd.prog.info? 26).map (fun i => (i.zero, i.size, i.bytes)) = some (some (.agg #[(.int .i64 0), (.int .i64 0)]), 2, 16) := by kernel_rfl
theorem info48 : (Tryd.prog.info? 48).map (fun i => (i.zero, i.size, i.bytes)) = some (some (.agg #[(.int .i64 0), (.int .i64 0)]), 2, 16) := by kernel_rfl
theorem info61 : (Tryd.prog.info? 61).map (fun i => (i.zero, i.size, i.bytes)) = some (some (.agg #[(.slice none 0 0), (.slice none 0 0)]), 2, 48) := by kernel_rfl
theorem k26_openM {w : World} {base : Nat} {ok : Nat → Prop} {x : S26} {cs : List Value} (h : k26.M w base ok x cs) : cs = [.int .i64 x.f0, .int .i64 x.f1] := by
 obtain ⟨_, _, rfl, rfl, rfl⟩ := h
 exact rfl
end Go.Proofs.YtgehkojccmkggaaDoor.H
end
section
namespace Go.Proofs.YtgehkojccmkggaaDoor.K
open Go.RowKit Go.Proofs.YtgehkojccmkggaaDoorW.PrintWords Go.Proofs.YtgehkojccmkggaaDoorW.PrintLast Go.Proofs.YtgehkojccmkggaaDoorW.PrintMore
section
variable {P : Program} {md : Region.Mode} {ops : Array Oper} {Q : Exit → Act → World → Prop} {ds : List Nat} {w0 w : World} {L : List Bk} {n_ : Tmp} {oi : Oper} {fuel : Nat} {l : Array Bool} {a a' : Act}
theorem zS (i : Nat) {S : World → Prop} (ST : Aside0 (St w0 w L)) {w2 : World} {L' : List Bk} (hst : Aside0 (St w0 w L) → Aside0 (St w0 w2 L')) (h : ∀ w1, Aside0 (St w0 w1 L') → Rd w1 L' → wpAnyLast P md ops Q S ds fuel (l.setIfInBounds i true) a w1)
  {rest : List Oper} (hi : ops.toList.drop i = oi :: rest := by exact rfl) (hN : oi.dst = none := by exact rfl) (hc : readyB md ops l (l.setIfInBounds i true) i = true := by exact one_of HT_.out zk) (hd : i ∈ ds := by decide) (hw : Region.wanted oi (yielded ops a.tmps) = true := by rfl)
  (hrun : (execOp a.eval oi).run P w = .ok .skip w2 := by first | (go_simp; done) | (go_simp; rfl)) : wpAnyLast P md ops Q S ds (fuel + 1) l a w := by
 refine last_ _ (drop_at hi) hN hc hd (fun K hK => ?_)
 exact skip_ hw hN hrun (hK.out _ _ (h w2 (hst ST) (St.rd (hst ST))))
end
end Go.Proofs.YtgehkojccmkggaaDoor.K
end
section
namespace Go.Proofs.YtgehkojccmkggaaDoor.K
open Go.RowKit Go.Proofs.YtgehkojccmkggaaDoorW.PrintWords Go.Proofs.YtgehkojccmkggaaDoorW.PrintLast Go.Proofs.YtgehkojccmkggaaDoorW.PrintMore
structure Rw where
 e : TypeId
 sz : Nat
 v : Value
 n : Nat
 inner : List Value
structure Sx (w0 w : World) (L : List Bk) (R : List Rw) (I : World → Prop) : Prop where
 below : Below w0.heap.size w0 w
 blks : Blks w L
 own : ∀ x ∈ L, x.own = true → w0.heap.size ≤ x.g
 apart : L.Pairwise fun x y => x.g ≠ y.g
 rows : ∀ r ∈ R, w.ownsRow w0.heap.size r.e r.sz r.v r.n r.inner
 far : ∀ r ∈ R, ∀ k, r.v.ownBlock = some k → ∀ x ∈ L, x.g ≠ k
 alone : R.Pairwise fun r q => ∀ k, r.v.ownBlock = some k → q.v.ownBlock ≠ some k
 ex : ∃ ok : Nat → Prop, Foot I w ok ∧ (∀ k, ok k → k < w.heap.size) ∧ (∀ k, ok k → ∀ x ∈ L, x.own = true → x.g ≠ k) ∧ ∀ k, ok k → ∀ r ∈ R, r.v.ownBlock ≠ some k
section
variable {w0 w w1 : World} {L : List Bk} {R : List Rw} {I J : World → Prop}
theorem Sx.rd (h : Aside0 (Sx w0 w L R I)) : Rd w L := h.out.blks.rd
theorem Sx.start (w0 : World) : Aside0 (Sx w0 w0 [] [] (fun _ => True)) := ⟨⟨Below.refl _ _, trivial, (fun x hx => by cases hx), List.Pairwise.nil, (fun x hx => by cases hx), (fun x hx => by cases hx), List.Pairwise.nil, fun _ => False, fun _ _ => trivial, (fun _ h => h.elim), (fun _ h => h.elim), (fun _ h => h.elim)⟩⟩
theorem Sx.call (h : Aside0 (Sx w0 w L R I)) (hb : Below w.heap.size w w1) : Aside0 (Sx w0 w1 L R I) := by
 obtain ⟨⟨a1, a2, a3, a4, a5, a6, a7, ok, b1, b2, b3, b4⟩⟩ := h
 refine ⟨⟨below_step a1 hb, a2.map fun _ _ hx => blk_below hx hb, a3, a4, fun r hr => own_move (a5 r hr) (fun k hk => hb.block k ((a5 r hr).lt k hk).2), a6, a7, ok, b1.step (fun k _ hlt => hb.block k hlt), fun k hk => ?_, b3, b4⟩⟩
 have := b2 k hk
 have := hb.size
 omega
theorem Sx.drew (h : Aside0 (Sx w0 w L R I)) : Aside0 (Sx w0 w.drew L R I) := Sx.call h (below_drew1 (Below.refl _ _))
theorem Sx.alloc (h : Aside0 (Sx w0 w L R I)) (cs : Array Value) (t : TypeId) : Aside0 (Sx w0 (w.alloc (.cells cs t (0, 0))) (⟨w.heap.size, cs, t, true⟩ :: L) R I) := by
 have h2 := Sx.call h (below_alloc (Below.refl w.heap.size w) (.cells cs t (0, 0)))
 obtain ⟨⟨a1, a2, a3, a4, a5, a6, a7, ok, b1, b2, b3, b4⟩⟩ := h
 obtain ⟨⟨c1, c2, _, _, c5, _, _, _⟩⟩ := h2
 have hs : w.heap.size < (w.alloc (.cells cs t (0, 0))).heap.size := blk_lt (blk_new w _)
 refine ⟨⟨c1, ⟨blk_new w _, c2⟩, ?_, List.Pairwise.cons (fun x hx => ?_) a4, c5, ?_, a7, ok, b1.step (fun k _ hlt => Below.heap_alloc w _ k hlt), (fun k hk => by have := b2 k hk; omega), ?_, b4⟩⟩
 ·intro x hx e
  rcases List.mem_cons.1 hx with rfl | hx
  ·exact a1.size
  ·exact a3 x hx e
 ·have := blk_lt (a2.of_mem hx)
  show w.heap.size ≠ x.g
  omega
 ·intro r hr k hk x hx
  rcases List.mem_cons.1 hx with rfl | hx
  ·have := ((a5 r hr).lt k hk).2
   show w.heap.size ≠ k
   omega
  ·exact a6 r hr k hk x hx
 ·intro k hk x hx e
  rcases List.mem_cons.1 hx with rfl | hx
  ·have := b2 k hk
   show w.heap.size ≠ k
   omega
  ·exact b3 k hk x hx e
theorem Sx.put (h : Aside0 (Sx w0 w L R I)) (k i : Nat) (u : Value) {g : Nat} {cs : Array Value} {t : TypeId} (hk : L[k]? = some ⟨g, cs, t, true⟩) : Aside0 (Sx w0 (w.setCell ⟨g, i, none⟩ u) (L.set k ⟨g, cs.setIfInBounds i u, t, true⟩) R I) := by
 obtain ⟨⟨a1, a2, a3, a4, a5, a6, a7, ok, b1, b2, b3, b4⟩⟩ := h
 obtain ⟨hlt, hk'⟩ := List.getElem?_eq_some_iff.1 hk
 have hmem : (⟨g, cs, t, true⟩ : Bk) ∈ L := by rw [← hk']; exact List.getElem_mem hlt
 have hg : w0.heap.size ≤ g := a3 _ hmem rfl
 have hsz : (w.setCell ⟨g, i, none⟩ u).heap.size = w.heap.size := by simp [World.setCell]
 have hin : ∀ x, x ∈ L.set k ⟨g, cs.setIfInBounds i u, t, true⟩ → ∃ y ∈ L, y.g = x.g ∧ y.own = x.own := fun x hx => by
  rcases List.mem_or_eq_of_mem_set hx with hx | rfl
  ·exact ⟨x, hx, rfl, rfl⟩
  ·exact ⟨_, hmem, rfl, rfl⟩
 refine ⟨⟨a1.setCell (p := ⟨g, i, none⟩) hg u, ?_, ?_, ?_, ?_, ?_, a7, ok, ?_, ?_, ?_, b4⟩⟩
 ·clear a1 a3 a5 a6 a7 b1 b2 b3 b4 hg hlt hk' hmem hin hsz
  induction L generalizing k with
  | nil => cases hk
  | cons x L ih =>
   rw [List.pairwise_cons] at a4
   cases k with
   | zero =>
    obtain rfl : x = ⟨g, cs, t, true⟩ := by simpa using hk
    refine ⟨blk_set a2.1 i u, a2.2.map fun y hy hx => blk_far hx (p := ⟨g, i, none⟩) ?_ u⟩
    exact Ne.symm (a4.1 y hy)
   | succ k =>
    have hk2 : L[k]? = some ⟨g, cs, t, true⟩ := by simpa using hk
    have hm : (⟨g, cs, t, true⟩ : Bk) ∈ L := List.mem_of_getElem? hk2
    exact ⟨blk_far a2.1 (p := ⟨g, i, none⟩) (a4.1 _ hm) u, ih (k := k) hk2 a2.2 a4.2⟩
 ·intro x hx e
  obtain ⟨y, hy, e1, e2⟩ := hin x hx
  rw [← e1]
  exact a3 y hy (by rw [e2]; exact e)
 ·rw [List.pairwise_iff_getElem] at a4 ⊢
  intro a b ha hb hab
  rw [List.length_set] at ha hb
  have h5 := a4 a b ha hb hab
  have key : ∀ m (hm : m < L.length), ((L.set k ⟨g, cs.setIfInBounds i u, t, true⟩)[m]'(by rw [List.length_set]; exact hm)).g = (L[m]).g := fun m hm => by
   rw [List.getElem_set]
   split
   ·rename_i e; subst e; rw [hk']
   ·rfl
  rw [key a ha, key b hb]
  exact h5
 ·intro r hr
  refine own_move (a5 r hr) (fun m hm => Below.heap_setCell w _ u m ?_)
  exact Ne.symm (a6 r hr m hm _ hmem)
 ·intro r hr m hm x hx
  obtain ⟨y, hy, e1, _⟩ := hin x hx
  rw [← e1]
  exact a6 r hr m hm y hy
 ·exact b1.step (fun m hm _ => Below.heap_setCell w _ u m (Ne.symm (b3 m hm _ hmem rfl)))
 ·intro m hm
  rw [hsz]
  exact b2 m hm
 ·intro m hm x hx e
  obtain ⟨y, hy, e1, e2⟩ := hin x hx
  rw [← e1]
  exact b3 m hm y hy (by rw [e2]; exact e)
theorem Sx.less (h : Aside0 (Sx w0 w L R I)) {L' : List Bk} (hs : L'.Sublist L) : Aside0 (Sx w0 w L' R I) := by
 obtain ⟨⟨a1, a2, a3, a4, a5, a6, a7, ok, b1, b2, b3, b4⟩⟩ := h
 refine ⟨⟨a1, ?_, fun x hx => a3 x (hs.subset hx), a4.sublist hs, a5, fun r hr k hk x hx => a6 r hr k hk x (hs.subset hx), a7, ok, b1, b2, fun k hk x hx => b3 k hk x (hs.subset hx), b4⟩⟩
 clear a1 a3 a4 a5 a6 a7 b1 b2 b3 b4
 induction hs with
 | slnil => trivial
 | cons _ _ ih => exact ih a2.2
 | cons_cons _ _ ih => exact ⟨a2.1, ih a2.2⟩
theorem Sx.tail (h : Aside0 (Sx w0 w L R I)) {x : Bk} {L' : List Bk} (e : L = x :: L' := by rfl) : Aside0 (Sx w0 w L' R I) := Sx.less h (by rw [e]; exact List.sublist_cons_self _ _)
theorem Sx.row (h : Aside0 (Sx w0 w L R I)) (e sz : Nat) : Aside0 (Sx w0 w L (⟨e, sz, .slice none 0 0, 0, []⟩ :: R) I) := by
 obtain ⟨⟨a1, a2, a3, a4, a5, a6, a7, ok, b1, b2, b3, b4⟩⟩ := h
 refine ⟨⟨a1, a2, a3, a4, ?_, ?_, List.Pairwise.cons (fun q _ k hk => by simp [Value.ownBlock] at hk) a7, ok, b1, b2, b3, ?_⟩⟩
 ·intro r hr
  rcases List.mem_cons.1 hr with rfl | hr
  ·exact World.ownsRow_nil w _ _ _
  ·exact a5 r hr
 ·intro r hr k hk
  rcases List.mem_cons.1 hr with rfl | hr
  ·simp [Value.ownBlock] at hk
  ·exact a6 r hr k hk
 ·intro k hk r hr
  rcases List.mem_cons.1 hr with rfl | hr
  ·simp [Value.ownBlock]
  ·exact b4 k hk r hr
theorem Sx.grew {r : Rw} {g cap m : Nat} {news : List Value} (S : Aside0 (Sx w0 w L (r :: R) I)) (hown : w1.ownsRow w0.heap.size r.e r.sz (.slice (some ⟨g, 0, none⟩) (r.n + m) cap) (r.n + m) (r.inner ++ news)) (hg : w.grownBy w1 r.v.ownBlock) (hat : r.v.ownBlock = some g ∨ g = w.heap.size) :
  Aside0 (Sx w0 w1 L (⟨r.e, r.sz, .slice (some ⟨g, 0, none⟩) (r.n + m) cap, r.n + m, r.inner ++ news⟩ :: R) I) := by
 have S0 := S.out
 have h5 := S0.rows r (List.mem_cons_self ..)
 obtain ⟨a1, a2, a3, a4, a5, a6, a7, ok, b1, b2, b3, b4⟩ := S0
 rw [List.pairwise_cons] at a7
 have hbase := hown.lt g rfl
 have hnew : ∀ k, k < w.heap.size → r.v.ownBlock ≠ some k → k ≠ g := fun k hk hne e => by
  rcases hat with e1 | e1
  ·exact hne (by rw [e1, e])
  ·omega
 refine ⟨⟨Below.grown a1 hg a1.size (fun k hk => (h5.lt k hk).1), a2.map fun y hy hx => blk_grown hx hg (fun e => a6 r (List.mem_cons_self ..) _ e.symm y hy rfl), a3, a4, ?_, ?_, List.Pairwise.cons ?_ a7.2, ok, ?_, ?_, b3, ?_⟩⟩
 ·intro q hq
  rcases List.mem_cons.1 hq with rfl | hq
  ·exact hown
  ·refine own_move (a5 q (List.mem_cons_of_mem _ hq)) (fun k hk => hg.block k ((a5 q (List.mem_cons_of_mem _ hq)).lt k hk).2 (fun e => a7.1 q hq k e.symm hk))
 ·intro q hq k hk x hx
  rcases List.mem_cons.1 hq with rfl | hq
  ·have : g = k := by simpa [Value.ownBlock] using hk
   subst this
   exact hnew _ (blk_lt (a2.of_mem hx)) (fun e => a6 r (List.mem_cons_self ..) _ e x hx rfl)
  ·exact a6 q (List.mem_cons_of_mem _ hq) k hk x hx
 ·intro q hq k hk e
  have : g = k := by simpa [Value.ownBlock] using hk
  subst this
  exact hnew _ ((a5 q (List.mem_cons_of_mem _ hq)).lt _ e).2 (fun e2 => a7.1 q hq _ e2 e) rfl
 ·exact b1.step (fun k hk hlt => hg.block k hlt (fun e => b4 k hk r (List.mem_cons_self ..) e.symm))
 ·intro k hk
  have := b2 k hk
  have := hg.size
  omega
 ·intro k hk q hq
  rcases List.mem_cons.1 hq with rfl | hq
  ·intro e
   have : g = k := by simpa [Value.ownBlock] using e
   subst this
   exact hnew _ (b2 _ hk) (b4 _ hk r (List.mem_cons_self ..)) rfl
  ·exact b4 k hk q (List.mem_cons_of_mem _ hq)
end
section
variable {P : Program} {ops : Array Oper} {rest : List Oper} {o : Oper} {a : Act} {Q : Exit → Act → World → Prop} {w0 w : World} {L : List Bk} {R : List Rw} {I : World → Prop}
theorem yA (S : Aside0 (Sx w0 w L R I)) {N : Tmp} {cs : Array Value} {t : TypeId} (h : ∀ g w1, Aside0 (Sx w0 w1 (⟨g, cs, t, true⟩ :: L) R I) → Rd w1 (⟨g, cs, t, true⟩ :: L) → wpList P ops Q rest (a.put o.dst (.pointer (some ⟨g, 0, none⟩))) w1)
  (hgd : o.guard = none := by rfl) (_hd : o.dst = some N := by rfl) (hrun : (execOp a.eval o).run P w = .ok (.value (.pointer (some ⟨w.heap.size, 0, none⟩))) (w.alloc (.cells cs t (0, 0))) := by first | (go_simp; done) | (go_simp; rfl)) : wpList P ops Q (o :: rest) a w :=
 Kd.event_run hgd hrun (h _ _ (Sx.alloc S cs t) (Sx.rd (Sx.alloc S cs t)))
theorem yS {w2 : World} {L' : List Bk} (S : Aside0 (Sx w0 w L R I)) (hst : Aside0 (Sx w0 w L R I) → Aside0 (Sx w0 w2 L' R I)) (h : ∀ w1, Aside0 (Sx w0 w1 L' R I) → Rd w1 L' → wpList P ops Q rest a w1)
  (hgd : o.guard = none := by rfl) (hN : o.dst = none := by rfl) (hrun : (execOp a.eval o).run P w = .ok .skip w2 := by first | (go_simp; done) | (go_simp; rfl)) : wpList P ops Q (o :: rest) a w := by
 refine wpList_plain hgd fun K hK => ?_
 unfold Oper.wp
 rw [hrun]
 show K (a.put o.dst undef) w2
 rw [hN]
 exact hK _ _ (h _ (hst S) (Sx.rd (hst S)))
theorem yC (S : Aside0 (Sx w0 w L R I)) {N : Option Tmp} {f : FuncId} {args : Array Value} {v : Value} (hC : Calls P f args w fun e w' => e = .returned v ∧ Below w.heap.size w w') (h : ∀ w1, Aside0 (Sx w0 w1 L R I) → Rd w1 L → wpList P ops Q rest (a.put N v) w1)
  {fn : Func} {ao : Array Operand} {ts : Array TypeId} (hf : P.funcs[f]? = some fn) (hd : o.dst = N := by rfl) (hg : o.guard = none := by rfl) (hname : (fn.name == "runtime.NumGoroutine") = false := by exact zk) (hb : fn.body.isSome = true := by rfl)
  (hop : o.op = .call { callee := .value (.func f), args := ao, argTypes := ts } := by rfl) (hargs : ao.map a.eval = args := by exact zm) : wpList P ops Q (o :: rest) a w := by
 refine goesL_ N hd hg hf hname hb args hop hargs (hC.mono ?_)
 rintro e w1 ⟨rfl, hb⟩
 exact ⟨_, rfl, h w1 (Sx.call S hb) (Sx.rd (Sx.call S hb))⟩
theorem yX (S : Aside0 (Sx w0 w L R I)) {N : Option Tmp} {f : FuncId} {args : Array Value} {β : Type} {F : β → Value} {R' : β → World → Prop} (hC : Calls P f args w fun e w' => ∃ v, e = .returned (F v) ∧ R' v w' ∧ Below w.heap.size w w') (h : ∀ v w1, R' v w1 → Aside0 (Sx w0 w1 L R I) → Rd w1 L → wpList P ops Q rest (a.put N (F v)) w1)
  {fn : Func} {ao : Array Operand} {ts : Array TypeId} (hf : P.funcs[f]? = some fn) (hd : o.dst = N := by rfl) (hg : o.guard = none := by rfl) (hname : (fn.name == "runtime.NumGoroutine") = false := by exact zk) (hb : fn.body.isSome = true := by rfl)
  (hop : o.op = .call { callee := .value (.func f), args := ao, argTypes := ts } := by rfl) (hargs : ao.map a.eval = args := by exact zm) : wpList P ops Q (o :: rest) a w := by
 refine goesL_ N hd hg hf hname hb args hop hargs (hC.mono ?_)
 rintro e w1 ⟨v, rfl, hr, hb⟩
 exact ⟨_, rfl, h v w1 hr (Sx.call S hb) (Sx.rd (Sx.call S hb))⟩
end
section
variable {P : Program} {md : Region.Mode} {ops : Array Oper} {Q : Exit → Act → World → Prop} {ds : List Nat} {w0 w : World} {L : List Bk} {R : List Rw} {I : World → Prop} {n_ : Tmp} {oi : Oper} {fuel : Nat} {l : Array Bool} {a a' : Act}
theorem yI {E : World → Prop} {id n : Nat} {T : Bool × List (List Nat × List Nat)} {B : List Nat} (S : Aside0 (Sx w0 w L R I)) (hE : ∀ W, Below w0.heap.size w0 W → E W) (hT : rtab .any ops = T) (hB : waitsOk T.2 B = true) (h : ∀ w1, Aside0 (Sx w0 w1 L R I) → Rd w1 L → Aside0 (rtab .any ops = T) → Aside0 (waitsOk T.2 B = true) → Aside0 (∀ W, Below w0.heap.size w0 W → E W) → wpAnyLast P .any ops Q (fun w' => Rd w' L ∧ E w') ds n (Array.replicate n false) a w1)
  (hm : P.follows .mixedOrders = true := by exact zk) (hn : ops.size = n := by rfl) : (Code.region id ops true).wp P Q a w :=
 start_ _ hm hn rfl ⟨Sx.rd (Sx.drew S), hE _ (Sx.drew S).out.below⟩ fun _ => h _ (Sx.drew S) (Sx.rd (Sx.drew S)) ⟨hT⟩ ⟨hB⟩ ⟨hE⟩
theorem yV {E : World → Prop} (i : Nat) (ST : Aside0 (Sx w0 w L R I)) {cs : Array Value} {t : TypeId} {F : Nat → Value} (h : ∀ g w1, Aside0 (Sx w0 w1 (⟨g, cs, t, true⟩ :: L) R I) → Rd w1 (⟨g, cs, t, true⟩ :: L) → wpAnyLast P md ops Q (fun w' => Rd w' L ∧ E w') ds fuel (l.setIfInBounds i true) (a.put (some n_) (F g)) w1)
  {rest : List Oper} (hi : ops.toList.drop i = oi :: rest := by exact rfl) (hN : oi.dst = some n_ := by exact rfl) (hc : readyB md ops l (l.setIfInBounds i true) i = true := by exact one_of HT_.out zk) (hd : i ∉ ds := by decide) (hw : Region.wanted oi (yielded ops a.tmps) = true := by rfl)
  (hrun : (execOp a.eval oi).run P w = .ok (.value (F w.heap.size)) (w.alloc (.cells cs t (0, 0))) := by first | (go_simp; done) | (go_simp; rfl)) (hE : Aside0 (∀ W, Below w0.heap.size w0 W → E W) := by exact HE_) : wpAnyLast P md ops Q (fun w' => Rd w' L ∧ E w') ds (fuel + 1) l a w := by
 refine one_ _ (drop_at hi) hN hc hd (fun K hK => ?_)
 have S2 := Sx.alloc ST cs t
 refine value_ hw hN hrun (hK.out _ _ ⟨(Sx.rd S2).2.2, hE.out _ S2.out.below⟩ (fun _ => ?_))
 exact h _ _ S2 (Sx.rd S2)
theorem yQ {S : World → Prop} {r : Rw} (i : Nat) (ST : Aside0 (Sx w0 w L (r :: R) I)) {t : TypeId} {z : Value} {bytes : Nat} {ad : Addr} {m c : Nat} {news : List Value} (hn : ∀ j u, news[j]? = some u → w.cell? (ad.add j) = some u)
  (h : ∀ g cap w1, Aside0 (Sx w0 w1 L (⟨r.e, r.sz, .slice (some ⟨g, 0, none⟩) (r.n + m) cap, r.n + m, r.inner ++ news⟩ :: R) I) → Rd w1 L → wpAnyLast P md ops Q S ds fuel (l.setIfInBounds i true) (a.put (some n_) (.slice (some ⟨g, 0, none⟩) (r.n + m) cap)) w1)
  (ht : P.underlying t = some (.slice r.e)) (hinfo : (P.info? r.e).map (fun i => (i.zero, i.size, i.bytes)) = some (some z, r.sz, bytes)) (hl : news.length = m * r.sz) (h1 : ∀ u ∈ news, u.oneCell' = true) (hm : 0 < m) (hb : (r.n + m) * bytes ≤ 140737488355328) (hb0 : 0 < bytes) (hz : z.cells.size = r.sz := by rfl) (hs0 : 0 < r.sz := by exact Nat.zero_lt_succ _)
  {s x : Operand} {rest : List Oper} (hi : ops.toList.drop i = oi :: rest := by exact rfl) (hN : oi.dst = some n_ := by exact rfl) (ho : oi.op = .call { callee := .builtin .append, args := #[s, x], argTypes := #[t, t] } := by rfl) (hc : readyB md ops l (l.setIfInBounds i true) i = true := by exact one_of HT_.out zk) (hd : i ∈ ds := by decide) (hw : Region.wanted oi (yielded ops a.tmps) = true := by rfl)
  (hs : a.eval s = r.v := by rfl) (hx : a.eval x = .slice (some ad) m c := by rfl) : wpAnyLast P md ops Q S ds (fuel + 1) l a w := by
 obtain ⟨i0, hi0, hzz⟩ := Option.map_eq_some_iff.1 hinfo
 simp only [Prod.mk.injEq] at hzz
 obtain ⟨hz0, hz1, hz2⟩ := hzz
 have S0 := ST.out
 have h5 := S0.rows r (List.mem_cons_self ..)
 have hlen : r.n + m ≤ maxLen := by
  have : r.n + m ≤ 140737488355328 := Nat.le_trans (Nat.le_mul_of_pos_right _ hb0) hb
  unfold maxLen
  omega
 refine last_ _ (drop_at hi) hN hc hd (fun K hK => ?_)
 rw [if_pos hw]
 refine wp_append_lies w s x t ho w0.heap.size r.e i0 z r.sz bytes ht hi0 hz0 hz1 hz2 hz hs0 r.v r.n r.inner hs h5 ad m c news hx hl hn h1 hm hlen hb S0.below.size w.heap.size rfl ?_
 intro g cap w1 hown hg hat hlt
 have S2 := Sx.grew ST hown hg hat
 rw [hN]
 exact hK.out _ _ (h g cap w1 S2 (Sx.rd S2))
theorem yT (i : Nat) {S : World → Prop} (ST : Aside0 (Sx w0 w L R I)) {w2 : World} {L' : List Bk} (hst : Aside0 (Sx w0 w L R I) → Aside0 (Sx w0 w2 L' R I)) (h : ∀ w1, Aside0 (Sx w0 w1 L' R I) → Rd w1 L' → wpAnyLast P md ops Q S ds fuel (l.setIfInBounds i true) a w1)
  {rest : List Oper} (hi : ops.toList.drop i = oi :: rest := by exact rfl) (hN : oi.dst = none := by exact rfl) (hc : readyB md ops l (l.setIfInBounds i true) i = true := by exact one_of HT_.out zk) (hd : i ∈ ds := by decide) (hw : Region.wanted oi (yielded ops a.tmps) = true := by rfl)
  (hrun : (execOp a.eval oi).run P w = .ok .skip w2 := by first | (go_simp; done) | (go_simp; rfl)) : wpAnyLast P md ops Q S ds (fuel + 1) l a w := by
 refine last_ _ (drop_at hi) hN hc hd (fun K hK => ?_)
 exact skip_ hw hN hrun (hK.out _ _ (h w2 (hst ST) (Sx.rd (hst ST))))
section
variable {E : World → Prop}
theorem yL {v : Value} (i : Nat) (ST : Aside0 (Sx w0 w L R I)) (h : wpAnyLast P md ops Q (fun w' => Rd w' L ∧ E w') ds fuel (l.setIfInBounds i true) a' w) {rest : List Oper} (hi : ops.toList.drop i = oi :: rest := by exact rfl) (hN : oi.dst = some n_ := by exact rfl) (hc : takeB md ops ds l (l.setIfInBounds i true) i = true := by exact take_ofW HT_.out HW_.out zk)
  (hQ : ∀ c a w, Q (.panic c) (a.put oi.dst v) w → Q (.panic c) a w := by exact fun _ _ _ h => h) (hy : YieldsIf P ops (fun w' => Rd w' L ∧ E w') oi v a := by exact Or.inl ⟨by rfl, by intro w' h_; obtain ⟨h_, e_⟩ := h_; simp only [Rd] at h_; go_simp; with_reducible rfl⟩) (ha : a.put (some n_) v = a' := by exact zy) (hE : Aside0 (∀ W, Below w0.heap.size w0 W → E W) := by exact HE_) : wpAnyLast P md ops Q (fun w' => Rd w' L ∧ E w') ds (fuel + 1) l a w :=
 take_ _ (drop_at hi) hN hc hQ hy ⟨Sx.rd ST, hE.out _ ST.out.below⟩ ha h
theorem yG (i : Nat) (ST : Aside0 (Sx w0 w L R I)) {f : FuncId} {args : Array Value} {v : Value} (hC : Calls P f args w fun e w' => e = .returned v ∧ Below w.heap.size w w') (h : ∀ w1, Aside0 (Sx w0 w1 L R I) → Rd w1 L → wpAnyLast P md ops Q (fun w' => Rd w' L ∧ E w') ds fuel (l.setIfInBounds i true) a' w1)
  {fn : Func} (hf : P.funcs[f]? = some fn) {rest : List Oper} (hi : ops.toList.drop i = oi :: rest := by exact rfl) (hN : oi.dst = some n_ := by exact rfl) (hc : readyB md ops l (l.setIfInBounds i true) i = true := by exact one_of HT_.out zk) (hd : i ∉ ds := by decide)
  (hname : (fn.name == "runtime.NumGoroutine") = false := by exact zk) (hb : fn.body.isSome = true := by rfl) (hw : Region.wanted oi (yielded ops a.tmps) = true := by rfl) {ao : Array Operand} {ts : Array TypeId}
  (hop : oi.op = .call { callee := .value (.func f), args := ao, argTypes := ts } := by rfl) (hargs : ao.map a.eval = args := by exact zm) (ha : a.put (some n_) v = a' := by exact zy) (hE : Aside0 (∀ W, Below w0.heap.size w0 W → E W) := by exact HE_) : wpAnyLast P md ops Q (fun w' => Rd w' L ∧ E w') ds (fuel + 1) l a w := by
 refine one_ _ (drop_at hi) hN hc hd (fun K hK => ?_)
 refine goes_ hf hname hb args hw hN hop hargs (hC.mono ?_)
 rintro e w1 ⟨rfl, hb⟩
 refine ⟨_, rfl, hK.out _ _ ⟨Sx.rd (Sx.call ST hb), hE.out _ (Sx.call ST hb).out.below⟩ (fun _ => ?_)⟩
 rw [ha]
 exact h w1 (Sx.call ST hb) (Sx.rd (Sx.call ST hb))
end
end
end Go.Proofs.YtgehkojccmkggaaDoor.K
end
section
namespace Go.Proofs.YtgehkojccmkggaaDoor.H
open Go.RowKit Go.Proofs.YtgehkojccmkggaaDoorW.PrintWords Go.Proofs.YtgehkojccmkggaaDoorW.PrintLast Go.Proofs.YtgehkojccmkggaaDoorW.PrintMore
set_option linter.unusedVariables false
set_option linter.unusedSimpArgs false
def saronref00_Grows.l0 : Nat → List Int → Int → Int → Int → Option (Bool)
 | 0, _, _, _, _ => none
 | k + 1, x0, x1, x5, x6 => if x6 < (x0.length : Int) then (if 0 ≤ x6 then (if (rd x0 x6) ≤ x5 then (some false) else (if (rd x0 x6) ≥ x1 then (some false) else (saronref00_Grows.l0 k x0 x1 (rd x0 x6) (wrap64 (x6 + 1))))) else (none)) else (some true)
def saronref00_Grows.f (k : Nat) (l0 : List Int) (a1 : Int) : Option (Bool) := saronref00_Grows.l0 k l0 a1 (-1) 0
set_option maxHeartbeats 8000000 in
set_option maxRecDepth 100000 in
theorem saronref00_Grows.calls (k : Nat) (A0 : Option Addr) (c0 : Nat) (l0 : List Int) (a1 : Int) (r : Bool) (w : World) (hr0 : Kd.C (Kd.int .i64) w A0 l0.length l0) (hc0 : l0.length ≤ c0) (h : saronref00_Grows.f k l0 a1 = some r) :
  Calls Tryd.prog 48 #[.slice A0 l0.length c0, .int .i64 a1] w fun e w' => e = .returned (.bool r) ∧ Drawn0 w w' := by
 have HR0 := zh hr0
 have HC0 := zh hc0
 clear hr0 hc0
 have H : (saronref00_Grows.l0 k l0 a1 (-1) 0) = some r := h
 clear h
 have H' := zh H
 clear H
 go_enter Tryd.func48, Tryd.ntmps48
 go_wp2
 go_loopg [5, 6] k (fun kq v5 v6 w' => ∃ (x5_1 : Int) (x6_1 : Int), v5 = .int .i64 x5_1 ∧ v6 = .int .i64 x6_1 ∧ Aside0 (saronref00_Grows.l0 kq l0 a1 x5_1 x6_1 = some r) ∧ Aside0 (kq ≤ k) ∧ Drawn0 w w')
 case atStart => exact ⟨((-1)), (0), ze, ze, H', ⟨Nat.le_refl _⟩, by repeat (first | exact Drawn0.refl _ | apply Drawn0.step)⟩
 case round =>
  clear H'
  try clear p2
  obtain ⟨x5_1, x6_1, rfl, rfl, HA, HK1, ⟨m1, rfl⟩⟩ := hrel
  cases gk with
  | zero => exact absurd HA.out (by simp [saronref00_Grows.l0])
  | succ k1 =>
   have H := HA.out
   clear HA
   simp only [saronref00_Grows.l0] at H
   by_cases c3 : x6_1 < (l0.length : Int)
   ·rw [if_pos c3] at H
    have c3b0 : decide (x6_1 < (l0.length : Int)) = true := decide_eq_true c3
    clear c3
    by_cases c4 : 0 ≤ x6_1
    ·rw [if_pos c4] at H
     have c4b0 : decide (0 ≤ x6_1) = true := decide_eq_true c4
     clear c4
     by_cases c5 : (rd l0 x6_1) ≤ x5_1
     ·rw [if_pos c5] at H
      have c5b0 : decide ((rd l0 x6_1) ≤ x5_1) = true := decide_eq_true c5
      clear c5
      obtain rfl := Option.some.inj H
      have p898 : 0 ≤ (x6_1 : Int) := of_decide_eq_true zs
      have q898 : x6_1 < (l0.length : Int) := of_decide_eq_true zs
      obtain ⟨ad898, e898, hx898_0⟩ := Kd.at_int HR0.out x6_1 p898 q898
      cases e898
      replace p898 := eq_true p898
      replace q898 := eq_true q898
      go_wp2
      go_ret
      exact ⟨ze, by repeat (first | exact Drawn0.refl _ | apply Drawn0.step)⟩
     ·rw [if_neg c5] at H
      have c5b0 : decide ((rd l0 x6_1) ≤ x5_1) = false := decide_eq_false c5
      clear c5
      by_cases c6 : (rd l0 x6_1) ≥ a1
      ·rw [if_pos c6] at H
       have c6b0 : decide (a1 ≤ (rd l0 x6_1)) = true := decide_eq_true c6
       clear c6
       obtain rfl := Option.some.inj H
       have p898 : 0 ≤ (x6_1 : Int) := of_decide_eq_true zs
       have q898 : x6_1 < (l0.length : Int) := of_decide_eq_true zs
       obtain ⟨ad898, e898, hx898_0⟩ := Kd.at_int HR0.out x6_1 p898 q898
       cases e898
       replace p898 := eq_true p898
       replace q898 := eq_true q898
       have p899 : 0 ≤ (x6_1 : Int) := of_decide_eq_true zs
       have q899 : x6_1 < (l0.length : Int) := of_decide_eq_true zs
       obtain ⟨ad899, e899, hx899_0⟩ := Kd.at_int HR0.out x6_1 p899 q899
       obtain rfl : ad898 = ad899 := (by injection e899)
       replace p899 := eq_true p899
       replace q899 := eq_true q899
       go_wp2
       go_ret
       exact ⟨ze, by repeat (first | exact Drawn0.refl _ | apply Drawn0.step)⟩
      ·rw [if_neg c6] at H
       have c6b0 : decide (a1 ≤ (rd l0 x6_1)) = false := decide_eq_false c6
       clear c6
       have H' := zh H
       clear H
       have p898 : 0 ≤ (x6_1 : Int) := of_decide_eq_true zs
       have q898 : x6_1 < (l0.length : Int) := of_decide_eq_true zs
       obtain ⟨ad898, e898, hx898_0⟩ := Kd.at_int HR0.out x6_1 p898 q898
       cases e898
       replace p898 := eq_true p898
       replace q898 := eq_true q898
       have p899 : 0 ≤ (x6_1 : Int) := of_decide_eq_true zs
       have q899 : x6_1 < (l0.length : Int) := of_decide_eq_true zs
       obtain ⟨ad899, e899, hx899_0⟩ := Kd.at_int HR0.out x6_1 p899 q899
       obtain rfl : ad898 = ad899 := (by injection e899)
       replace p899 := eq_true p899
       replace q899 := eq_true q899
       have p900 : 0 ≤ (x6_1 : Int) := of_decide_eq_true zs
       have q900 : x6_1 < (l0.length : Int) := of_decide_eq_true zs
       obtain ⟨ad900, e900, hx900_0⟩ := Kd.at_int HR0.out x6_1 p900 q900
       obtain rfl : ad898 = ad900 := (by injection e900)
       replace p900 := eq_true p900
       replace q900 := eq_true q900
       go_wp2
       go_roundg k1
       case measure => have := HK1.out; omega
       case rel => exact ⟨(rd l0 x6_1), (wrap64 (x6_1 + 1)), ze, ze, H', ⟨by have := HK1.out; omega⟩, by repeat (first | exact Drawn0.refl _ | apply Drawn0.step)⟩
    ·rw [if_neg c4] at H
     exact absurd H (by simp)
   ·rw [if_neg c3] at H
    have c3b0 : decide (x6_1 < (l0.length : Int)) = false := decide_eq_false c3
    clear c3
    obtain rfl := Option.some.inj H
    go_wp2
    go_ret
    exact ⟨ze, by repeat (first | exact Drawn0.refl _ | apply Drawn0.step)⟩
end Go.Proofs.YtgehkojccmkggaaDoor.H
end
section
namespace Go.Proofs.YtgehkojccmkggaaDoor.K
open Go.RowKit Go.Shelf Go.Proofs.YtgehkojccmkggaaDoorW.PrintWords Go.Proofs.YtgehkojccmkggaaDoorW.PrintLast Go.Proofs.YtgehkojccmkggaaDoorW.PrintMore Go.Proofs.YtgehkojccmkggaaDoor.H Tune
set_option linter.unusedVariables false
set_option linter.unusedSimpArgs false
section
variable {h : List S26} {s : List S61} {p : List S48} {b0 b1 : Int}
theorem TunS_plain (hc : checkT h s p b0 b1 = 0) (B : Int × Int) (l : Nat → Int) : TunS h (jsOf h s p b0 b1) B l ↔ (∀ x, x < h.length → loH h x ≤ l x ∧ l x ≤ hiH h x) ∧ AllFit s p noLeft B l := by
 unfold TunS Tun
 refine and_congr ⟨fun g x hx => ⟨(g x hx rfl).1, (g x hx rfl).2.1⟩, fun g x hx _ => ⟨(g x hx).1, (g x hx).2, rfl⟩⟩ (fit_all (neat_of hc) noLeft B l)
end
end Go.Proofs.YtgehkojccmkggaaDoor.K
end
section
namespace Go.Proofs.YtgehkojccmkggaaDoor.K
open Go.RowKit Go.Shelf Go.Proofs.YtgehkojccmkggaaDoorW.PrintWords Go.Proofs.YtgehkojccmkggaaDoorW.PrintLast Go.Proofs.YtgehkojccmkggaaDoorW.PrintMore Go.Proofs.YtgehkojccmkggaaDoor.H Tune
set_option linter.unusedVariables false
set_option linter.unusedSimpArgs false
theorem unite_at (g : List Int) (a b : Int) (k : Nat) (hk : k < g.length) : (unite g a b).getD k 0 = if g.getD k 0 = b then a else g.getD k 0 := by
 unfold unite
 simp [List.getD_eq_getElem?_getD, hk]
theorem ringK_sub {l js : List (Nat × Nat)} (hs : l.Sublist js) : ∀ (f g : List Int), f.length = g.length → (∀ x y, x < g.length → y < g.length → g.getD x 0 = g.getD y 0 → f.getD x 0 = f.getD y 0) → (∀ q ∈ js, q.1 < g.length ∧ q.2 < g.length) → ringK js f = true → ringK l g = true := by
 induction hs with
 | slnil => intro f g _ _ _ _; rfl
 | @cons l js j _ ih =>
  intro f g hl hfg hj hr
  rw [ringK] at hr
  split at hr
  ·cases hr
  ·refine ih _ _ (by unfold unite; rw [List.length_map, hl]) (fun x y hx hy e => ?_) (fun q hq => hj q (List.mem_cons_of_mem _ hq)) hr
   rw [unite_at _ _ _ _ (by omega), unite_at _ _ _ _ (by omega), hfg x y hx hy e]
 | @cons_cons l js j _ ih =>
  intro f g hl hfg hj hr
  obtain ⟨j1, j2⟩ := hj j (List.mem_cons_self ..)
  rw [ringK] at hr ⊢
  split at hr
  ·cases hr
  ·rename_i hne
   rw [if_neg (fun e => hne (hfg _ _ j1 j2 e))]
   refine ih _ _ (by unfold unite; rw [List.length_map, List.length_map, hl]) (fun x y hx hy e => ?_) (fun q hq => by unfold unite; rw [List.length_map]; exact hj q (List.mem_cons_of_mem _ hq)) hr
   unfold unite at hx hy
   rw [List.length_map] at hx hy
   rw [unite_at _ _ _ _ hx, unite_at _ _ _ _ hy] at e
   rw [unite_at _ _ _ _ (by omega), unite_at _ _ _ _ (by omega)]
   by_cases hx2 : g.getD x 0 = g.getD j.2 0 <;> by_cases hy2 : g.getD y 0 = g.getD j.2 0
   ·rw [if_pos (hfg _ _ hx j2 hx2), if_pos (hfg _ _ hy j2 hy2)]
   ·rw [if_pos hx2, if_neg hy2] at e
    have h3 := hfg _ _ j1 hy e
    rw [if_pos (hfg _ _ hx j2 hx2), ← h3, if_neg hne]
   ·rw [if_neg hx2, if_pos hy2] at e
    have h3 := hfg _ _ hx j1 e
    rw [if_pos (hfg _ _ hy j2 hy2), h3, if_neg hne]
   ·rw [if_neg hx2, if_neg hy2] at e
    rw [hfg _ _ hx hy e]
theorem keys_lt {h : List S26} {s : List S61} {p : List S48} (h8 : h.length ≤ 8) (H : OkS h.length s p) : ∀ q ∈ keysOf s p, q.1 < 8 ∧ q.2 < 8 := by
 intro q hq
 have hin : ∀ k : Int, inK h.length k = true → k.toNat < 8 := fun k hk => by
  unfold inK at hk
  simp only [Bool.and_eq_true, decide_eq_true_eq] at hk
  omega
 unfold keysOf at hq
 rcases List.mem_append.1 hq with hq | hq
 ·obtain ⟨j, hj, rfl⟩ := List.mem_map.1 hq
  obtain ⟨x, hx, hj⟩ := List.mem_flatMap.1 hj
  obtain ⟨m, hm, rfl⟩ := List.mem_map.1 hj
  obtain ⟨x1, x2⟩ := H.1 x hx
  have hm := (List.mem_range'_1.1 hm).2
  have a1 : m < x.f0.length := by omega
  have a2 : m + 1 < x.f0.length := by omega
  refine ⟨hin _ ?_, hin _ ?_⟩
  ·show inK h.length (x.f0.getD m 0) = true
   rw [show x.f0.getD m 0 = x.f0[m] by simp [List.getD_eq_getElem?_getD, a1]]
   exact x1 _ (List.getElem_mem _)
  ·show inK h.length (x.f0.getD (m + 1) 0) = true
   rw [show x.f0.getD (m + 1) 0 = x.f0[m + 1] by simp [List.getD_eq_getElem?_getD, a2]]
   exact x1 _ (List.getElem_mem _)
 ·obtain ⟨y, hy, rfl⟩ := List.mem_map.1 hq
  exact ⟨hin _ (H.2 y hy).1, hin _ (H.2 y hy).2⟩
theorem check_sub {h h' : List S26} {s s' : List S61} {p p' : List S48} {b0 b1 c0 c1 : Int} (hc : checkT h s p b0 b1 = 0) (h0 : ok0 h' s' p' c0 c1 = true) (h1 : h'.all okHeard = true) (h2 : s'.all okScale = true) (hl : h'.length = h.length) (H : OkS h.length s' p') (hs : (keysOf s' p').Sublist (keysOf s p)) : checkT h' s' p' c0 c1 = 0 := by
 obtain ⟨⟨_, _, _, a4⟩, a5⟩ := check_iff.1 hc
 exact check_iff.2 ⟨⟨h0, h1, h2, by rw [hl]; exact H⟩, ringK_sub hs _ _ rfl (fun _ _ _ _ e => e) (keys_lt (neat_of hc).few.2 a4) a5⟩
end Go.Proofs.YtgehkojccmkggaaDoor.K
end
section
namespace Go.Proofs.YtgehkojccmkggaaDoor.K
open Go.RowKit Go.Shelf Go.Proofs.YtgehkojccmkggaaDoorW.PrintWords Go.Proofs.YtgehkojccmkggaaDoorW.PrintLast Go.Proofs.YtgehkojccmkggaaDoorW.PrintMore Go.Proofs.YtgehkojccmkggaaDoor.H Tune
set_option linter.unusedVariables false
set_option linter.unusedSimpArgs false
attribute [local go_sem] Oper.semAt_some
section
variable {A0 : Option Addr} {c0 : Nat} {h : List S26} {A1 : Option Addr} {c1 : Nat} {s : List S61} {A2 : Option Addr} {c2 : Nat} {p : List S48} {w : World}
theorem span_okZ {a b lo hi : Int} (h1 : lo ≤ a) (h2 : a ≤ b) (h3 : b ≤ hi) : okSpan ⟨a, b⟩ lo hi = true := by unfold okSpan; rw [decide_eq_true h1, decide_eq_true h2, decide_eq_true h3]; rfl
theorem St.tail {w0 w : World} {x : Bk} {L : List Bk} (h : Aside0 (St w0 w (x :: L))) : Aside0 (St w0 w L) := ⟨⟨h.out.below, h.out.blks.2, fun y hy => h.out.own y (List.mem_cons_of_mem _ hy), (List.pairwise_cons.1 h.out.apart).2⟩⟩
theorem At.key (H : At A0 c0 h A1 c1 s A2 c2 p w) {k : Nat} (hk : k < h.length) : ∃ ad, A0 = some ad ∧ w.cell? (ad.add (k * 2)) = some (.int .i64 (loH h k)) ∧ w.cell? ⟨(ad.add (k * 2)).block, (ad.add (k * 2)).off + 1, none⟩ = some (.int .i64 (hiH h k)) := H_at H.d0 k hk
theorem At.scale (H : At A0 c0 h A1 c1 s A2 c2 p w) {i : Nat} (hi : i < s.length) : ∃ ad B0 e0 B1 e1, A1 = some ad ∧ w.cell? (ad.add (i * 2)) = some (.slice B0 (s[i]).f0.length e0) ∧ w.cell? ⟨(ad.add (i * 2)).block, (ad.add (i * 2)).off + 1, none⟩ = some (.slice B1 (s[i]).f1.length e1) ∧ (s[i]).f0.length ≤ e0 ∧ Kd.C (Kd.int .i64) w B0 (s[i]).f0.length (s[i]).f0 ∧ (s[i]).f1.length ≤ e1 ∧ Kd.C k26 w B1 (s[i]).f1.length (s[i]).f1 := by
 have h1 := at_T61 H.d1 (i : Int) (by omega) (by omega)
 rw [rd61_at _ _ hi, Int.toNat_natCast] at h1
 exact h1
theorem At.pair (H : At A0 c0 h A1 c1 s A2 c2 p w) {i : Nat} (hi : i < p.length) : ∃ ad, A2 = some ad ∧ w.cell? (ad.add (i * 2)) = some (.int .i64 (p[i]).f0) ∧ w.cell? ⟨(ad.add (i * 2)).block, (ad.add (i * 2)).off + 1, none⟩ = some (.int .i64 (p[i]).f1) := by
 have h1 := at_T48 H.d2 (i : Int) (by omega) (by omega)
 rw [rd48_at _ _ hi, Int.toNat_natCast] at h1
 exact h1
theorem int_at {A : Option Addr} {l : List Int} (hC : Kd.C (Kd.int .i64) w A l.length l) {j : Nat} (hj : j < l.length) : ∃ ad, A = some ad ∧ w.cell? (ad.add j) = some (.int .i64 (l[j])) := by
 obtain ⟨_, _, h3⟩ := hC
 obtain ⟨ad, e, hc⟩ := h3 (by omega)
 obtain ⟨c, hl, hK, hcell⟩ := hc j _ (List.getElem?_eq_getElem hj)
 have hK2 : c = [.int .i64 l[j]] := hK
 subst hK2
 have h4 := hcell 0 _ rfl
 refine ⟨ad, e, ?_⟩
 rw [show j * (Kd.int .i64).sz + 0 = j by show j * 1 + 0 = j; omega] at h4
 exact h4
theorem span_at {A : Option Addr} {l : List S26} (hC : Kd.C k26 w A l.length l) {j : Nat} (hj : j < l.length) : ∃ ad, A = some ad ∧ w.cell? (ad.add (j * 2)) = some (.int .i64 (l[j]).f0) ∧ w.cell? ⟨(ad.add (j * 2)).block, (ad.add (j * 2)).off + 1, none⟩ = some (.int .i64 (l[j]).f1) := by
 have h1 := at_T26 hC (j : Int) (by omega) (by omega)
 rw [rd26_at _ _ hj, Int.toNat_natCast] at h1
 exact h1
theorem cSits {w0 : World} (n a b : Int) {r : Bool} (hr : (decide (a ≤ n) && decide (n ≤ b)) = r) : ∀ W, Below w0.heap.size w0 W → Calls Tryd.prog 59 #[.int .i64 n, .int .i64 a, .int .i64 b] W fun e w' => e = .returned (.bool r) ∧ Below W.heap.size W w' := fun W _ => (saronref00_Sits.calls n a b r W (by rw [sits_f, hr])).mono fun _ _ hh => ⟨hh.1, Drawn0.belowZ hh.2⟩
theorem cCheck (H : Aside0 (At A0 c0 h A1 c1 s A2 c2 p w)) {b0 b1 r : Int} (hr : Aside0 (checkT h s p b0 b1 = r)) : ∀ W, Below w.heap.size w W → Calls Tryd.prog 18 #[.agg (sc A0 c0 h A1 c1 s A2 c2 p b0 b1)] W fun e w' => e = .returned (.int .i64 r) ∧ Below W.heap.size W w' := fun W hW => by
 have X := H.out.below hW
 exact tune_Check.calls A0 c0 h A1 c1 s A2 c2 p b0 b1 r W X.d0 X.n0 X.d1 X.n1 X.d2 X.n2 X.gl (by unfold tune_Check.f; rw [if_pos X.sm, hr.out])
end
end Go.Proofs.YtgehkojccmkggaaDoor.K
end
section
namespace Go.Proofs.YtgehkojccmkggaaDoor.H
open Go.RowKit Go.Proofs.YtgehkojccmkggaaDoorW.PrintWords Go.Proofs.YtgehkojccmkggaaDoorW.PrintLast Go.Proofs.YtgehkojccmkggaaDoorW.PrintMore
attribute [local go_sem] max2_int min2_int max_two min_two max_three min_three max_four min_four   -- for this text's walks alone
set_option linter.unusedVariables false
set_option linter.unusedSimpArgs false
end Go.Proofs.YtgehkojccmkggaaDoor.H
end
section
namespace Go.Proofs.YtgehkojccmkggaaDoor.K
open Go.RowKit Go.Shelf Go.Proofs.YtgehkojccmkggaaDoorW.PrintWords Go.Proofs.YtgehkojccmkggaaDoorW.PrintLast Go.Proofs.YtgehkojccmkggaaDoorW.PrintMore Go.Proofs.YtgehkojccmkggaaDoor.H Tune
set_option linter.unusedVariables false
set_option linter.unusedSimpArgs false
attribute [local go_sem] Oper.semAt_some
section
variable {α : Type} {d : Kd α} {w0 w w1 : World} {base e : Nat} {v : Value} {xs : List α} {inner : List Value} {L : List Bk} {R : List Rw} {I : World → Prop}
theorem C_of_own (h : w.ownsRow base e d.sz v xs.length inner) (hr : Reps (d.K w) d.sz xs inner) : ∃ A c, v = .slice A xs.length c ∧ xs.length ≤ c ∧ Kd.C d w A xs.length xs := OwnRow.reads ⟨inner, h, hr⟩
theorem lit_cells {g : Nat} {cs : Array Value} {t : TypeId} {o : Bool} (h : Aside0 (Sx w0 w (⟨g, cs, t, o⟩ :: L) R I)) : ∀ j u, cs.toList[j]? = some u → w.cell? ((⟨g, 0, none⟩ : Addr).add j) = some u := fun j u hu => by
 rw [Addr.add_lit, Nat.zero_add, blk_cell h.out.blks.1, ← Array.getElem?_toList]
 exact hu
theorem Sx.rowEq {r q : Rw} (h : Aside0 (Sx w0 w L (r :: R) I)) (e : r = q) : Aside0 (Sx w0 w L (q :: R) I) := e ▸ h
end
section
variable {A0 : Option Addr} {c0 : Nat} {h : List S26} {A1 : Option Addr} {c1 : Nat} {s : List S61} {A2 : Option Addr} {c2 : Nat} {p : List S48} {w : World} {b0 b1 : Int}
theorem cWrong (X : At A0 c0 h A1 c1 s A2 c2 p w) {r : List Int} {r2 : Int} (hr : tune_Wrong.f h s p b0 b1 = some (r, r2)) : Calls Tryd.prog 33 #[.agg (sc A0 c0 h A1 c1 s A2 c2 p b0 b1)] w fun e w' => ∃ v : Option Addr × Nat, e = .returned (.tuple #[.slice v.1 r.length v.2, .int .i64 r2]) ∧ (r.length ≤ v.2 ∧ Kd.C (Kd.int .i64) w' v.1 r.length r) ∧ Below w.heap.size w w' := by
 refine (tune_Wrong.calls A0 c0 h A1 c1 s A2 c2 p b0 b1 r r2 w X.d0 X.n0 X.d1 X.n1 X.d2 X.n2 X.gl hr).mono ?_
 rintro e w' ⟨v, rfl, ⟨A, c, rfl, hc, hF⟩, hb⟩
 exact ⟨(A, c), rfl, ⟨hc, Kd.F_now hF⟩, hb⟩
end
end Go.Proofs.YtgehkojccmkggaaDoor.K
end
section
namespace Go.Proofs.YtgehkojccmkggaaDoor.K
open Go.RowKit Go.Shelf Go.Proofs.YtgehkojccmkggaaDoorW.PrintWords Go.Proofs.YtgehkojccmkggaaDoorW.PrintLast Go.Proofs.YtgehkojccmkggaaDoorW.PrintMore Go.Proofs.YtgehkojccmkggaaDoor.H Tune
set_option linter.unusedVariables false
set_option linter.unusedSimpArgs false
attribute [local go_sem] Oper.semAt_some
attribute [local go_sem high] eqA26
attribute [local go_sem] max2_int min2_int max_two min_two
def r36.T6 : Bool × List (List Nat × List Nat) := (true, [([], []), ([0], [0]), ([], []), ([1, 2], [1, 2]), ([3], [3]), ([4], [4]), ([5, 5], [5]), ([6], [6]), ([7, 6], [6, 7]), ([6], [6]), ([8, 9, 6], [6, 8, 9]), ([10, 6], [6, 10]), ([11, 6], [6, 11]), ([6], [6]), ([13, 6], [6, 13]), ([6], [6]), ([14, 15, 6], [6, 14, 15]), ([16, 6], [6, 16]), ([17, 6], [6, 17]), ([12, 18, 6], [6, 12, 18]), ([19, 6], [6, 19]), ([6, 20], [6, 20]), ([21, 6, 0, 1, 2, 3, 4, 5, 6, 7, 8, 9, 10, 11, 12, 13, 14, 15, 16, 17, 18, 19, 20, 21], [21])])
def r36.B6 : List Nat := [0, 1, 0, 7, 15, 31, 63, 127, 255, 127, 1023, 2047, 4095, 127, 8319, 127, 57471, 123007, 254079, 524287, 1048575, 2097151, 4194303]
theorem r36.tab6 : rtab .any (opsOf Tryd.f36 6) = r36.T6 := by kernel_rfl
theorem r36.bits6 : waitsOk r36.T6.2 r36.B6 = true := by kernel_rfl
section
variable {A0 : Option Addr} {c0 : Nat} {h : List S26} {A1 : Option Addr} {c1 : Nat} {s : List S61} {A2 : Option Addr} {c2 : Nat} {p : List S48} {w : World} {b0 b1 : Int} (H : Aside0 (At A0 c0 h A1 c1 s A2 c2 p w))
include H
set_option maxRecDepth 100000 in
set_option maxHeartbeats 4000000 in
theorem sound_no (HK : Aside0 (checkT h s p b0 b1 = 10)) :
  Calls Tryd.prog 36 #[.agg #[.slice A0 h.length c0, .slice A1 s.length c1, .slice A2 p.length c2, .int .i64 b0, .int .i64 b1]] w fun e w' => e = .returned (.bool false) ∧ Below w.heap.size w w' := by
 have ST := St.start w
 have HC : True := trivial
 go_enter Tryd.func36, Tryd.ntmps36
 go_wp2_with (first | ((with_reducible refine gate_dst (N := 1) rfl ?_); refine evA ST (N := 1) (cs := #[.slice A0 h.length c0, .slice A1 s.length c1, .slice A2 p.length c2, .int .i64 b0, .int .i64 b1]) (t := 28) ?_; clear ST HC; intro g1 v ST HC; simp only [Rd] at HC) | ((with_reducible refine gate_dst (N := 14) rfl ?_); refine evC ST (N := some 14) (cCheck H HK) ?_ Tryd.func18; clear ST HC; intro v ST HC; simp only [Rd] at HC))
 go_loopw [4] (fun u4 wr => u4 = .bool false ∧ Aside0 (St w wr [⟨g1, #[.slice A0 h.length c0, .slice A1 s.length c1, .slice A2 p.length c2, .int .i64 b0, .int .i64 b1], 28, true⟩])) (fun _ _ => 0)
 case atStart => exact ⟨rfl, ST⟩
 case round =>
  clear ST HC
  obtain ⟨rfl, ST⟩ := hrel
  have HC := St.rd ST
  simp only [Rd] at HC
  go_wp2
  go_loopw [4] (fun u4 wr => u4 = .bool false ∧ Aside0 (St w wr [⟨g1, #[.slice A0 h.length c0, .slice A1 s.length c1, .slice A2 p.length c2, .int .i64 b0, .int .i64 b1], 28, true⟩])) (fun _ _ => 0)
  case atStart => exact ⟨rfl, ST⟩
  case round =>
   clear ST HC
   obtain ⟨rfl, ST⟩ := hrel
   have HC := St.rd ST
   simp only [Rd] at HC
   go_wp2
   go_loopw [4] (fun u4 wr => u4 = .bool false ∧ Aside0 (St w wr [⟨g1, #[.slice A0 h.length c0, .slice A1 s.length c1, .slice A2 p.length c2, .int .i64 b0, .int .i64 b1], 28, true⟩])) (fun _ _ => 0)
   case atStart => exact ⟨rfl, ST⟩
   case round =>
    clear ST HC
    obtain ⟨rfl, ST⟩ := hrel
    have HC := St.rd ST
    simp only [Rd] at HC
    go_wp2
    go_ret
    exact ⟨rfl, ST.out.below⟩
set_option maxRecDepth 100000 in
set_option maxHeartbeats 4000000 in
theorem sound_yes (N : Neat h s p b0 b1) (HK : Aside0 (checkT h s p b0 b1 = 0)) :
  Calls Tryd.prog 36 #[.agg #[.slice A0 h.length c0, .slice A1 s.length c1, .slice A2 p.length c2, .int .i64 b0, .int .i64 b1]] w fun e w' => e = .returned (.bool true) ∧ Below w.heap.size w w' := by
 have hn := N.few
 have hs2 := N.scales
 have hp4 := N.pairs
 have HN := zh N
 clear N
 have ST := St.start w
 have HC : True := trivial
 have i1 : (1 : Int) ≤ (h.length : Int) := by omega
 have i8 : (h.length : Int) ≤ 8 := by omega
 have i2 : (s.length : Int) ≤ 2 := by omega
 have i4 : (p.length : Int) ≤ 4 := by omega
 go_enter Tryd.func36, Tryd.ntmps36
 go_wp2_with (first | ((with_reducible refine gate_dst (N := 1) rfl ?_); refine evA ST (N := 1) (cs := #[.slice A0 h.length c0, .slice A1 s.length c1, .slice A2 p.length c2, .int .i64 b0, .int .i64 b1]) (t := 28) ?_; clear ST HC; intro g1 v ST HC; simp only [Rd] at HC) | ((with_reducible refine gate_dst (N := 14) rfl ?_); refine evC ST (N := some 14) (cCheck H HK) ?_ Tryd.func18; clear ST HC; intro v ST HC; simp only [Rd] at HC) | ((with_reducible refine gate_dst (N := 18) rfl ?_); refine gate_guard (by rfl) ?_; refine evC ST (N := some 18) (cSits (r := true) (h.length : Int) 1 8 (by rw [decide_eq_true i1, decide_eq_true i8]; rfl)) ?_ Tryd.func59; clear ST HC; intro v ST HC; simp only [Rd] at HC) | ((with_reducible refine gate_dst (N := 35) rfl ?_); refine gate_guard (by rfl) ?_; refine evC ST (N := some 35) (cGood b0 b1 0 60 HN.out.beat) ?_ Tryd.func46; clear ST HC; intro v ST HC; simp only [Rd] at HC))
 go_loopw [4, 5] (fun u4 u wr => ∃ k : Nat, k ≤ h.length ∧ u4 = .bool true ∧ u = .int .i64 k ∧ Aside0 (St w wr [⟨g1, #[.slice A0 h.length c0, .slice A1 s.length c1, .slice A2 p.length c2, .int .i64 b0, .int .i64 b1], 28, true⟩])) (fun _ u _ => h.length - (intOf u).toNat)
 case atStart => exact ⟨0, Nat.zero_le _, rfl, rfl, ST⟩
 case round =>
  clear ST HC
  obtain ⟨k, hkk, rfl, rfl, ST⟩ := hrel
  have HC := St.rd ST
  simp only [Rd] at HC
  by_cases hlt : k < h.length
  ·have l1 : (k : Int) < (h.length : Int) := by omega
   have l0 : 0 ≤ (k : Int) := by omega
   obtain ⟨ad, rfl, _⟩ := H.out.key hlt
   have hok := HN.out.heard _ (List.getElem_mem hlt)
   have elo : loH h k = h[k].f0 := by unfold loH; simp [List.getD_eq_getElem?_getD, hlt]
   have ehi : hiH h k = h[k].f1 := by unfold hiH; simp [List.getD_eq_getElem?_getD, hlt]
   unfold okHeard okSpan at hok
   simp only [Bool.and_eq_true, decide_eq_true_eq] at hok
   rw [← elo, ← ehi] at hok
   clear elo ehi
   have HG := zh (span_okZ hok.1.1 hok.1.2.1 hok.1.2.2 : okSpan ⟨loH h k, hiH h k⟩ 1 4000 = true)
   have hd : decide (wrap64 (hiH h k - loH h k) ≤ 40) = true := by rw [w64 (by omega) (by omega)]; exact decide_eq_true hok.2
   clear hok
   go_upto_region 6 with (fail)
   refine zI (E := fun w_ => w_.cell? (ad.add (k * 2)) = some (.int .i64 (loH h k)) ∧ w_.cell? ⟨(ad.add (k * 2)).block, (ad.add (k * 2)).off + 1, none⟩ = some (.int .i64 (hiH h k))) (n := 23) (ds := []) ST (fun W hW => by obtain ⟨ad', e, h9⟩ := (H.out.below hW).key hlt; injection e with e; subst e; exact h9) r36.tab6 r36.bits6 ?_
   clear ST HC
   intro v ST HC HT_ HW_ HE_
   simp only [Rd] at HC
   refine zu 0 ?_
   refine zu 2 ?_
   refine zL 1 ST ?_
   refine zu 3 ?_
   refine zL 4 ST ?_
   refine zG 5 ST (cGood (loH h k) (hiH h k) 1 4000 HG.out) ?_ Tryd.func46
   clear ST HC
   intro v ST HC
   simp only [Rd] at HC
   refine zu 6 ?_
   refine zu 7 ?_
   refine zu 9 ?_
   refine zu 13 ?_
   refine zu 15 ?_
   refine zL 8 ST ?_
   refine zu 10 ?_
   refine zu 11 ?_
   refine zL 12 ST ?_
   refine zL 14 ST ?_
   refine zu 16 ?_
   refine zu 17 ?_
   refine zL 18 ST ?_
   refine zu 19 ?_
   refine zu 20 ?_
   refine zu 21 ?_
   refine zu 22 ?_
   refine zd ?_
   clear HT_ HW_ HE_
   go_wp2_with (fail)
   go_roundw
   case rel => exact ⟨k + 1, by omega, rfl, by go_num, ST⟩
   case measure => simp [intOf]; omega
  ·obtain rfl : k = h.length := by omega
   go_wp2_with (fail)
   go_loopw [4, 6] (fun u4 u wr => ∃ k : Nat, k ≤ s.length ∧ u4 = .bool true ∧ u = .int .i64 k ∧ Aside0 (St w wr [⟨g1, #[.slice A0 h.length c0, .slice A1 s.length c1, .slice A2 p.length c2, .int .i64 b0, .int .i64 b1], 28, true⟩])) (fun _ u _ => s.length - (intOf u).toNat)
   case atStart => exact ⟨0, Nat.zero_le _, rfl, rfl, ST⟩
   case round =>
    clear ST HC
    obtain ⟨i, hki, rfl, rfl, ST⟩ := hrel
    have HC := St.rd ST
    simp only [Rd] at HC
    by_cases hlt2 : i < s.length
    ·have l1 : (i : Int) < (s.length : Int) := by omega
     have l0 : 0 ≤ (i : Int) := by omega
     obtain ⟨ad, B0, e0, B1, e1, rfl, y0, y1, n0, K0, n1, K1⟩ := H.out.scale hlt2
     obtain ⟨x, hx⟩ : ∃ x, x = s[i] := ⟨_, rfl⟩
     obtain ⟨z1, z2, z3, z4, z5⟩ := HN.out.scale _ (List.getElem_mem hlt2)
     rw [← hx] at y0 y1 n0 n1 K0 K1 z1 z2 z3 z4 z5
     clear hx
     replace y0 := ST.out.below.cell (World.block_lt_of_cell? w _ y0) |>.trans y0
     replace y1 := ST.out.below.cell (World.block_lt_of_cell? w _ y1) |>.trans y1
     have Z4 := zh z4
     have Z5 := zh z5
     have HK0 := zh K0
     have HK1 := zh K1
     clear z4 z5 K0 K1
     have q1 : ((x.f0.length : Int) ≤ (h.length : Int)) := by omega
     have q2 : (((x.f1.length : Int) + 1) == (x.f0.length : Int)) = true := beq_iff_eq.2 (by omega)
     have q3 : (x.f1.length : Int) ≤ 8 := by omega
     have Z3 := zh z3
     clear z3
     go_wp2_with (first | ((with_reducible refine gate_dst (N := 7) rfl ?_); refine evA ST (N := 7) (cs := #[.slice none 0 0, .slice none 0 0]) (t := 61) ?_; clear ST HC; intro g7 v ST HC; simp only [Rd] at HC) | ((with_reducible refine gate_store (p := 7) (v := (.tmp 81)) rfl ?_); refine evS (L' := [⟨g7, #[.slice B0 x.f0.length e0, .slice B1 x.f1.length e1], 61, true⟩, ⟨g1, #[.slice A0 h.length c0, .slice (some ad) s.length c1, .slice A2 p.length c2, .int .i64 b0, .int .i64 b1], 28, true⟩]) ST (fun S => St.put (St.put S 0 (0) (.slice B0 x.f0.length e0) rfl) 0 (1) (.slice B1 x.f1.length e1) rfl) ?_; clear ST HC; intro v ST HC; simp only [Rd] at HC))
     clear y0 y1
     go_loopw [4, 8] (fun u4 u wr => ∃ k : Nat, k ≤ x.f0.length ∧ u4 = .bool true ∧ u = .int .i64 k ∧ Aside0 (St w wr [⟨g7, #[.slice B0 x.f0.length e0, .slice B1 x.f1.length e1], 61, true⟩, ⟨g1, #[.slice A0 h.length c0, .slice (some ad) s.length c1, .slice A2 p.length c2, .int .i64 b0, .int .i64 b1], 28, true⟩])) (fun _ u _ => x.f0.length - (intOf u).toNat)
     case atStart => exact ⟨0, Nat.zero_le _, rfl, rfl, ST⟩
     case round =>
      clear ST HC
      obtain ⟨j, hkj, rfl, rfl, ST⟩ := hrel
      have HC := St.rd ST
      simp only [Rd] at HC
      by_cases hlt3 : j < x.f0.length
      ·have m1 : (j : Int) < (x.f0.length : Int) := by omega
       have m0 : 0 ≤ (j : Int) := by omega
       obtain ⟨ak, rfl, xk⟩ := int_at (Kd.C_below HK0.out ST.out.below) hlt3
       have hin := Z4.out _ (List.getElem_mem hlt3)
       unfold inK at hin
       have HIN := zh hin
       clear hin
       obtain ⟨key, hkey⟩ : ∃ key, key = x.f0[j] := ⟨_, rfl⟩
       rw [← hkey] at xk HIN
       clear hkey
       by_cases hj0 : j = 0
       ·have v0 : ((j : Int) == 0) = true := beq_iff_eq.2 (by omega)
        clear hj0
        go_wp2_with (first | ((with_reducible refine gate_dst (N := 114) rfl ?_); refine evC ST (N := some 114) (cSits key 0 ((h.length : Int) - 1) HIN.out) ?_ Tryd.func59; clear ST HC; intro v ST HC; simp only [Rd] at HC))
        go_roundw
        case rel => exact ⟨j + 1, by omega, rfl, by go_num, ST⟩
        case measure => simp [intOf]; omega
       ·have hlt4 : j - 1 < x.f1.length := by have := Z3.out; omega
        obtain ⟨ad2, rfl, _⟩ := span_at HK1.out hlt4
        have hsp := Z5.out _ (List.getElem_mem hlt4)
        unfold okSpan at hsp
        simp only [Bool.and_eq_true, decide_eq_true_eq] at hsp
        obtain ⟨st, hst⟩ : ∃ st, st = x.f1[j - 1] := ⟨_, rfl⟩
        rw [← hst] at hsp
        have HP : Aside0 (∀ W, Below w.heap.size w W → W.cell? (ad2.add ((j - 1) * 2)) = some (.int .i64 st.f0) ∧ W.cell? ⟨(ad2.add ((j - 1) * 2)).block, (ad2.add ((j - 1) * 2)).off + 1, none⟩ = some (.int .i64 st.f1)) := ⟨fun W hW => by obtain ⟨ad', e, h9⟩ := span_at (Kd.C_below HK1.out hW) hlt4; injection e with e; subst e; rw [hst]; exact h9⟩
        clear hst
        have HG := zh (span_okZ (by omega) hsp.2.1 hsp.2.2 : okSpan ⟨st.f0, st.f1⟩ 1 5000 = true)
        clear hsp
        have v0 : ((j : Int) == 0) = false := beq_eq_false_iff_ne.2 (by omega)
        have v1 : (j : Int) - 1 < (x.f1.length : Int) := by omega
        have v2 : 0 ≤ (j : Int) - 1 := by omega
        have v3 : ((j : Int) - 1).toNat = j - 1 := by omega
        have v4 : (j : Int) ≤ 8 := by omega
        go_wp2_with (first | ((with_reducible refine gate_dst (N := 114) rfl ?_); refine evC ST (N := some 114) (cSits key 0 ((h.length : Int) - 1) HIN.out) ?_ Tryd.func59; clear ST HC xk; intro v ST HC; simp only [Rd] at HC; obtain ⟨u0, u1⟩ := HP.out _ ST.out.below) | ((with_reducible refine gate_dst (N := 125) rfl ?_); refine gate_guard (by rfl) ?_; refine evC ST (N := some 125) (cGood st.f0 st.f1 1 5000 HG.out) ?_ Tryd.func46; clear ST HC; intro v ST HC; simp only [Rd] at HC))
        clear v3
        go_roundw
        case rel => exact ⟨j + 1, by omega, rfl, by go_num, ST⟩
        case measure => simp [intOf]; omega
      ·obtain rfl : j = x.f0.length := by omega
       go_wp2_with (fail)
       go_roundw
       case rel => exact ⟨i + 1, by omega, rfl, by go_num, St.tail ST⟩
       case measure => simp [intOf]; omega
    ·obtain rfl : i = s.length := by omega
     go_wp2_with (fail)
     go_loopw [4, 9] (fun u4 u wr => ∃ k : Nat, k ≤ p.length ∧ u4 = .bool true ∧ u = .int .i64 k ∧ Aside0 (St w wr [⟨g1, #[.slice A0 h.length c0, .slice A1 s.length c1, .slice A2 p.length c2, .int .i64 b0, .int .i64 b1], 28, true⟩])) (fun _ u _ => p.length - (intOf u).toNat)
     case atStart => exact ⟨0, Nat.zero_le _, rfl, rfl, ST⟩
     case round =>
      clear ST HC
      obtain ⟨j, hkj, rfl, rfl, ST⟩ := hrel
      have HC := St.rd ST
      simp only [Rd] at HC
      by_cases hlt5 : j < p.length
      ·have m1 : (j : Int) < (p.length : Int) := by omega
       have m0 : 0 ≤ (j : Int) := by omega
       obtain ⟨ak, rfl, _⟩ := H.out.pair hlt5
       have hq := HN.out.pair _ (List.getElem_mem hlt5)
       unfold inK at hq
       obtain ⟨q, hqq⟩ : ∃ q, q = p[j] := ⟨_, rfl⟩
       have HP : Aside0 (∀ W, Below w.heap.size w W → W.cell? (ak.add (j * 2)) = some (.int .i64 q.f0) ∧ W.cell? ⟨(ak.add (j * 2)).block, (ak.add (j * 2)).off + 1, none⟩ = some (.int .i64 q.f1)) := ⟨fun W hW => by obtain ⟨ad', e, h9⟩ := (H.out.below hW).pair hlt5; injection e with e; subst e; rw [hqq]; exact h9⟩
       rw [← hqq] at hq
       have HQ := zh hq
       clear hq hqq
       obtain ⟨u0, u1⟩ := HP.out _ ST.out.below
       go_wp2_with (first | ((with_reducible refine gate_dst (N := 146) rfl ?_); refine evC ST (N := some 146) (cSits q.f0 0 ((h.length : Int) - 1) HQ.out.1) ?_ Tryd.func59; clear ST HC u0 u1; intro v ST HC; simp only [Rd] at HC; obtain ⟨u0, u1⟩ := HP.out _ ST.out.below) | ((with_reducible refine gate_dst (N := 156) rfl ?_); refine gate_guard (by rfl) ?_; refine evC ST (N := some 156) (cSits q.f1 0 ((h.length : Int) - 1) HQ.out.2) ?_ Tryd.func59; clear ST HC; intro v ST HC; simp only [Rd] at HC))
       go_roundw
       case rel => exact ⟨j + 1, by omega, rfl, by go_num, ST⟩
       case measure => simp [intOf]; omega
      ·obtain rfl : j = p.length := by omega
       go_wp2_with (fail)
       go_ret
       exact ⟨rfl, ST.out.below⟩
end
end Go.Proofs.YtgehkojccmkggaaDoor.K
end
section
namespace Go.Proofs.YtgehkojccmkggaaDoor.K
open Go.RowKit Go.Shelf Go.Proofs.YtgehkojccmkggaaDoorW.PrintWords Go.Proofs.YtgehkojccmkggaaDoorW.PrintLast Go.Proofs.YtgehkojccmkggaaDoorW.PrintMore Go.Proofs.YtgehkojccmkggaaDoor.H Tune
set_option linter.unusedVariables false
set_option linter.unusedSimpArgs false
attribute [local go_sem] Oper.semAt_some
def Row26 (cur : Array Value) (l : List S26) : Prop := ∀ i, i < l.length → cur[i * 2]? = some (.int .i64 (l.getD i z26).f0) ∧ cur[i * 2 + 1]? = some (.int .i64 (l.getD i z26).f1)
theorem Row26.set {cur : Array Value} {l : List S26} (h : Row26 cur l) (k : Nat) (a b : Int) (hk : k < l.length) : Row26 ((cur.setIfInBounds (k * 2) (.int .i64 a)).setIfInBounds (k * 2 + 1) (.int .i64 b)) (l.set k ⟨a, b⟩) := by
 intro i hi
 rw [List.length_set] at hi
 obtain ⟨h1, h2⟩ := h i hi
 obtain ⟨l1, e1⟩ := Array.getElem?_eq_some_iff.1 h1
 obtain ⟨l2, e2⟩ := Array.getElem?_eq_some_iff.1 h2
 by_cases e : i = k
 ·subst e
  have e3 : (l.set i ⟨a, b⟩).getD i z26 = ⟨a, b⟩ := by simp [List.getD_eq_getElem?_getD, hk]
  rw [e3]
  constructor
  ·rw [Array.getElem?_setIfInBounds, if_neg (by omega), Array.getElem?_setIfInBounds, if_pos rfl, if_pos l1]
  ·rw [Array.getElem?_setIfInBounds, if_pos rfl, if_pos (by rw [Array.size_setIfInBounds]; exact l2)]
 ·have e3 : (l.set k ⟨a, b⟩).getD i z26 = l.getD i z26 := by simp [List.getD_eq_getElem?_getD, List.getElem?_set, Ne.symm e]
  rw [e3]
  constructor
  ·rw [Array.getElem?_setIfInBounds, if_neg (by omega), Array.getElem?_setIfInBounds, if_neg (by omega)]; exact h1
  ·rw [Array.getElem?_setIfInBounds, if_neg (by omega), Array.getElem?_setIfInBounds, if_neg (by omega)]; exact h2
theorem C26_of_row {w : World} {g : Nat} {t : TypeId} {cur : Array Value} {l : List S26} (hb : w.heap[g]? = some (.cells cur t (0, 0))) (h : Row26 cur l) (hn : l.length ≤ 4000000) : Kd.C k26 w (some ⟨g, 0, none⟩) l.length l := by
 refine ⟨rfl, by omega, fun _ => ⟨_, rfl, fun j p hj => ?_⟩⟩
 obtain ⟨hlt, hp⟩ := List.getElem?_eq_some_iff.1 hj
 have e : l.getD j z26 = p := by simp [List.getD_eq_getElem?_getD, hlt, hp]
 obtain ⟨h1, h2⟩ := h j hlt
 rw [e] at h1 h2
 refine ⟨[.int .i64 p.f0, .int .i64 p.f1], rfl, k26_mk w p, fun i u hu => ?_⟩
 have hs : k26.sz = 2 := rfl
 rw [hs, Addr.add_lit, blk_cell hb]
 match i, hu with
 | 0, hu => injection hu with hu; subst hu; rw [show 0 + (j * 2 + 0) = j * 2 by omega]; exact h1
 | 1, hu => injection hu with hu; subst hu; rw [show 0 + (j * 2 + 1) = j * 2 + 1 by omega]; exact h2
section
variable {ops : Array Oper} {rest : List Oper} {o : Oper} {a : Act} {Q : Exit → Act → World → Prop} {w0 w : World} {L : List Bk}
theorem evLit (S : Aside0 (St w0 w L)) {e : TypeId} (h : ∀ g w1, Aside0 (St w0 w1 (⟨g, #[], e, true⟩ :: L)) → Rd w1 (⟨g, #[], e, true⟩ :: L) → wpList Tryd.prog ops Q rest (a.put o.dst (.slice (some ⟨g, 0, none⟩) 0 0)) w1)
  (hgd : o.guard = none := by rfl) (hrun : (execOp a.eval o).run Tryd.prog w = .ok (.value (.slice (some ⟨w.heap.size, 0, none⟩) 0 0)) (w.alloc (.cells #[] e (0, 0))) := by first | (go_simp; done) | (go_simp; rfl)) : wpList Tryd.prog ops Q (o :: rest) a w :=
 Kd.event_run hgd hrun (h _ _ (St.alloc S #[] e) (St.rd (St.alloc S #[] e)))
theorem evCopy {ge : Nat} (S : Aside0 (St w0 w (⟨ge, #[], 26, true⟩ :: L))) {A : Option Addr} {c : Nat} {l : List S26} (hC : Kd.C k26 w A l.length l) (hl : 0 < l.length ∧ l.length ≤ 8)
  (h : ∀ g cap cur w1, Row26 cur l → l.length ≤ cap → Aside0 (St w0 w1 (⟨g, cur, 26, true⟩ :: L)) → Rd w1 (⟨g, cur, 26, true⟩ :: L) → wpList Tryd.prog ops Q rest (a.put o.dst (.slice (some ⟨g, 0, none⟩) l.length cap)) w1)
  {s x : Operand} (ho : o.op = .call { callee := .builtin .append, args := #[s, x], argTypes := #[22, 22] } := by rfl) (hgd : o.guard = none := by rfl) (hs : a.eval s = .slice (some ⟨ge, 0, none⟩) 0 0 := by rfl) (hx : a.eval x = .slice A l.length c := by rfl) : wpList Tryd.prog ops Q (o :: rest) a w := by
 have S0 := S.out
 have hge := S0.blks.1
 have hown := S0.own _ (List.mem_cons_self ..) rfl
 refine Kd.R_append_rows k26 (w0 := w0) (Rr := k26.K w) w0.heap.size hgd s x 22 26 (.agg #[.int .i64 0, .int .i64 0]) 16 ho Tryd.underlying22 info26 rfl (by decide) (by omega) _ [] l A _ _ (fun _ => True) (fun _ => False) hs hx
  ⟨fun _ _ => trivial, [], ⟨rfl, .inr ⟨ge, 0, #[], rfl, hown, hge, Nat.le_refl _, Nat.zero_le _, rfl, rfl⟩⟩, Reps.none _ _⟩ hC (fun x cs hx => by rw [k26_open hx]; exact k26_mkM _ _ _ _) (fun _ h => h.elim) (fun _ _ => trivial) S0.below S0.below.size (by simp; omega) ?_
 intro v1 w1 hR hb hg hat
 obtain ⟨_, inner, ⟨hlen, hor⟩, hreps⟩ := hR
 rw [List.nil_append] at hlen hor hreps
 rcases hor with ⟨_, h0⟩ | ⟨g, cap, cur, rfl, hgb, hcur, hnc, hcm, hsz, htake⟩
 ·omega
 have hnew : ∀ y ∈ L, y.g < g := by
  intro y hy
  have h1 := (List.pairwise_cons.1 S0.apart).1 y hy
  have h2 := blk_lt (S0.blks.2.of_mem hy)
  rcases hat with e | ⟨b, e, hbb⟩
  ·have : g = ge := by simpa [Value.ownBlock] using e
   rw [this]; exact h1
  ·have : g = b := by simpa [Value.ownBlock] using e
   omega
 have ST : Aside0 (St w0 w1 (⟨g, cur, 26, true⟩ :: L)) := by
  refine ⟨⟨hb, ⟨hcur, S0.blks.2.map fun y hy hx => blk_grown hx hg ?_⟩, ?_, List.Pairwise.cons hnew (List.pairwise_cons.1 S0.apart).2⟩⟩
  ·have h1 : y.g < ge := (List.pairwise_cons.1 S0.apart).1 y hy
   simp [Value.ownBlock]
   omega
  ·intro y hy e
   rcases List.mem_cons.1 hy with rfl | hy
   ·exact hgb
   ·exact S0.own y (List.mem_cons_of_mem _ hy) e
 refine h g cap cur w1 ?_ hnc ST (St.rd ST)
 intro i hi
 have h1 := hreps.2 i _ (List.getElem?_eq_getElem hi)
 have h2 := k26_openM h1
 have hs2 : k26.sz = 2 := rfl
 rw [hs2] at h2 htake hlen
 have e : l.getD i z26 = l[i] := by simp [List.getD_eq_getElem?_getD, hi]
 rw [e]
 have key : ∀ m (u : Value), m < 2 → ((inner.drop (i * 2)).take 2)[m]? = some u → cur[i * 2 + m]? = some u := by
  intro m u hm hu
  rw [List.getElem?_take, if_pos hm, List.getElem?_drop, ← htake, List.getElem?_take, if_pos (by omega)] at hu
  rw [← Array.getElem?_toList]
  exact hu
 constructor
 ·exact key 0 _ (by omega) (by rw [h2]; rfl)
 ·exact key 1 _ (by omega) (by rw [h2]; rfl)
end
end Go.Proofs.YtgehkojccmkggaaDoor.K
end
section
namespace Go.Proofs.YtgehkojccmkggaaDoor.K
open Go.RowKit Go.Shelf Go.Proofs.YtgehkojccmkggaaDoorW.PrintWords Go.Proofs.YtgehkojccmkggaaDoorW.PrintLast Go.Proofs.YtgehkojccmkggaaDoorW.PrintMore Go.Proofs.YtgehkojccmkggaaDoor.H Tune
set_option linter.unusedVariables false
set_option linter.unusedSimpArgs false
attribute [local go_sem] Oper.semAt_some
attribute [local go_sem high] eqA26
attribute [local go_sem] max2_int min2_int max_two min_two
def r44.T3 : Bool × List (List Nat × List Nat) := (true, [([], []), ([0], [0]), ([], []), ([], []), ([], []), ([3, 4], [3, 4]), ([1, 2, 0, 1, 2, 3, 4, 5], [1, 2]), ([6, 5, 5, 0, 1, 2, 3, 4, 5], [5, 6])])
def r44.B3 : List Nat := [0, 1, 0, 0, 0, 24, 63, 127]
theorem r44.tab3 : rtab .any (opsOf Tryd.f44 3) = r44.T3 := by kernel_rfl
theorem r44.bits3 : waitsOk r44.T3.2 r44.B3 = true := by kernel_rfl
section
variable {A0 : Option Addr} {c0 : Nat} {h : List S26} {A1 : Option Addr} {c1 : Nat} {s : List S61} {A2 : Option Addr} {c2 : Nat} {p : List S48} {w : World} {b0 b1 : Int} (H : Aside0 (At A0 c0 h A1 c1 s A2 c2 p w))
include H
set_option maxRecDepth 100000 in
set_option maxHeartbeats 4000000 in
theorem just_b (k : Nat) (q : Int) (hk : k < h.length) (hn : 0 < h.length ∧ h.length ≤ 8) : Calls Tryd.prog 44 #[.agg #[.slice A0 h.length c0, .slice A1 s.length c1, .slice A2 p.length c2, .int .i64 b0, .int .i64 b1], .int .i64 (k : Int), .int .i64 q] w fun e w' => ∃ v : Nat × Nat × Array Value, e = .returned (.agg (sc (some ⟨v.1, 0, none⟩) v.2.1 (h.set k ⟨q, q⟩) A1 c1 s A2 c2 p b0 b1)) ∧ (w'.heap[v.1]? = some (.cells v.2.2 26 (0, 0)) ∧ w.heap.size ≤ v.1 ∧ Row26 v.2.2 (h.set k ⟨q, q⟩) ∧ h.length ≤ v.2.1) ∧ Below w.heap.size w w' := by
 have ST := St.start w
 have HC : True := trivial
 have hk1 : (k : Int) < (h.length : Int) := by omega
 have hk0 : 0 ≤ (k : Int) := by omega
 go_enter Tryd.func44, Tryd.ntmps44
 go_upto_region 3 with (first | ((with_reducible refine gate_dst (N := 3) rfl ?_); refine evA ST (N := 3) (cs := #[.slice A0 h.length c0, .slice A1 s.length c1, .slice A2 p.length c2, .int .i64 b0, .int .i64 b1]) (t := 28) ?_; clear ST HC; intro g3 w ST HC; simp only [Rd] at HC) | ((with_reducible refine gate_dst (N := 6) rfl ?_); refine evA ST (N := 6) (cs := #[.slice none 0 0, .slice none 0 0, .slice none 0 0, .int .i64 0, .int .i64 0]) (t := 28) ?_; clear ST HC; intro g6 w ST HC; simp only [Rd] at HC) | ((with_reducible refine gate_dst (N := 7) rfl ?_); refine evA ST (N := 7) (cs := #[.slice none 0 0, .slice none 0 0, .slice none 0 0, .int .i64 0, .int .i64 0]) (t := 28) ?_; clear ST HC; intro g7 w ST HC; simp only [Rd] at HC) | ((with_reducible refine gate_store (p := 7) (v := (.tmp 8)) rfl ?_); refine evS (L' := [⟨g7, #[.slice A0 h.length c0, .slice A1 s.length c1, .slice A2 p.length c2, .int .i64 b0, .int .i64 b1], 28, true⟩, ⟨g6, #[.slice none 0 0, .slice none 0 0, .slice none 0 0, .int .i64 0, .int .i64 0], 28, true⟩, ⟨g3, #[.slice A0 h.length c0, .slice A1 s.length c1, .slice A2 p.length c2, .int .i64 b0, .int .i64 b1], 28, true⟩]) ST (fun S => St.put (St.put (St.put (St.put (St.put S 0 (0) (.slice A0 h.length c0) rfl) 0 (1) (.slice A1 s.length c1) rfl) 0 (2) (.slice A2 p.length c2) rfl) 0 (3) (.int .i64 b0) rfl) 0 (4) (.int .i64 b1) rfl) ?_; clear ST HC; intro w ST HC; simp only [Rd] at HC) | ((with_reducible refine gate_dst (N := 9) rfl ?_); refine evLit ST (e := 26) ?_; clear ST HC; intro g9 w ST HC; simp only [Rd] at HC) | ((with_reducible refine gate_dst (N := 12) rfl ?_); refine evCopy ST (Kd.C_below H.out.d0 ST.out.below) hn ?_; clear ST HC; intro g12 cap cur w hrow hcap ST HC; simp only [Rd] at HC; have hq := hrow k hk; have HQ := zh hrow; clear hrow; obtain ⟨hq0, hq1⟩ := hq) | ((with_reducible refine gate_store (p := 13) (v := (.tmp 12)) rfl ?_); refine evS (L' := [⟨g12, cur, 26, true⟩, ⟨g7, #[.slice (some ⟨g12, 0, none⟩) h.length cap, .slice A1 s.length c1, .slice A2 p.length c2, .int .i64 b0, .int .i64 b1], 28, true⟩, ⟨g6, #[.slice none 0 0, .slice none 0 0, .slice none 0 0, .int .i64 0, .int .i64 0], 28, true⟩, ⟨g3, #[.slice A0 h.length c0, .slice A1 s.length c1, .slice A2 p.length c2, .int .i64 b0, .int .i64 b1], 28, true⟩]) ST (fun S => St.put S 1 (0) (.slice (some ⟨g12, 0, none⟩) h.length cap) rfl) ?_; clear ST HC; intro w ST HC; simp only [Rd] at HC))
 refine zI (E := fun _ => True) (n := 8) (ds := [7]) ST (fun _ _ => trivial) r44.tab3 r44.bits3 ?_
 clear ST HC
 intro w ST HC HT_ HW_ HE_
 simp only [Rd] at HC
 refine zu 0 ?_
 refine zu 2 ?_
 refine zu 3 ?_
 refine zu 4 ?_
 refine zL 1 ST ?_
 refine zG 5 ST (cBand q q) ?_ Tryd.func42
 clear ST HC
 intro w ST HC
 simp only [Rd] at HC
 refine zu 6 ?_
 refine zS 7 (L' := [⟨g12, ((cur.setIfInBounds (k * 2) (.int .i64 q)).setIfInBounds (k * 2 + 1) (.int .i64 q)), 26, true⟩, ⟨g7, #[.slice (some ⟨g12, 0, none⟩) h.length cap, .slice A1 s.length c1, .slice A2 p.length c2, .int .i64 b0, .int .i64 b1], 28, true⟩, ⟨g6, #[.slice none 0 0, .slice none 0 0, .slice none 0 0, .int .i64 0, .int .i64 0], 28, true⟩, ⟨g3, #[.slice A0 h.length c0, .slice A1 s.length c1, .slice A2 p.length c2, .int .i64 b0, .int .i64 b1], 28, true⟩]) ST (fun S => St.put (St.put S 0 (k * 2) (.int .i64 q) rfl) 0 (k * 2 + 1) (.int .i64 q) rfl) ?_
 clear ST HC
 intro w ST HC
 simp only [Rd] at HC
 refine zd ?_
 clear HT_ HW_ HE_ hq0 hq1
 go_wp2_with (first | ((with_reducible refine gate_store (p := 6) (v := (.tmp 21)) rfl ?_); refine evS (L' := [⟨g12, ((cur.setIfInBounds (k * 2) (.int .i64 q)).setIfInBounds (k * 2 + 1) (.int .i64 q)), 26, true⟩, ⟨g7, #[.slice (some ⟨g12, 0, none⟩) h.length cap, .slice A1 s.length c1, .slice A2 p.length c2, .int .i64 b0, .int .i64 b1], 28, true⟩, ⟨g6, #[.slice (some ⟨g12, 0, none⟩) h.length cap, .slice A1 s.length c1, .slice A2 p.length c2, .int .i64 b0, .int .i64 b1], 28, true⟩, ⟨g3, #[.slice A0 h.length c0, .slice A1 s.length c1, .slice A2 p.length c2, .int .i64 b0, .int .i64 b1], 28, true⟩]) ST (fun S => St.put (St.put (St.put (St.put (St.put S 2 (0) (.slice (some ⟨g12, 0, none⟩) h.length cap) rfl) 2 (1) (.slice A1 s.length c1) rfl) 2 (2) (.slice A2 p.length c2) rfl) 2 (3) (.int .i64 b0) rfl) 2 (4) (.int .i64 b1) rfl) ?_; clear ST HC; intro w ST HC; simp only [Rd] at HC))
 exact bodyPost_ret (v := .agg #[.slice (some ⟨g12, 0, none⟩) h.length cap, .slice A1 s.length c1, .slice A2 p.length c2, .int .i64 b0, .int .i64 b1]) (by simp [results, Tryd.results44, go_sem, HC]) rfl ⟨(g12, cap, _), by unfold sc; rw [List.length_set], ⟨ST.out.blks.1, ST.out.own _ (List.mem_cons_self ..) rfl, HQ.out.set k q q hk, hcap⟩, ST.out.below⟩
theorem cJustB {k : Nat} {q : Int} {h3 : List S26} (he : Aside0 (h.set k ⟨q, q⟩ = h3)) (hk : k < h.length) (hn : 0 < h.length ∧ h.length ≤ 8) {w1 : World} (hW : Below w.heap.size w w1) : Calls Tryd.prog 44 #[.agg (sc A0 c0 h A1 c1 s A2 c2 p b0 b1), .int .i64 (k : Int), .int .i64 q] w1 fun e w' => ∃ v : Nat × Nat × Array Value, e = .returned (.agg (sc (some ⟨v.1, 0, none⟩) v.2.1 h3 A1 c1 s A2 c2 p b0 b1)) ∧ (w'.heap[v.1]? = some (.cells v.2.2 26 (0, 0)) ∧ w1.heap.size ≤ v.1 ∧ Row26 v.2.2 h3 ∧ h.length ≤ v.2.1) ∧ Below w1.heap.size w1 w' := by rw [← he.out]; exact just_b ⟨H.out.below hW⟩ k q hk hn
omit H in
theorem At.row {g cap : Nat} {cur : Array Value} {t : TypeId} {h2 : List S26} (H : At A0 c0 h A1 c1 s A2 c2 p w) (hb : w.heap[g]? = some (.cells cur t (0, 0))) (hr : Row26 cur h2) (hl : h2.length = h.length) (h8 : h.length ≤ 8) (hc : h.length ≤ cap) : At (some ⟨g, 0, none⟩) cap h2 A1 c1 s A2 c2 p w := by
 have hsm : small h2 s p = true := by have h9 := H.sm; unfold small at h9 ⊢; rw [hl]; exact h9
 exact ⟨hsm, H.gl, C26_of_row hb hr (by omega), by omega, H.d1, H.n1, H.d2, H.n2⟩
end
end Go.Proofs.YtgehkojccmkggaaDoor.K
end
section
namespace Go.Proofs.YtgehkojccmkggaaDoor.K
open Go.RowKit Go.Shelf Go.Proofs.YtgehkojccmkggaaDoorW.PrintWords Go.Proofs.YtgehkojccmkggaaDoorW.PrintLast Go.Proofs.YtgehkojccmkggaaDoorW.PrintMore Go.Proofs.YtgehkojccmkggaaDoor.H Tune
set_option linter.unusedVariables false
set_option linter.unusedSimpArgs false
attribute [local go_sem] Oper.semAt_some
section
variable {w0 w w1 : World} {L : List Bk} {I : World → Prop}
theorem Sx.anew (h : Aside0 (Sx w0 w L [] I)) : Aside0 (Sx w w (L.map fun x => { x with own := false }) [] I) := by
 obtain ⟨⟨a1, a2, a3, a4, a5, a6, a7, ok, b1, b2, b3, b4⟩⟩ := h
 refine ⟨⟨Below.refl _ _, ?_, ?_, by rw [List.pairwise_map]; exact a4, (fun r hr => by cases hr), (fun r hr => by cases hr), List.Pairwise.nil, ok, b1, b2, ?_, (fun k _ r hr => by cases hr)⟩⟩
 ·clear a1 a3 a4 a5 a6 a7 b1 b2 b3 b4
  induction L with
  | nil => trivial
  | cons x L ih => exact ⟨a2.1, ih a2.2⟩
 ·intro x hx e
  obtain ⟨y, _, rfl⟩ := List.mem_map.1 hx
  cases e
 ·intro k hk x hx e
  obtain ⟨y, _, rfl⟩ := List.mem_map.1 hx
  cases e
theorem Sx.made (S : Aside0 (Sx w0 w L [] I)) (hb : Below w.heap.size w w1) {g : Nat} {cs : Array Value} {t : TypeId} (hg : w1.heap[g]? = some (.cells cs t (0, 0))) (hl : w.heap.size ≤ g) : Aside0 (Sx w0 w1 (⟨g, cs, t, true⟩ :: L) [] I) := by
 have h2 := Sx.call S hb
 obtain ⟨⟨a1, a2, a3, a4, a5, a6, a7, ok, b1, b2, b3, b4⟩⟩ := S
 obtain ⟨⟨c1, c2, c3, c4, c5, c6, c7, _⟩⟩ := h2
 refine ⟨⟨c1, ⟨hg, c2⟩, ?_, List.Pairwise.cons (fun x hx => ?_) c4, (fun r hr => by cases hr), (fun r hr => by cases hr), List.Pairwise.nil, ok, b1.step (fun k _ hlt => hb.block k hlt), (fun k hk => by have := b2 k hk; have := hb.size; omega), ?_, (fun k _ r hr => by cases hr)⟩⟩
 ·intro x hx e
  rcases List.mem_cons.1 hx with rfl | hx
  ·exact Nat.le_trans a1.size hl
  ·exact a3 x hx e
 ·have := blk_lt (a2.of_mem hx)
  show g ≠ x.g
  omega
 ·intro k hk x hx e
  rcases List.mem_cons.1 hx with rfl | hx
  ·have := b2 k hk
   show g ≠ k
   omega
  ·exact b3 k hk x hx e
end
section
variable {P : Program} {md : Region.Mode} {ops : Array Oper} {Q : Exit → Act → World → Prop} {ds : List Nat} {w0 w : World} {L : List Bk} {I : World → Prop} {n_ : Tmp} {oi : Oper} {fuel : Nat} {l : Array Bool} {a a' : Act}
theorem yBr {S : World → Prop} (i : Nat) (ST : Aside0 (Sx w0 w L [] I)) {f : FuncId} {args : Array Value} {F : Nat × Nat × Array Value → Value} {t : TypeId} {R' : Nat × Nat × Array Value → Prop} (hC : Calls P f args w fun e w' => ∃ v, e = .returned (F v) ∧ (w'.heap[v.1]? = some (.cells v.2.2 t (0, 0)) ∧ w.heap.size ≤ v.1 ∧ R' v) ∧ Below w.heap.size w w')
  (h : ∀ g c cur w1, R' (g, c, cur) → Aside0 (Sx w0 w1 (⟨g, cur, t, true⟩ :: L) [] I) → Rd w1 (⟨g, cur, t, true⟩ :: L) → wpAnyLast P md ops Q S ds fuel (l.setIfInBounds i true) (a.put (some n_) (F (g, c, cur))) w1)
  {fn : Func} (hf : P.funcs[f]? = some fn) {rest : List Oper} (hi : ops.toList.drop i = oi :: rest := by exact rfl) (hN : oi.dst = some n_ := by exact rfl) (hc : readyB md ops l (l.setIfInBounds i true) i = true := by exact one_of HT_.out zk) (hd : i ∈ ds := by decide)
  (hname : (fn.name == "runtime.NumGoroutine") = false := by exact zk) (hb : fn.body.isSome = true := by rfl) (hw : Region.wanted oi (yielded ops a.tmps) = true := by rfl) {ao : Array Operand} {ts : Array TypeId}
  (hop : oi.op = .call { callee := .value (.func f), args := ao, argTypes := ts } := by rfl) (hargs : ao.map a.eval = args := by exact zm) : wpAnyLast P md ops Q S ds (fuel + 1) l a w := by
 refine last_ _ (drop_at hi) hN hc hd (fun K hK => ?_)
 refine goes_ hf hname hb args hw hN hop hargs (hC.mono ?_)
 rintro r w1 ⟨⟨g, c, cur⟩, rfl, ⟨h1, h2, h3⟩, hb⟩
 exact ⟨_, rfl, hK.out _ _ (h g c cur w1 h3 (Sx.made ST hb h1 h2) (Sx.rd (Sx.made ST hb h1 h2)))⟩
end
section
variable {A0 : Option Addr} {c0 : Nat} {h : List S26} {A1 : Option Addr} {c1 : Nat} {s : List S61} {A2 : Option Addr} {c2 : Nat} {p : List S48} {w : World} {b0 b1 : Int}
theorem At.bare (H : At A0 c0 h A1 c1 s A2 c2 p w) : At A0 c0 h none 0 [] none 0 [] w := by
 refine ⟨?_, H.gl, H.d0, H.n0, Kd.C_nil k61 w, Nat.le_refl _, Kd.C_nil k48 w, Nat.le_refl _⟩
 have h1 := small_h H.sm
 unfold small many
 simp only [Bool.and_eq_true, decide_eq_true_eq]
 exact ⟨⟨⟨h1, by simp⟩, by simp⟩, by simp⟩
end
end Go.Proofs.YtgehkojccmkggaaDoor.K
end
section
namespace Go.Proofs.YtgehkojccmkggaaDoor.K
open Go.RowKit Go.Shelf Go.Proofs.YtgehkojccmkggaaDoorW.PrintWords Go.Proofs.YtgehkojccmkggaaDoorW.PrintLast Go.Proofs.YtgehkojccmkggaaDoorW.PrintMore Go.Proofs.YtgehkojccmkggaaDoor.H Tune
set_option linter.unusedVariables false
set_option linter.unusedSimpArgs false
attribute [local go_sem] Oper.semAt_some
def Tg (h : List S26) (s : List S61) (p : List S48) (B : Int × Int) (l : Nat → Int) : Prop := (∀ x, x < h.length → loH h x ≤ l x ∧ l x ≤ hiH h x) ∧ AllFit s p noLeft B l
section
variable {h : List S26} {s : List S61} {p : List S48} {b0 b1 : Int}
theorem Tg_iff (hc : checkT h s p b0 b1 = 0) (l : Nat → Int) : TunS h (jsOf h s p b0 b1) (b0, b1) l ↔ Tg h s p (b0, b1) l := TunS_plain hc _ _
theorem asked_g (hc : checkT h s p b0 b1 = 0) : (askedE h s p b0 b1 true = 0 ∧ ∃ l, Tg h s p (b0, b1) l) ∨ (askedE h s p b0 b1 true = 12 ∧ ¬ ∃ l, Tg h s p (b0, b1) l) := by
 have F := (fine_of hc).1
 have e : (tunS h (jsOf h s p b0 b1) noLeft (b0, b1) [] = true) ↔ ∃ l, Tg h s p (b0, b1) l := (tun_some F).trans (exists_congr fun l => Tg_iff hc l)
 unfold askedE
 rw [if_neg (fun e => e hc), if_neg (by decide)]
 by_cases ht : tunS h (jsOf h s p b0 b1) noLeft (b0, b1) [] = true
 ·rw [if_pos ht]; exact .inl ⟨rfl, e.1 ht⟩
 ·rw [if_neg ht]; exact .inr ⟨rfl, fun h9 => ht (e.2 h9)⟩
theorem tuning_g (hsm : small h s p = true) {E : Int} (hE : askedE h s p b0 b1 true = E) : ∃ r, tune_Tuning.f h s p b0 b1 = some (r, E) := ⟨_, by unfold tune_Tuning.f; rw [if_pos hsm, hE]⟩
theorem set_lo {a : Nat} (ha : a < h.length) (x y : Int) (k : Nat) : loH (h.set a ⟨x, y⟩) k = (if k = a then x else loH h k) ∧ hiH (h.set a ⟨x, y⟩) k = (if k = a then y else hiH h k) := by
 unfold loH hiH
 by_cases e : k = a
 ·subst e
  rw [if_pos rfl, if_pos rfl, show (h.set k ⟨x, y⟩).getD k z26 = ⟨x, y⟩ by simp [List.getD_eq_getElem?_getD, ha]]
  exact ⟨rfl, rfl⟩
 ·rw [if_neg e, if_neg e, show (h.set a ⟨x, y⟩).getD k z26 = h.getD k z26 by simp [List.getD_eq_getElem?_getD, List.getElem?_set, Ne.symm e]]
  exact ⟨rfl, rfl⟩
theorem check_set (hc : checkT h s p b0 b1 = 0) {a : Nat} {x y : Int} (ha : a < h.length) (h1 : 1 ≤ x) (h2 : x ≤ y) (h3 : y ≤ 4000) (h4 : y - x ≤ 40) : checkT (h.set a ⟨x, y⟩) s p b0 b1 = 0 := by
 obtain ⟨⟨a1, a2, a3, a4⟩, a5⟩ := check_iff.1 hc
 refine check_iff.2 ⟨⟨?_, ?_, a3, by rw [List.length_set]; exact a4⟩, a5⟩
 ·unfold ok0 at a1 ⊢
  rw [List.length_set]
  exact a1
 ·rw [List.all_eq_true] at a2 ⊢
  intro z hz
  rcases List.mem_or_eq_of_mem_set hz with hz | rfl
  ·exact a2 z hz
  ·unfold okHeard okSpan
   simp only [Bool.and_eq_true, decide_eq_true_eq]
   omega
theorem small_set (hsm : small h s p = true) (a : Nat) (v : S26) : small (h.set a v) s p = true := by unfold small at hsm ⊢; rw [List.length_set]; exact hsm
end
end Go.Proofs.YtgehkojccmkggaaDoor.K
end
section
namespace Go.Proofs.YtgehkojccmkggaaDoor.K
open Go.RowKit Go.Shelf Go.Proofs.YtgehkojccmkggaaDoorW.PrintWords Go.Proofs.YtgehkojccmkggaaDoorW.PrintLast Go.Proofs.YtgehkojccmkggaaDoorW.PrintMore Go.Proofs.YtgehkojccmkggaaDoor.H Tune
set_option linter.unusedVariables false
set_option linter.unusedSimpArgs false
attribute [local go_sem] Oper.semAt_some
def Inc (n : Nat) (l : List Int) : Prop := l.Pairwise (· < ·) ∧ ∀ x ∈ l, 0 ≤ x ∧ x < (n : Int)
theorem Inc.snoc {n : Nat} {l : List Int} (h : Inc n l) {k : Int} (h1 : fromK l ≤ k) (h0 : 0 ≤ k) (h2 : k < (n : Int)) : Inc n (l ++ [k]) := by
 refine ⟨?_, fun x hx => ?_⟩
 ·rw [List.pairwise_append]
  refine ⟨h.1, List.pairwise_singleton _ _, fun a ha b hb => ?_⟩
  rw [List.mem_singleton] at hb
  subst hb
  unfold fromK at h1
  have hne : l ≠ [] := fun e => by rw [e] at ha; cases ha
  rw [if_neg hne] at h1
  obtain ⟨i, hi, rfl⟩ := List.getElem_of_mem ha
  have e : l.getD (l.length - 1) 0 = l[l.length - 1]'(by omega) := by simp [List.getD_eq_getElem?_getD, show l.length - 1 < l.length by omega]
  rw [e] at h1
  by_cases hl : i = l.length - 1
  ·subst hl; omega
  ·have := List.pairwise_iff_getElem.1 h.1 i (l.length - 1) hi (by omega) (by omega)
   omega
 ·rcases List.mem_append.1 hx with hx | hx
  ·exact h.2 x hx
  ·rw [List.mem_singleton] at hx
   subst hx
   exact ⟨h0, h2⟩
theorem fromK_ge {n : Nat} {l : List Int} (h : Inc n l) : 0 ≤ fromK l := by
 unfold fromK
 split
 ·exact Int.le_refl _
 ·rename_i hne
  have hl : 0 < l.length := List.length_pos_iff.2 hne
  have e : l.getD (l.length - 1) 0 = l[l.length - 1]'(by omega) := by simp [List.getD_eq_getElem?_getD, show l.length - 1 < l.length by omega]
  have := h.2 _ (List.getElem_mem (show l.length - 1 < l.length by omega))
  rw [e]
  omega
theorem fromK_next {n : Nat} {l r : List Int} {k : Int} (h : Inc n (l ++ k :: r)) : fromK l ≤ k := by
 unfold fromK
 split
 ·exact (h.2 k (by simp)).1
 ·rename_i hne
  have hl : 0 < l.length := List.length_pos_iff.2 hne
  have e : l.getD (l.length - 1) 0 = l[l.length - 1]'(by omega) := by simp [List.getD_eq_getElem?_getD, show l.length - 1 < l.length by omega]
  rw [e]
  have := (List.pairwise_append.1 h.1).2.2 _ (List.getElem_mem (show l.length - 1 < l.length by omega)) k (List.mem_cons_self ..)
  omega
theorem chooseRow_spec (C : Int → Option (List Int)) : ∀ (d : Nat) (k : Int), (∀ r, chooseRow C d k = some r → ∃ x, k ≤ x ∧ x < k + d ∧ C x = some r) ∧ (chooseRow C d k = none → ∀ x, k ≤ x → x < k + d → C x = none) := by
 intro d
 induction d with
 | zero => intro k; exact ⟨fun r h => (by cases h), fun _ x h1 h2 => by omega⟩
 | succ d ih =>
  intro k
  rw [chooseRow]
  obtain ⟨i1, i2⟩ := ih (k + 1)
  cases hc : C k with
  | some l => exact ⟨fun r h => (by injection h with h; subst h; exact ⟨k, Int.le_refl _, by omega, hc⟩), fun h => by cases h⟩
  | none =>
   refine ⟨fun r h => ?_, fun h x h1 h2 => ?_⟩
   ·obtain ⟨x, x1, x2, x3⟩ := i1 r h
    exact ⟨x, by omega, by omega, x3⟩
   ·by_cases e : x = k
    ·rw [e]; exact hc
    ·exact i2 h x (by omega) (by omega)
theorem chooseF_spec (P : List Int → Bool) (n : Nat) (many : Nat) : ∀ (f : Nat) (l : List Int), Inc n l → l.length ≤ many → many < f + l.length → (∀ r, chooseF P n f l many = some r → Inc n r ∧ r.length = many ∧ P r = true) ∧ (chooseF P n f l many = none → ∀ r, Inc n (l ++ r) → (l ++ r).length = many → P (l ++ r) = false) := by
 intro f
 induction f with
 | zero => intro l _ h1 h2; omega
 | succ f ih =>
  intro l hl h1 h2
  rw [chooseF]
  by_cases he : l.length = many
  ·rw [if_pos he]
   cases hp : P l with
   | true =>
    rw [if_pos rfl]
    exact ⟨fun r h => (by injection h with h; subst h; exact ⟨hl, he, hp⟩), fun h => by cases h⟩
   | false =>
    rw [if_neg (by decide)]
    refine ⟨fun r h => (by cases h), fun _ r hr hlen => ?_⟩
    rw [List.length_append] at hlen
    obtain rfl : r = [] := List.length_eq_zero_iff.1 (by omega)
    rw [List.append_nil]
    exact hp
  ·rw [if_neg he]
   have hk := fromK_ge hl
   obtain ⟨r1, r2⟩ := chooseRow_spec (fun k => chooseF P n f (l ++ [k]) many) (n - (fromK l).toNat) (fromK l)
   refine ⟨fun r h => ?_, fun h r hr hlen => ?_⟩
   ·obtain ⟨x, x1, x2, x3⟩ := r1 r h
    exact (ih (l ++ [x]) (hl.snoc x1 (by omega) (by omega)) (by rw [List.length_append]; simp; omega) (by rw [List.length_append]; simp; omega)).1 r x3
   ·cases r with
    | nil => rw [List.append_nil] at hlen; exact absurd hlen he
    | cons x r =>
     have hx := fromK_next hr
     have hx2 := hr.2 x (by simp)
     have h3 := r2 h x hx (by omega)
     have h4 := (ih (l ++ [x]) (hl.snoc hx (by omega) hx2.2) (by rw [List.length_append]; simp; omega) (by rw [List.length_append]; simp; omega)).2 h3 r
     rw [show l ++ x :: r = (l ++ [x]) ++ r by simp] at hr hlen ⊢
     exact h4 hr hlen
theorem wrongGo_spec (P : List Int → Bool) (n : Nat) : ∀ (d many : Nat), (∀ r, wrongGo P n d many = some r → Inc n r ∧ P r = true ∧ ∀ q, Inc n q → many ≤ q.length → q.length < r.length → P q = false) ∧ (wrongGo P n d many = none → ∀ q, Inc n q → many ≤ q.length → q.length < many + d → P q = false) := by
 intro d
 induction d with
 | zero => intro many; exact ⟨fun r h => (by cases h), fun _ q _ h1 h2 => by omega⟩
 | succ d ih =>
  intro many
  rw [wrongGo]
  have hnil : Inc n [] := ⟨List.Pairwise.nil, fun x hx => by cases hx⟩
  obtain ⟨c1, c2⟩ := chooseF_spec P n many (many + 1) [] hnil (Nat.zero_le _) (by simp)
  obtain ⟨i1, i2⟩ := ih (many + 1)
  cases hc : chooseF P n (many + 1) [] many with
  | some l =>
   refine ⟨fun r h => ?_, fun h => (by cases h)⟩
   injection h with h
   subst h
   obtain ⟨a1, a2, a3⟩ := c1 l hc
   exact ⟨a1, a3, fun q _ h1 h2 => by omega⟩
  | none =>
   have hno := c2 hc
   refine ⟨fun r h => ?_, fun h q hq h1 h2 => ?_⟩
   ·obtain ⟨a1, a2, a3⟩ := i1 r h
    refine ⟨a1, a2, fun q hq h1 h2 => ?_⟩
    by_cases e : q.length = many
    ·exact hno q hq e
    ·exact a3 q hq (by omega) h2
   ·by_cases e : q.length = many
    ·exact hno q hq e
    ·exact i2 h q hq (by omega) (by omega)
section
variable {h : List S26} {s : List S61} {p : List S48} {b0 b1 : Int}
def TgL (h : List S26) (s : List S61) (p : List S48) (B : Int × Int) (w : List Int) (l : Nat → Int) : Prop := (∀ x, x < h.length → lfOf w x = false → loH h x ≤ l x ∧ l x ≤ hiH h x) ∧ AllFit s p (lfOf w) B l
theorem wrongP_iff (hc : checkT h s p b0 b1 = 0) (w : List Int) : wrongP h s p b0 b1 w = true ↔ ∃ l, TgL h s p (b0, b1) w l := by
 unfold wrongP
 rw [tunS_plain hc]
 refine exists_congr fun l => and_congr ⟨fun g x hx hl => ⟨(g x hx hl).1, (g x hx hl).2.1⟩, fun g x hx hl => ⟨(g x hx hl).1, (g x hx hl).2, rfl⟩⟩ Iff.rfl
theorem lfOf_mem {w : List Int} {x : Nat} : lfOf w x = true ↔ (x : Int) ∈ w := by
 unfold lfOf
 rw [List.any_eq_true]
 constructor
 ·rintro ⟨y, hy, e⟩; rw [beq_iff_eq] at e; rw [← e]; exact hy
 ·exact fun hx => ⟨_, hx, beq_iff_eq.2 rfl⟩
theorem Inc.all (n : Nat) : Inc n ((List.range n).map fun i : Nat => (i : Int)) := by
 refine ⟨?_, fun x hx => ?_⟩
 ·rw [List.pairwise_map]
  exact List.pairwise_lt_range.imp fun h => by omega
 ·obtain ⟨i, hi, rfl⟩ := List.mem_map.1 hx
  have := List.mem_range.1 hi
  omega
theorem wrongT_spec (hc : checkT h s p b0 b1 = 0) : Inc h.length (wrongT h s p b0 b1) ∧ (∃ l, TgL h s p (b0, b1) (wrongT h s p b0 b1) l) ∧ ∀ q, Inc h.length q → (∃ l, TgL h s p (b0, b1) q l) → (wrongT h s p b0 b1).length ≤ q.length := by
 unfold wrongT
 rw [if_pos hc]
 obtain ⟨g1, g2⟩ := wrongGo_spec (wrongP h s p b0 b1) h.length (h.length + 1) 0
 cases hg : wrongGo (wrongP h s p b0 b1) h.length (h.length + 1) 0 with
 | none =>
  exfalso
  have h1 := g2 hg _ (Inc.all h.length) (Nat.zero_le _) (by simp)
  have h2 : wrongP h s p b0 b1 ((List.range h.length).map fun i : Nat => (i : Int)) = true := by
   rw [wrongP_iff hc]
   have hin : ∀ x, x < h.length → lfOf ((List.range h.length).map fun i : Nat => (i : Int)) x = true := fun x hx => lfOf_mem.2 (List.mem_map.2 ⟨x, List.mem_range.2 hx, rfl⟩)
   have N := neat_of hc
   have hk : ∀ k : Int, inK h.length k = true → lfOf ((List.range h.length).map fun i : Nat => (i : Int)) k.toNat = true := fun k hk => hin _ (by unfold inK at hk; simp only [Bool.and_eq_true, decide_eq_true_eq] at hk; omega)
   refine ⟨fun _ => 0, ?_⟩
   unfold TgL AllFit
   refine ⟨(fun x hx hl => by rw [hin x hx] at hl; cases hl), fun x hx m hm => ?_, fun q hq => ?_⟩
   ·intro l1
    obtain ⟨_, _, n1, n2, _⟩ := N.scale x hx
    have hlt : m < x.f0.length := by omega
    have := hk _ (n2 _ (List.getElem_mem hlt))
    rw [show x.f0.getD m 0 = x.f0[m] by simp [List.getD_eq_getElem?_getD, hlt]] at l1
    rw [this] at l1
    cases l1
   ·intro l1
    rw [hk _ (N.pair q hq).1] at l1
    cases l1
  rw [h2] at h1
  cases h1
 | some r =>
  obtain ⟨a1, a2, a3⟩ := g1 r hg
  refine ⟨a1, (wrongP_iff hc r).1 a2, fun q hq hl => ?_⟩
  rcases Nat.lt_or_ge q.length r.length with h1 | h1
  ·have := a3 q hq (Nat.zero_le _) h1
   rw [(wrongP_iff hc q).2 hl] at this
   cases this
  ·exact h1
end
theorem Inc.insert {n : Nat} {w : List Int} (h : Inc n w) {k : Nat} (hk : k < n) : ∃ q, Inc n q ∧ q.length ≤ w.length + 1 ∧ ∀ x, x ∈ q ↔ x ∈ w ∨ x = (k : Int) := by
 refine ⟨(w.filter fun x => decide (x < (k : Int))) ++ (k : Int) :: (w.filter fun x => decide ((k : Int) < x)), ⟨?_, ?_⟩, ?_, ?_⟩
 ·rw [List.pairwise_append, List.pairwise_cons]
  refine ⟨h.1.filter _, ⟨fun y hy => ?_, h.1.filter _⟩, fun a ha b hb => ?_⟩
  ·exact of_decide_eq_true (List.mem_filter.1 hy).2
  ·have h1 := of_decide_eq_true (List.mem_filter.1 ha).2
   rcases List.mem_cons.1 hb with rfl | hb
   ·exact h1
   ·have := of_decide_eq_true (List.mem_filter.1 hb).2
    omega
 ·intro x hx
  rcases List.mem_append.1 hx with hx | hx
  ·exact h.2 x (List.mem_filter.1 hx).1
  ·rcases List.mem_cons.1 hx with rfl | hx
   ·omega
   ·exact h.2 x (List.mem_filter.1 hx).1
 ·rw [List.length_append, List.length_cons]
  have key : ∀ l : List Int, (l.filter fun x => decide (x < (k : Int))).length + (l.filter fun x => decide ((k : Int) < x)).length ≤ l.length := by
   intro l
   induction l with
   | nil => exact Nat.le_refl _
   | cons a l ih =>
    rw [List.filter_cons, List.filter_cons, List.length_cons]
    by_cases h1 : a < (k : Int)
    ·rw [decide_eq_true h1, decide_eq_false (show ¬ (k : Int) < a by omega)]
     simp only [if_true, List.length_cons, Bool.false_eq_true, if_false]
     omega
    ·rw [decide_eq_false h1]
     by_cases h2 : (k : Int) < a
     ·rw [decide_eq_true h2]
      simp only [if_true, List.length_cons, Bool.false_eq_true, if_false]
      omega
     ·rw [decide_eq_false h2]
      simp only [Bool.false_eq_true, if_false]
      omega
  have := key w
  omega
 ·intro x
  rw [List.mem_append, List.mem_cons, List.mem_filter, List.mem_filter]
  simp only [decide_eq_true_eq]
  constructor
  ·rintro (h1 | h1 | h1)
   ·exact .inl h1.1
   ·exact .inr h1
   ·exact .inl h1.1
  ·rintro (h1 | h1)
   ·by_cases h2 : x < (k : Int)
    ·exact .inl ⟨h1, h2⟩
    ·by_cases h3 : x = (k : Int)
     ·exact .inr (.inl h3)
     ·exact .inr (.inr ⟨h1, by omega⟩)
   ·exact .inr (.inl h1)
end Go.Proofs.YtgehkojccmkggaaDoor.K
end
section
namespace Go.Proofs.YtgehkojccmkggaaDoor.K
open Go.RowKit Go.Shelf Go.Proofs.YtgehkojccmkggaaDoorW.PrintWords Go.Proofs.YtgehkojccmkggaaDoorW.PrintLast Go.Proofs.YtgehkojccmkggaaDoorW.PrintMore Go.Proofs.YtgehkojccmkggaaDoor.H Tune
set_option linter.unusedVariables false
set_option linter.unusedSimpArgs false
attribute [local go_sem] Oper.semAt_some
def cutK (w : List Int) (x : S61) : Nat := (x.f0.takeWhile fun y => !w.contains y).length
def cutS (w : List Int) (x : S61) : S61 := ⟨x.f0.take (cutK w x), x.f1.take (cutK w x - 1)⟩
def woS (w : List Int) (s : List S61) : List S61 := s.flatMap fun x => if 0 < cutK w x then [cutS w x] else []
def woP (w : List Int) (p : List S48) : List S48 := p.filter fun q => !w.contains q.f0 && !w.contains q.f1
theorem cutK_le (w : List Int) (x : S61) : cutK w x ≤ x.f0.length := by unfold cutK; exact (List.takeWhile_sublist _).length_le
theorem cutK_out {w : List Int} {x : S61} {m : Nat} (hm : m < cutK w x) : w.contains (x.f0.getD m 0) = false := by
 unfold cutK at hm
 have h1 := List.all_eq_true.1 (List.all_takeWhile (p := fun y => !w.contains y) (l := x.f0)) _ (List.getElem_mem hm)
 have hl : m < x.f0.length := Nat.lt_of_lt_of_le hm (List.takeWhile_sublist _).length_le
 have e : (x.f0.takeWhile fun y => !w.contains y)[m] = x.f0[m] := by
  have := List.takeWhile_prefix (l := x.f0) (fun y => !w.contains y)
  exact this.getElem hm
 rw [e] at h1
 rw [show x.f0.getD m 0 = x.f0[m] by simp [List.getD_eq_getElem?_getD, hl]]
 simpa using h1
section
variable {h : List S26} {s : List S61} {p : List S48} {b0 b1 : Int} {w : List Int}
theorem mem_woS {y : S61} : y ∈ woS w s ↔ ∃ x ∈ s, 0 < cutK w x ∧ y = cutS w x := by
 unfold woS
 rw [List.mem_flatMap]
 refine exists_congr fun x => and_congr Iff.rfl ?_
 by_cases hk : 0 < cutK w x
 ·rw [if_pos hk]; simp [hk]
 ·rw [if_neg hk]; simp [hk]
theorem cut_steps {x : S61} (hl : x.f1.length + 1 = x.f0.length) : ((stepsOf (cutS w x)).map kk).Sublist ((stepsOf x).map kk) := by
 have hk := cutK_le w x
 have e : (stepsOf (cutS w x)).map kk = ((stepsOf x).map kk).take (cutK w x - 1) := by
  unfold stepsOf
  have ht : ∀ (n m : Nat), (List.range' 0 m).take n = List.range' 0 (min n m) := fun n m => by
   rcases Nat.le_total m n with h1 | h1
   ·rw [List.take_range'_of_length_le h1, Nat.min_eq_right h1]
   ·rw [List.take_range'_of_length_ge h1, Nat.min_eq_left h1]
  rw [List.map_map, List.map_map, ← List.map_take, ht]
  have hlen : (cutS w x).f1.length = min (cutK w x - 1) x.f1.length := by unfold cutS; exact List.length_take
  rw [hlen]
  refine List.map_congr_left fun i hi => ?_
  have hi2 := (List.mem_range'_1.1 hi).2
  show kk (stepQ (cutS w x) i) = kk (stepQ x i)
  unfold kk stepQ cutS
  dsimp only
  have a1 : (x.f0.take (cutK w x)).getD i 0 = x.f0.getD i 0 := by simp [List.getD_eq_getElem?_getD, List.getElem?_take, show i < cutK w x by omega]
  have a2 : (x.f0.take (cutK w x)).getD (i + 1) 0 = x.f0.getD (i + 1) 0 := by simp [List.getD_eq_getElem?_getD, List.getElem?_take, show i + 1 < cutK w x by omega]
  rw [a1, a2]
 rw [e]
 exact List.take_sublist _ _
theorem wo_keys (H : OkS h.length s p) : (keysOf (woS w s) (woP w p)).Sublist (keysOf s p) := by
 unfold keysOf
 refine List.Sublist.append ?_ ?_
 ·obtain ⟨H1, _⟩ := H
  induction s with
  | nil => exact List.Sublist.refl _
  | cons a s ih =>
   have i2 := ih (fun x hx => H1 x (List.mem_cons_of_mem _ hx))
   have e : woS w (a :: s) = (if 0 < cutK w a then [cutS w a] else []) ++ woS w s := by unfold woS; rw [List.flatMap_cons]
   rw [e, List.flatMap_append, List.flatMap_cons, List.map_append, List.map_append]
   refine List.Sublist.append ?_ i2
   split
   ·rw [List.flatMap_singleton]; exact cut_steps (H1 a (List.mem_cons_self ..)).2
   ·exact List.nil_sublist _
 ·exact (List.filter_sublist).map _
theorem wo_len : (woS w s).length ≤ s.length := by
 induction s with
 | nil => exact Nat.le_refl _
 | cons a s ih =>
  have e : woS w (a :: s) = (if 0 < cutK w a then [cutS w a] else []) ++ woS w s := by unfold woS; rw [List.flatMap_cons]
  rw [e, List.length_append, List.length_cons]
  split
  ·simp; omega
  ·simp; omega
theorem wo_check (hc : checkT h s p b0 b1 = 0) : checkT h (woS w s) (woP w p) b0 b1 = 0 := by
 obtain ⟨⟨a1, a2, a3, a4⟩, _⟩ := check_iff.1 hc
 have N := neat_of hc
 have hsc : ∀ y ∈ woS w s, okScale y = true ∧ (∀ k ∈ y.f0, inK h.length k = true) ∧ y.f1.length + 1 = y.f0.length := by
  intro y hy
  obtain ⟨x, hx, hk, rfl⟩ := mem_woS.1 hy
  obtain ⟨_, _, n1, n2, n3⟩ := N.scale x hx
  have hle := cutK_le w x
  rw [List.all_eq_true] at a3
  have h3 := a3 x hx
  unfold okScale okLen at h3 ⊢
  simp only [Bool.and_eq_true, decide_eq_true_eq] at h3 ⊢
  obtain ⟨⟨⟨_, _⟩, h5⟩, h6⟩ := h3
  have l0 : (cutS w x).f0.length = cutK w x := by unfold cutS; rw [List.length_take]; omega
  have l1 : (cutS w x).f1.length = cutK w x - 1 := by unfold cutS; rw [List.length_take]; omega
  refine ⟨⟨⟨⟨by omega, by omega⟩, ?_⟩, ?_⟩, fun k hk' => n2 k (List.mem_of_mem_take hk'), by omega⟩
  ·have hnd := (noRep_nodup _ h5).sublist (List.take_sublist (cutK w x) x.f0)
   unfold noRep
   rw [List.all_eq_true]
   intro i hi
   have hi2 := List.mem_range.1 hi
   simp only [Bool.not_eq_true', List.contains_eq_mem, decide_eq_false_iff_not]
   intro hm
   rw [show (cutS w x).f0.getD i 0 = (cutS w x).f0[i] by simp [List.getD_eq_getElem?_getD, hi2]] at hm
   obtain ⟨j, hj, ej⟩ := List.getElem_of_mem hm
   rw [List.length_take] at hj
   rw [List.getElem_take] at ej
   exact List.pairwise_iff_getElem.1 (List.nodup_iff_pairwise_ne.1 hnd) j i (show j < (cutS w x).f0.length by omega) hi2 (by omega) ej
  ·rw [List.all_eq_true] at h6 ⊢
   exact fun y hy => h6 y (List.mem_of_mem_take hy)
 refine check_sub hc ?_ a2 ?_ rfl ⟨fun y hy => (hsc y hy).2, fun q hq => N.pair q (List.mem_filter.1 hq).1⟩ (wo_keys a4)
 ·have e1 := wo_len (w := w) (s := s)
  have e2 : (woP w p).length ≤ p.length := List.filter_sublist.length_le
  have n1 := N.few
  have n2 := N.scales
  have n3 := N.pairs
  unfold ok0
  simp only [Bool.and_eq_true, decide_eq_true_eq]
  exact ⟨by omega, by omega, by omega, by omega, N.beat⟩
 ·rw [List.all_eq_true]
  exact fun y hy => (hsc y hy).1
theorem wo_tuned (hc : checkT h s p b0 b1 = 0) {l : Nat → Int} (hl : TgL h s p (b0, b1) w l) : ∃ l', Tg h (woS w s) (woP w p) (b0, b1) l' := by
 have F := (fine_of hc).1
 have N := neat_of hc
 obtain ⟨g1, g2, g3⟩ := hl
 have hk : ∀ k : Int, inK h.length k = true → w.contains k = false → lfOf w k.toNat = false := fun k hk hw => by
  unfold inK at hk
  simp only [Bool.and_eq_true, decide_eq_true_eq] at hk
  cases e : lfOf w k.toNat with
  | false => rfl
  | true =>
   have := lfOf_mem.1 e
   rw [Int.toNat_of_nonneg hk.1] at this
   rw [List.contains_eq_mem, decide_eq_false_iff_not] at hw
   exact absurd this hw
 refine ⟨fun x => if lfOf w x = true then loH h x else l x, ?_⟩
 unfold Tg AllFit
 refine ⟨fun x hx => ?_, fun y hy m hm => ?_, fun q hq => ?_⟩
 ·have := F.span x hx
  dsimp only
  split
  ·omega
  ·rename_i e; exact g1 x hx (by simpa using e)
 ·obtain ⟨x, hx, hk0, rfl⟩ := mem_woS.1 hy
  obtain ⟨_, _, n1, n2, _⟩ := N.scale x hx
  have hle := cutK_le w x
  have hm2 : m < min (cutK w x - 1) x.f1.length := by unfold cutS at hm; rw [List.length_take] at hm; exact hm
  have e1 : (cutS w x).f0.getD m 0 = x.f0.getD m 0 := by unfold cutS; simp [List.getD_eq_getElem?_getD, List.getElem?_take, show m < cutK w x by omega]
  have e2 : (cutS w x).f0.getD (m + 1) 0 = x.f0.getD (m + 1) 0 := by unfold cutS; simp [List.getD_eq_getElem?_getD, List.getElem?_take, show m + 1 < cutK w x by omega]
  have e3 : (cutS w x).f1.getD m z26 = x.f1.getD m z26 := by unfold cutS; simp [List.getD_eq_getElem?_getD, List.getElem?_take, show m < cutK w x - 1 by omega]
  have i1 : inK h.length (x.f0.getD m 0) = true := by rw [show x.f0.getD m 0 = x.f0[m] by simp [List.getD_eq_getElem?_getD, show m < x.f0.length by omega]]; exact n2 _ (List.getElem_mem _)
  have i2 : inK h.length (x.f0.getD (m + 1) 0) = true := by rw [show x.f0.getD (m + 1) 0 = x.f0[m + 1] by simp [List.getD_eq_getElem?_getD, show m + 1 < x.f0.length by omega]]; exact n2 _ (List.getElem_mem _)
  have o1 := hk _ i1 (cutK_out (show m < cutK w x by omega))
  have o2 := hk _ i2 (cutK_out (show m + 1 < cutK w x by omega))
  have h4 := g2 x hx m (by omega) o1 o2
  intro _ _
  dsimp only
  rw [e1, e2, e3, o1, o2]
  exact h4
 ·obtain ⟨hq1, hq2⟩ := List.mem_filter.1 hq
  simp only [Bool.and_eq_true, Bool.not_eq_true'] at hq2
  obtain ⟨i1, i2⟩ := N.pair q hq1
  have o1 := hk _ i1 hq2.1
  have o2 := hk _ i2 hq2.2
  have h4 := g3 q hq1 o1 o2
  intro _ _
  dsimp only
  rw [o1, o2]
  exact h4
theorem small_neat (N : Neat h s p b0 b1) : small h s p = true := by
 have h1 := N.few
 have h2 := N.scales
 have h3 := N.pairs
 have key : ∀ s' : List S61, (∀ x ∈ s', x ∈ s) → many s' ≤ 8 * s'.length := by
  intro s'
  induction s' with
  | nil => intro _; exact Nat.le_refl _
  | cons a s' ih =>
   intro hs
   have := (N.scale a (hs a (List.mem_cons_self ..))).1
   have i2 := ih (fun x hx => hs x (List.mem_cons_of_mem _ hx))
   unfold many at i2 ⊢
   rw [List.map_cons, List.sum_cons, List.length_cons]
   omega
 have h4 := key s (fun _ h => h)
 unfold small
 simp only [Bool.and_eq_true, decide_eq_true_eq]
 omega
end
end Go.Proofs.YtgehkojccmkggaaDoor.K
end
section
namespace Go.Proofs.YtgehkojccmkggaaDoor.K
open Go.RowKit Go.Shelf Go.Proofs.YtgehkojccmkggaaDoorW.PrintWords Go.Proofs.YtgehkojccmkggaaDoorW.PrintLast Go.Proofs.YtgehkojccmkggaaDoorW.PrintMore Go.Proofs.YtgehkojccmkggaaDoor.H Tune
set_option linter.unusedVariables false
set_option linter.unusedSimpArgs false
attribute [local go_sem] Oper.semAt_some
theorem where_l (l : List Int) (n : Int) (hl : l.length ≤ 9000000) : ∀ (d i : Nat), i + d = l.length → ∃ r, saronref00_Where.l0 (d + 1) l n (i : Int) = some r ∧ decide (r < 0) = !(l.drop i).contains n := by
 intro d
 induction d with
 | zero =>
  intro i hi
  exact ⟨-1, by rw [saronref00_Where.l0, if_neg (by omega)], by rw [List.drop_of_length_le (by omega)]; rfl⟩
 | succ d ih =>
  intro i hi
  have hlt : i < l.length := by omega
  rw [saronref00_Where.l0, if_pos (by omega), if_pos (by omega), rd_at _ _ hlt, List.drop_eq_getElem_cons hlt, List.contains_cons]
  by_cases e : l[i] = n
  ·rw [if_pos e]
   refine ⟨_, rfl, ?_⟩
   rw [decide_eq_false (by omega), beq_iff_eq.2 e.symm]
   rfl
  ·rw [if_neg e, wsucc _ (by omega)]
   obtain ⟨r, h1, h2⟩ := ih (i + 1) (by omega)
   refine ⟨r, h1, ?_⟩
   rw [h2, beq_eq_false_iff_ne.2 (Ne.symm e), Bool.false_or]
theorem cWhere {w : World} {B : Option Addr} {d : Nat} {l : List Int} (hB : Kd.C (Kd.int .i64) w B l.length l) (hd : l.length ≤ d) (hl : l.length ≤ 9000000) (n : Int) {b : Bool} (hb : l.contains n = b) : Calls Tryd.prog 68 #[.slice B l.length d, .int .i64 n] w fun e w' => ∃ v : Int, e = .returned (.int .i64 v) ∧ decide (v < 0) = !b ∧ Below w.heap.size w w' := by
 obtain ⟨r, h1, h2⟩ := where_l l n hl l.length 0 (by omega)
 refine (saronref00_Where.calls (l.length + 1) B d l n r w hB hd h1).mono ?_
 rintro e w' ⟨rfl, hq⟩
 exact ⟨r, rfl, by rw [h2, List.drop_zero, hb], Drawn0.belowZ hq⟩
theorem grows_l {n : Nat} {l : List Int} (hi : Inc n l) (hl : l.length ≤ 9000000) : ∀ (d i : Nat) (last : Int), i + d = l.length → (∀ x ∈ l.drop i, last < x) → saronref00_Grows.l0 (d + 1) l (n : Int) last (i : Int) = some true := by
 intro d
 induction d with
 | zero => intro i last h1 _; rw [saronref00_Grows.l0, if_neg (by omega)]
 | succ d ih =>
  intro i last h1 h2
  have hlt : i < l.length := by omega
  have h3 := h2 l[i] (by rw [List.drop_eq_getElem_cons hlt]; exact List.mem_cons_self ..)
  have h4 := hi.2 _ (List.getElem_mem hlt)
  rw [saronref00_Grows.l0, if_pos (by omega), if_pos (by omega), rd_at _ _ hlt, if_neg (by omega), if_neg (by omega), wsucc _ (by omega)]
  refine ih (i + 1) _ (by omega) (fun x hx => ?_)
  obtain ⟨j, hj, rfl⟩ := List.getElem_of_mem hx
  rw [List.length_drop] at hj
  rw [List.getElem_drop]
  exact List.pairwise_iff_getElem.1 hi.1 i (i + 1 + j) hlt (by omega) (by omega)
theorem cGrows {w : World} {B : Option Addr} {d n : Nat} {l : List Int} (hB : Kd.C (Kd.int .i64) w B l.length l) (hd : l.length ≤ d) (hl : l.length ≤ 9000000) (hi : Inc n l) : Calls Tryd.prog 48 #[.slice B l.length d, .int .i64 (n : Int)] w fun e w' => e = .returned (.bool true) ∧ Below w.heap.size w w' :=
 (saronref00_Grows.calls (l.length + 1) B d l (n : Int) true w hB hd (grows_l hi hl l.length 0 (-1) (by omega) (fun x hx => by have := (hi.2 x (List.mem_of_mem_drop hx)).1; omega))).mono fun _ _ hh => ⟨hh.1, Drawn0.belowZ hh.2⟩
theorem C_of_own' {α : Type} {d : Kd α} {w : World} {base e n c : Nat} {A : Option Addr} {xs : List α} {inner : List Value} (h : w.ownsRow base e d.sz (.slice A n c) xs.length inner) (hr : Reps (d.K w) d.sz xs inner) : xs.length ≤ c ∧ Kd.C d w A xs.length xs := by
 obtain ⟨A', c', e1, h1, h2⟩ := C_of_own h hr
 injection e1 with e1 e2 e3
 subst e1 e3
 exact ⟨h1, h2⟩
def fl48 (l : List S48) : List Value := l.flatMap fun q => [.int .i64 q.f0, .int .i64 q.f1]
theorem reps48 (w : World) (l : List S48) : Reps (k48.K w) 2 l (fl48 l) := by
 have key : ∀ (l l0 : List S48), Reps (k48.K w) 2 l0 (fl48 l0) → Reps (k48.K w) 2 (l0 ++ l) (fl48 (l0 ++ l)) := by
  intro l
  induction l with
  | nil => intro l0 h; rw [List.append_nil]; exact h
  | cons q l ih =>
   intro l0 h
   have e : fl48 (l0 ++ [q]) = fl48 l0 ++ [.int .i64 q.f0, .int .i64 q.f1] := by unfold fl48; rw [List.flatMap_append, List.flatMap_singleton]
   have h2 := ih (l0 ++ [q]) (by rw [e]; exact h.snoc (k48_mk w q) rfl)
   rw [List.append_assoc] at h2
   exact h2
 exact key l [] (Reps.none _ _)
theorem take_snoc' {α : Type} {l : List α} {k : Nat} (h : k < l.length) : l.take (k + 1) = l.take k ++ [l[k]] := List.take_succ_eq_append_getElem h
theorem woP_in {w : List Int} {p : List S48} {k : Nat} (hk : k < p.length) (h0 : w.contains p[k].f0 = false) (h1 : w.contains p[k].f1 = false) : woP w (p.take (k + 1)) = woP w (p.take k) ++ [p[k]] := by
 rw [take_snoc' hk]
 unfold woP
 rw [List.filter_append, List.filter_cons, h0, h1]
 rfl
theorem woP_out {w : List Int} {p : List S48} {k : Nat} (hk : k < p.length) (h0 : w.contains p[k].f0 = true ∨ w.contains p[k].f1 = true) : woP w (p.take (k + 1)) = woP w (p.take k) := by
 rw [take_snoc' hk]
 unfold woP
 rw [List.filter_append, List.filter_cons]
 rcases h0 with h0 | h0
 ·rw [h0]; simp
 ·rw [h0]; simp
theorem woS_in {w : List Int} {s : List S61} {k : Nat} (hk : k < s.length) (h0 : 0 < cutK w s[k]) : woS w (s.take (k + 1)) = woS w (s.take k) ++ [cutS w s[k]] := by
 rw [take_snoc' hk]
 unfold woS
 rw [List.flatMap_append, List.flatMap_singleton, if_pos h0]
theorem woS_out {w : List Int} {s : List S61} {k : Nat} (hk : k < s.length) (h0 : cutK w s[k] = 0) : woS w (s.take (k + 1)) = woS w (s.take k) := by
 rw [take_snoc' hk]
 unfold woS
 rw [List.flatMap_append, List.flatMap_singleton, if_neg (by omega), List.append_nil]
theorem woP_le {w : List Int} {p : List S48} (k : Nat) (hp : p.length ≤ 4) : (woP w (p.take k)).length ≤ 4 := by
 have e1 : (woP w (p.take k)).length ≤ (p.take k).length := List.filter_sublist.length_le
 have e2 : (p.take k).length ≤ p.length := by rw [List.length_take]; exact Nat.min_le_right _ _
 omega
theorem woS_le {w : List Int} {s : List S61} (k : Nat) (hs : s.length ≤ 2) : (woS w (s.take k)).length ≤ 2 := by
 have e1 := wo_len (w := w) (s := s.take k)
 have e2 : (s.take k).length ≤ s.length := by rw [List.length_take]; exact Nat.min_le_right _ _
 omega
theorem reps_cut {w : World} {wl : List Int} {l l' : List S61} {inn : List Value} {x : S61} {j e0 e1 : Nat} {B0 B1 : Option Addr} (h : Reps (k61.K w) 2 l inn) (he : l' = l ++ [cutS wl x]) (hK : cutK wl x = j) (hj : j ≤ x.f0.length) (hx : x.f1.length + 1 = x.f0.length) (h0 : j ≤ e0) (h1 : j - 1 ≤ e1) (K0 : Kd.C (Kd.int .i64) w B0 x.f0.length x.f0) (K1 : Kd.C k26 w B1 x.f1.length x.f1) : Reps (k61.K w) 2 l' (inn ++ [.slice B0 j e0, .slice B1 (j - 1) e1]) := by
 rw [he]
 refine h.snoc ?_ rfl
 have l0 : (cutS wl x).f0.length = j := by unfold cutS; rw [List.length_take, hK]; omega
 have l1 : (cutS wl x).f1.length = j - 1 := by unfold cutS; rw [List.length_take, hK]; omega
 have c0 : Kd.C (Kd.int .i64) w B0 (cutS wl x).f0.length (cutS wl x).f0 := Kd.C_take K0 (by rw [hK]; exact hj)
 have c1 : Kd.C k26 w B1 (cutS wl x).f1.length (cutS wl x).f1 := Kd.C_take K1 (by rw [hK]; omega)
 have := k61_mk w (cutS wl x) (by rw [l0]; exact h0) c0 (by rw [l1]; exact h1) c1
 rw [l0, l1] at this
 exact this
theorem cutK_in {w : List Int} {x : S61} (h : cutK w x < x.f0.length) : w.contains (x.f0.getD (cutK w x) 0) = true := by
 rw [show x.f0.getD (cutK w x) 0 = x.f0[cutK w x] by simp [List.getD_eq_getElem?_getD, h]]
 have key : ∀ (l : List Int) (hl : (l.takeWhile fun y => !w.contains y).length < l.length), w.contains (l[(l.takeWhile fun y => !w.contains y).length]) = true := by
  intro l
  induction l with
  | nil => intro hl; exact absurd hl (Nat.not_lt_zero _)
  | cons a l ih =>
   intro hl
   by_cases ha : w.contains a = true
   ·simp only [List.takeWhile_cons, ha, Bool.not_true, Bool.false_eq_true, if_false, List.length_nil, List.getElem_cons_zero]
   ·have ha2 : w.contains a = false := by simpa using ha
    simp only [List.takeWhile_cons, ha2, Bool.not_false, if_true, List.length_cons, List.getElem_cons_succ] at hl ⊢
    exact ih (by omega)
 exact key x.f0 h
end Go.Proofs.YtgehkojccmkggaaDoor.K
end
section
namespace Go.Proofs.YtgehkojccmkggaaDoor.K
open Go.RowKit Go.Shelf Go.Proofs.YtgehkojccmkggaaDoorW.PrintWords Go.Proofs.YtgehkojccmkggaaDoorW.PrintLast Go.Proofs.YtgehkojccmkggaaDoorW.PrintMore Go.Proofs.YtgehkojccmkggaaDoor.H Tune
set_option linter.unusedVariables false
set_option linter.unusedSimpArgs false
attribute [local go_sem] Oper.semAt_some
attribute [local go_sem high] eqA26
attribute [local go_sem] max2_int min2_int max_two min_two
def r49.T7 : Bool × List (List Nat × List Nat) := (true, [([], []), ([0], [0]), ([], []), ([2], [2]), ([], []), ([3, 4], [3, 4]), ([5], [5]), ([6], [6]), ([1, 7], [1, 7]), ([0, 1, 2, 3, 4, 5, 6, 7, 8], []), ([9, 8, 8, 0, 1, 2, 3, 4, 5, 6, 7, 8], [8, 9])])
def r49.B7 : List Nat := [0, 1, 0, 4, 0, 28, 60, 124, 255, 511, 1023]
theorem r49.tab7 : rtab .any (opsOf Tryd.f49 7) = r49.T7 := by kernel_rfl
theorem r49.bits7 : waitsOk r49.T7.2 r49.B7 = true := by kernel_rfl
def r49.T16 : Bool × List (List Nat × List Nat) := (true, [([], []), ([0], [0]), ([], []), ([2], [2]), ([], []), ([3, 4], [3, 4]), ([], []), ([6], [6]), ([], []), ([8], [8]), ([7, 9], [7, 9]), ([5, 10], [5, 10]), ([11], [11]), ([1, 12], [1, 12]), ([0, 1, 2, 3, 4, 5, 6, 7, 8, 9, 10, 11, 12, 13], []), ([14, 13, 13, 0, 1, 2, 3, 4, 5, 6, 7, 8, 9, 10, 11, 12, 13], [13, 14])])
def r49.B16 : List Nat := [0, 1, 0, 4, 0, 28, 0, 64, 0, 256, 960, 2044, 4092, 8191, 16383, 32767]
theorem r49.tab16 : rtab .any (opsOf Tryd.f49 16) = r49.T16 := by kernel_rfl
theorem r49.bits16 : waitsOk r49.T16.2 r49.B16 = true := by kernel_rfl
section
variable {A0 : Option Addr} {c0 : Nat} {h : List S26} {A1 : Option Addr} {c1 : Nat} {s : List S61} {A2 : Option Addr} {c2 : Nat} {p : List S48} {w : World} {b0 b1 : Int} {B : Option Addr} {d : Nat} {wl : List Int} (H : Aside0 (At A0 c0 h A1 c1 s A2 c2 p w))
include H
set_option maxRecDepth 100000 in
set_option maxHeartbeats 4000000 in
theorem without_w (hB : Kd.C (Kd.int .i64) w B wl.length wl) (hd : wl.length ≤ d) (hwl : wl.length ≤ 9000000) (N : Neat h s p b0 b1) (HK : Aside0 (checkT h s p b0 b1 = 0)) : Calls Tryd.prog 49 #[.agg #[.slice A0 h.length c0, .slice A1 s.length c1, .slice A2 p.length c2, .int .i64 b0, .int .i64 b1], .slice B wl.length d] w fun e w' => ∃ v : (Option Addr × Nat) × Option Addr × Nat, e = .returned (.agg (sc A0 c0 h v.1.1 v.1.2 (woS wl s) v.2.1 v.2.2 (woP wl p) b0 b1)) ∧ At A0 c0 h v.1.1 v.1.2 (woS wl s) v.2.1 v.2.2 (woP wl p) w' ∧ Below w.heap.size w w' := by
 have HB := zh hB
 clear hB
 have HN := zh N
 have np4 := N.pairs
 have ns2 := N.scales
 clear N
 have ST := Sx.start w
 have HC : True := trivial
 go_enter Tryd.func49, Tryd.ntmps49
 go_wp2_with (first | ((with_reducible refine gate_dst (N := 2) rfl ?_); refine yA ST (N := 2) (cs := #[.slice A0 h.length c0, .slice A1 s.length c1, .slice A2 p.length c2, .int .i64 b0, .int .i64 b1]) (t := 28) ?_; clear ST HC; intro g2 v ST HC; simp only [Rd] at HC) | ((with_reducible refine gate_dst (N := 4) rfl ?_); refine yA ST (N := 4) (cs := #[.slice none 0 0, .slice none 0 0, .slice none 0 0, .int .i64 0, .int .i64 0]) (t := 28) ?_; clear ST HC; intro g4 v ST HC; simp only [Rd] at HC) | ((with_reducible refine gate_dst (N := 5) rfl ?_); refine yA ST (N := 5) (cs := #[.slice none 0 0, .slice none 0 0, .slice none 0 0, .int .i64 0, .int .i64 0]) (t := 28) ?_; clear ST HC; intro g5 v ST HC; simp only [Rd] at HC) | ((with_reducible refine gate_store (p := 5) (v := (.tmp 10)) rfl ?_); refine yS (L' := [⟨g5, #[.slice A0 h.length c0, .slice A1 s.length c1, .slice A2 p.length c2, .int .i64 b0, .int .i64 b1], 28, true⟩, ⟨g4, #[.slice none 0 0, .slice none 0 0, .slice none 0 0, .int .i64 0, .int .i64 0], 28, true⟩, ⟨g2, #[.slice A0 h.length c0, .slice A1 s.length c1, .slice A2 p.length c2, .int .i64 b0, .int .i64 b1], 28, true⟩]) ST (fun S => Sx.put (Sx.put (Sx.put (Sx.put (Sx.put S 0 (0) (.slice A0 h.length c0) rfl) 0 (1) (.slice A1 s.length c1) rfl) 0 (2) (.slice A2 p.length c2) rfl) 0 (3) (.int .i64 b0) rfl) 0 (4) (.int .i64 b1) rfl) ?_; clear ST HC; intro v ST HC; simp only [Rd] at HC) | ((with_reducible refine gate_store (p := 11) (v := (.const (.slice none 0 0))) rfl ?_); refine yS (L' := [⟨g5, #[.slice A0 h.length c0, .slice none 0 0, .slice A2 p.length c2, .int .i64 b0, .int .i64 b1], 28, true⟩, ⟨g4, #[.slice none 0 0, .slice none 0 0, .slice none 0 0, .int .i64 0, .int .i64 0], 28, true⟩, ⟨g2, #[.slice A0 h.length c0, .slice A1 s.length c1, .slice A2 p.length c2, .int .i64 b0, .int .i64 b1], 28, true⟩]) ST (fun S => Sx.put S 0 (1) (.slice none 0 0) rfl) ?_; clear ST HC; intro v ST HC; simp only [Rd] at HC) | ((with_reducible refine gate_store (p := 12) (v := (.const (.slice none 0 0))) rfl ?_); refine yS (L' := [⟨g5, #[.slice A0 h.length c0, .slice none 0 0, .slice none 0 0, .int .i64 b0, .int .i64 b1], 28, true⟩, ⟨g4, #[.slice none 0 0, .slice none 0 0, .slice none 0 0, .int .i64 0, .int .i64 0], 28, true⟩, ⟨g2, #[.slice A0 h.length c0, .slice A1 s.length c1, .slice A2 p.length c2, .int .i64 b0, .int .i64 b1], 28, true⟩]) ST (fun S => Sx.put S 0 (2) (.slice none 0 0) rfl) ?_; clear ST HC; intro v ST HC; simp only [Rd] at HC))
 replace ST := Sx.row ST 48 2
 go_loopw [6] (fun u wr => ∃ (k : Nat) (vP : Value), k ≤ p.length ∧ u = .int .i64 k ∧ Aside0 (Sx w wr [⟨g5, #[.slice A0 h.length c0, .slice none 0 0, vP, .int .i64 b0, .int .i64 b1], 28, true⟩, ⟨g4, #[.slice none 0 0, .slice none 0 0, .slice none 0 0, .int .i64 0, .int .i64 0], 28, true⟩, ⟨g2, #[.slice A0 h.length c0, .slice A1 s.length c1, .slice A2 p.length c2, .int .i64 b0, .int .i64 b1], 28, true⟩] [⟨48, 2, vP, (woP wl (p.take k)).length, fl48 (woP wl (p.take k))⟩] (fun _ => True))) (fun u _ => p.length - (intOf u).toNat)
 case atStart => exact ⟨0, _, Nat.zero_le _, rfl, ST⟩
 case round =>
  clear ST HC
  obtain ⟨k, vP, hk, rfl, ST⟩ := hrel
  have HC := Sx.rd ST
  simp only [Rd] at HC
  by_cases hlt : k < p.length
  ·have l1 : (k : Int) < (p.length : Int) := by omega
   have l0 : 0 ≤ (k : Int) := by omega
   obtain ⟨ak, rfl, _⟩ := H.out.pair hlt
   have HIN := @woP_in wl p k hlt
   have HOUT := @woP_out wl p k hlt
   obtain ⟨q, hqq⟩ : ∃ q, q = p[k] := ⟨_, rfl⟩
   have HP : Aside0 (∀ W, Below w.heap.size w W → W.cell? (ak.add (k * 2)) = some (.int .i64 q.f0) ∧ W.cell? ⟨(ak.add (k * 2)).block, (ak.add (k * 2)).off + 1, none⟩ = some (.int .i64 q.f1)) := ⟨fun W hW => by obtain ⟨ad', e, h9⟩ := (H.out.below hW).pair hlt; injection e with e; subst e; rw [hqq]; exact h9⟩
   rw [← hqq] at HIN HOUT
   clear hqq
   have HI := zh HIN
   have HO := zh HOUT
   clear HIN HOUT
   obtain ⟨u0, u1⟩ := HP.out _ ST.out.below
   cases hw0 : wl.contains q.f0 with
   | true =>
    have HW0 := zh hw0
    clear hw0
    go_wp2_with (first | ((with_reducible refine gate_dst (N := 27) rfl ?_); refine yX ST (N := some 27) (F := fun v_ : Int => .int .i64 v_) (cWhere (Kd.C_below HB.out ST.out.below) hd hwl q.f0 HW0.out) ?_ Tryd.func68; clear ST HC u0 u1; intro r27 v hr27 ST HC; simp only [Rd] at HC; obtain ⟨u0, u1⟩ := HP.out _ ST.out.below))
    go_roundw
    case rel => exact ⟨k + 1, _, by omega, by go_num, Sx.rowEq ST (by rw [HO.out (.inl HW0.out)])⟩
    case measure => simp [intOf]; omega
   | false =>
    have HW0 := zh hw0
    clear hw0
    cases hw1 : wl.contains q.f1 with
    | true =>
     have HW1 := zh hw1
     clear hw1
     go_wp2_with (first | ((with_reducible refine gate_dst (N := 27) rfl ?_); refine yX ST (N := some 27) (F := fun v_ : Int => .int .i64 v_) (cWhere (Kd.C_below HB.out ST.out.below) hd hwl q.f0 HW0.out) ?_ Tryd.func68; clear ST HC u0 u1; intro r27 v hr27 ST HC; simp only [Rd] at HC; obtain ⟨u0, u1⟩ := HP.out _ ST.out.below) | ((with_reducible refine gate_dst (N := 37) rfl ?_); refine gate_guard (by rfl) ?_; refine yX ST (N := some 37) (F := fun v_ : Int => .int .i64 v_) (cWhere (Kd.C_below HB.out ST.out.below) hd hwl q.f1 HW1.out) ?_ Tryd.func68; clear ST HC u0 u1; intro r37 v hr37 ST HC; simp only [Rd] at HC; obtain ⟨u0, u1⟩ := HP.out _ ST.out.below))
     go_roundw
     case rel => exact ⟨k + 1, _, by omega, by go_num, Sx.rowEq ST (by rw [HO.out (.inr HW1.out)])⟩
     case measure => simp [intOf]; omega
    | false =>
     have HW1 := zh hw1
     clear hw1
     go_upto_region 7 with (first | ((with_reducible refine gate_dst (N := 27) rfl ?_); refine yX ST (N := some 27) (F := fun v_ : Int => .int .i64 v_) (cWhere (Kd.C_below HB.out ST.out.below) hd hwl q.f0 HW0.out) ?_ Tryd.func68; clear ST HC u0 u1; intro r27 v hr27 ST HC; simp only [Rd] at HC; obtain ⟨u0, u1⟩ := HP.out _ ST.out.below) | ((with_reducible refine gate_dst (N := 37) rfl ?_); refine gate_guard (by rfl) ?_; refine yX ST (N := some 37) (F := fun v_ : Int => .int .i64 v_) (cWhere (Kd.C_below HB.out ST.out.below) hd hwl q.f1 HW1.out) ?_ Tryd.func68; clear ST HC u0 u1; intro r37 v hr37 ST HC; simp only [Rd] at HC; obtain ⟨u0, u1⟩ := HP.out _ ST.out.below))
     have hpn : (woP wl (p.take k)).length ≤ 4 := woP_le _ np4
     refine yI (E := fun w_ => w_.cell? (ak.add (k * 2)) = some (.int .i64 q.f0) ∧ w_.cell? ⟨(ak.add (k * 2)).block, (ak.add (k * 2)).off + 1, none⟩ = some (.int .i64 q.f1)) (n := 11) (ds := [8, 10]) ST (fun W hW => HP.out W hW) r49.tab7 r49.bits7 ?_
     clear ST HC u0 u1
     intro v ST HC HT_ HW_ HE_
     simp only [Rd] at HC
     refine zu 0 ?_
     refine zu 2 ?_
     refine zu 4 ?_
     refine yL 1 ST ?_
     refine yL 3 ST ?_
     refine zu 5 ?_
     refine yL 6 ST ?_
     refine yV 7 ST (cs := #[.int .i64 q.f0, .int .i64 q.f1]) (t := 48) (F := fun g_ => .slice (some ⟨g_, 0, none⟩) 1 1) ?_
     clear ST HC
     intro gl v ST HC
     simp only [Rd] at HC
     refine zr 47 _ ?_
     refine yQ 8 ST (t := 24) (lit_cells ST) ?_ Tryd.underlying24 info48 rfl (by intro u hu; simp at hu; rcases hu with rfl | rfl <;> rfl) (by decide) (by show ((woP wl (p.take k)).length + 1) * 16 ≤ _; omega) (by decide)
     clear ST HC
     intro ga ca v ST HC
     simp only [Rd] at HC
     refine zr 48 _ ?_
     refine zu 9 ?_
     refine yT 10 (L' := [⟨gl, #[.int .i64 q.f0, .int .i64 q.f1], 48, true⟩, ⟨g5, #[.slice A0 h.length c0, .slice none 0 0, .slice (some ⟨ga, 0, none⟩) ((woP wl (p.take k)).length + 1) ca, .int .i64 b0, .int .i64 b1], 28, true⟩, ⟨g4, #[.slice none 0 0, .slice none 0 0, .slice none 0 0, .int .i64 0, .int .i64 0], 28, true⟩, ⟨g2, #[.slice A0 h.length c0, .slice A1 s.length c1, .slice (some ak) p.length c2, .int .i64 b0, .int .i64 b1], 28, true⟩]) ST (fun S => Sx.put S 1 (2) (.slice (some ⟨ga, 0, none⟩) ((woP wl (p.take k)).length + 1) ca) rfl) ?_
     clear ST HC
     intro v ST HC
     simp only [Rd] at HC
     refine zd ?_
     clear HT_ HW_ HE_
     go_wp2_with (fail)
     have HL2 : woP wl (p.take (k + 1)) = woP wl (p.take k) ++ [q] := HI.out HW0.out HW1.out
     have HR2 := zh HL2
     clear HL2
     go_roundw
     case rel => exact ⟨k + 1, _, by omega, by go_num, Sx.rowEq (Sx.tail ST) (by rw [HR2.out, List.length_append]; unfold fl48; rw [List.flatMap_append, List.flatMap_singleton]; rfl)⟩
     case measure => simp [intOf]; omega
  ·obtain rfl : k = p.length := by omega
   go_wp2_with (fail)
   rw [List.take_length] at ST
   replace ST := Sx.row ST 61 2
   have HR0 : Aside0 (Reps (k61.K w) 2 (woS wl (s.take 0)) []) := ⟨Reps.none _ _⟩
   go_loopw [7] (fun u wr => ∃ (i : Nat) (vS : Value) (inn : List Value), i ≤ s.length ∧ u = .int .i64 i ∧ Aside0 (Reps (k61.K w) 2 (woS wl (s.take i)) inn) ∧ Aside0 (Sx w wr [⟨g5, #[.slice A0 h.length c0, vS, vP, .int .i64 b0, .int .i64 b1], 28, true⟩, ⟨g4, #[.slice none 0 0, .slice none 0 0, .slice none 0 0, .int .i64 0, .int .i64 0], 28, true⟩, ⟨g2, #[.slice A0 h.length c0, .slice A1 s.length c1, .slice A2 p.length c2, .int .i64 b0, .int .i64 b1], 28, true⟩] [⟨61, 2, vS, (woS wl (s.take i)).length, inn⟩, ⟨48, 2, vP, (woP wl p).length, fl48 (woP wl p)⟩] (fun _ => True))) (fun u _ => s.length - (intOf u).toNat)
   case atStart => exact ⟨0, _, _, Nat.zero_le _, rfl, HR0, ST⟩
   case round =>
    clear ST HC HR0
    obtain ⟨i, vS, inn, hi, rfl, HRI, ST⟩ := hrel
    have HC := Sx.rd ST
    simp only [Rd] at HC
    by_cases hlt2 : i < s.length
    ·have m1 : (i : Int) < (s.length : Int) := by omega
     have m0 : 0 ≤ (i : Int) := by omega
     obtain ⟨asc, B0, e0, B1, e1, rfl, y0, y1, n0, K0, n1, K1⟩ := H.out.scale hlt2
     have hxn := (HN.out.scale _ (List.getElem_mem hlt2)).2.2.1
     have hx8 : (s[i]).f0.length ≤ 8 := by have h1 := (HN.out.scale _ (List.getElem_mem hlt2)).1; have h2 := HN.out.few.2; omega
     have HIN := zh (@woS_in wl s i hlt2)
     have HOUT := zh (@woS_out wl s i hlt2)
     obtain ⟨x, hx⟩ : ∃ x, x = s[i] := ⟨_, rfl⟩
     rw [← hx] at y0 y1 n0 n1 K0 K1 hxn hx8 HIN HOUT
     clear hx
     have HK0 := zh K0
     have HK1 := zh K1
     have HXN := zh hxn
     clear K0 K1 hxn
     replace y0 := ST.out.below.cell (World.block_lt_of_cell? w _ y0) |>.trans y0
     replace y1 := ST.out.below.cell (World.block_lt_of_cell? w _ y1) |>.trans y1
     go_wp2_with (first | ((with_reducible refine gate_dst (N := 8) rfl ?_); refine yA ST (N := 8) (cs := #[.slice none 0 0, .slice none 0 0]) (t := 61) ?_; clear ST HC; intro g8 v ST HC; simp only [Rd] at HC) | ((with_reducible refine gate_store (p := 8) (v := (.tmp 61)) rfl ?_); refine yS (L' := [⟨g8, #[.slice B0 x.f0.length e0, .slice B1 x.f1.length e1], 61, true⟩, ⟨g5, #[.slice A0 h.length c0, vS, vP, .int .i64 b0, .int .i64 b1], 28, true⟩, ⟨g4, #[.slice none 0 0, .slice none 0 0, .slice none 0 0, .int .i64 0, .int .i64 0], 28, true⟩, ⟨g2, #[.slice A0 h.length c0, .slice (some asc) s.length c1, .slice A2 p.length c2, .int .i64 b0, .int .i64 b1], 28, true⟩]) ST (fun S => Sx.put (Sx.put S 0 (0) (.slice B0 x.f0.length e0) rfl) 0 (1) (.slice B1 x.f1.length e1) rfl) ?_; clear ST HC; intro v ST HC; simp only [Rd] at HC))
     clear y0 y1
     obtain ⟨K, hK⟩ : ∃ K, cutK wl x = K := ⟨_, rfl⟩
     have hKl : K ≤ x.f0.length := by rw [← hK]; exact cutK_le wl x
     have HKK := zh hK
     clear hK
     go_loopw [9] (fun u wr => ∃ j : Nat, j ≤ K ∧ u = .int .i64 j ∧ Aside0 (Sx w wr [⟨g8, #[.slice B0 x.f0.length e0, .slice B1 x.f1.length e1], 61, true⟩, ⟨g5, #[.slice A0 h.length c0, vS, vP, .int .i64 b0, .int .i64 b1], 28, true⟩, ⟨g4, #[.slice none 0 0, .slice none 0 0, .slice none 0 0, .int .i64 0, .int .i64 0], 28, true⟩, ⟨g2, #[.slice A0 h.length c0, .slice (some asc) s.length c1, .slice A2 p.length c2, .int .i64 b0, .int .i64 b1], 28, true⟩] [⟨61, 2, vS, (woS wl (s.take i)).length, inn⟩, ⟨48, 2, vP, (woP wl p).length, fl48 (woP wl p)⟩] (fun _ => True))) (fun u _ => K + 1 - (intOf u).toNat)
     case atStart => exact ⟨0, Nat.zero_le _, rfl, ST⟩
     case round =>
      clear ST HC
      obtain ⟨j, hj, rfl, ST⟩ := hrel
      have HC := Sx.rd ST
      simp only [Rd] at HC
      have q0 : 0 ≤ (j : Int) := by omega
      by_cases hjK : j < K
      ·have q1 : (j : Int) < (x.f0.length : Int) := by omega
       obtain ⟨ak0, rfl, xk⟩ := int_at (Kd.C_below HK0.out ST.out.below) (show j < x.f0.length by omega)
       obtain ⟨key, hkey⟩ : ∃ key, key = x.f0[j]'(by omega) := ⟨_, rfl⟩
       rw [← hkey] at xk
       have HW : Aside0 (wl.contains key = false) := ⟨by have h9 := cutK_out (w := wl) (x := x) (m := j) (by rw [HKK.out]; exact hjK); rw [show x.f0.getD j 0 = key by rw [hkey]; simp [List.getD_eq_getElem?_getD, show j < x.f0.length by omega]] at h9; exact h9⟩
       clear hkey
       go_wp2_with (first | ((with_reducible refine gate_dst (N := 74) rfl ?_); refine gate_guard (by rfl) ?_; refine yX ST (N := some 74) (F := fun v_ : Int => .int .i64 v_) (cWhere (Kd.C_below HB.out ST.out.below) hd hwl key HW.out) ?_ Tryd.func68; clear ST HC xk; intro r74 v hr74 ST HC; simp only [Rd] at HC))
       go_roundw
       case rel => exact ⟨j + 1, by omega, by go_num, ST⟩
       case measure => simp [intOf]; omega
      ·obtain rfl : j = K := by omega
       by_cases hjl : j = x.f0.length
       ·have q1 : decide ((j : Int) < (x.f0.length : Int)) = false := decide_eq_false (by omega)
        have q2 : decide (j < x.f0.length) = false := decide_eq_false (by omega)
        have q3 : ¬ j < x.f0.length := by omega
        clear hjl
        by_cases hj0 : 0 < j
        ·have w0 : ¬ j = 0 := by omega
         have w1 : wrap64 ((j : Int) - 1) = (j : Int) - 1 := w64 (by omega) (by omega)
         have w2 : 0 ≤ (j : Int) - 1 := by omega
         have w3 : ((j : Int) - 1).toNat = j - 1 := by omega
         have w4 : j ≤ e0 := by omega
         have w5 : j - 1 ≤ e1 := by have := HXN.out; omega
         have w6 : (j : Int) ≤ (e0 : Int) := by omega
         have w7 : (j : Int) - 1 ≤ (e1 : Int) := by omega
         have w8 : (j : Int) ≤ 8 := by omega
         have w9 : 1 ≤ (j : Int) := by omega
         go_upto_region 16 with (fail)
         have hpn : (woS wl (s.take i)).length ≤ 2 := woS_le _ ns2
         refine yI (E := fun _ => True) (n := 16) (ds := [13, 15]) ST (fun _ _ => trivial) r49.tab16 r49.bits16 ?_
         clear ST HC
         intro v ST HC HT_ HW_ HE_
         simp only [Rd] at HC
         refine zu 0 ?_
         refine zu 2 ?_
         refine zu 4 ?_
         refine zu 6 ?_
         refine zu 8 ?_
         refine zu 9 ?_
         refine yL 1 ST ?_
         refine yL 3 ST ?_
         refine zu 5 ?_
         refine yL 7 ST ?_
         refine zu 10 ?_
         refine zu 11 ?_
         refine yV 12 ST (cs := #[.slice B0 j e0, .slice B1 (j - 1) e1]) (t := 61) (F := fun g_ => .slice (some ⟨g_, 0, none⟩) 1 1) ?_
         clear ST HC
         intro gl v ST HC
         simp only [Rd] at HC
         refine zr 93 _ ?_
         refine yQ 13 ST (t := 23) (lit_cells ST) ?_ Tryd.underlying23 info61 rfl (by intro u hu; simp at hu; rcases hu with rfl | rfl <;> rfl) (by decide) (by show ((woS wl (s.take i)).length + 1) * 48 ≤ _; omega) (by decide)
         clear ST HC
         intro ga ca v ST HC
         simp only [Rd] at HC
         refine zr 94 _ ?_
         refine zu 14 ?_
         refine yT 15 (L' := [⟨gl, #[.slice B0 j e0, .slice B1 (j - 1) e1], 61, true⟩, ⟨g8, #[.slice B0 x.f0.length e0, .slice B1 x.f1.length e1], 61, true⟩, ⟨g5, #[.slice A0 h.length c0, .slice (some ⟨ga, 0, none⟩) ((woS wl (s.take i)).length + 1) ca, vP, .int .i64 b0, .int .i64 b1], 28, true⟩, ⟨g4, #[.slice none 0 0, .slice none 0 0, .slice none 0 0, .int .i64 0, .int .i64 0], 28, true⟩, ⟨g2, #[.slice A0 h.length c0, .slice (some asc) s.length c1, .slice A2 p.length c2, .int .i64 b0, .int .i64 b1], 28, true⟩]) ST (fun S => Sx.put S 2 (1) (.slice (some ⟨ga, 0, none⟩) ((woS wl (s.take i)).length + 1) ca) rfl) ?_
         clear ST HC
         intro v ST HC
         simp only [Rd] at HC
         refine zd ?_
         clear HT_ HW_ HE_ w1 w2 w3
         go_wp2_with (fail)
         have HE2 : Aside0 (woS wl (s.take (i + 1)) = woS wl (s.take i) ++ [cutS wl x]) := ⟨HIN.out (by rw [HKK.out]; exact hj0)⟩
         have HRN := zh (reps_cut HRI.out HE2.out HKK.out (show j ≤ x.f0.length by omega) HXN.out w4 w5 HK0.out HK1.out)
         go_roundw
         case rel => exact ⟨i + 1, _, _, by omega, by go_num, HRN, Sx.rowEq (Sx.tail (Sx.tail ST)) (by rw [HE2.out, List.length_append]; rfl)⟩
         case measure => simp [intOf]; omega
        ·have hj9 : ¬ (0 < (j : Int)) := by omega
         go_wp2_with (fail)
         have HE2 : Aside0 (woS wl (s.take (i + 1)) = woS wl (s.take i)) := ⟨HOUT.out (by rw [HKK.out]; omega)⟩
         go_roundw
         case rel => exact ⟨i + 1, _, _, by omega, by go_num, ⟨by rw [HE2.out]; exact HRI.out⟩, Sx.rowEq (Sx.tail ST) (by rw [HE2.out])⟩
         case measure => simp [intOf]; omega
       ·have q1 : (j : Int) < (x.f0.length : Int) := by omega
        have hj2 : j < x.f0.length := by omega
        obtain ⟨ak0, rfl, xk⟩ := int_at (Kd.C_below HK0.out ST.out.below) hj2
        obtain ⟨key, hkey⟩ : ∃ key, key = x.f0[j] := ⟨_, rfl⟩
        rw [← hkey] at xk
        have HW : Aside0 (wl.contains key = true) := ⟨by have h9 := cutK_in (w := wl) (x := x) (by rw [HKK.out]; exact hj2); rw [HKK.out, show x.f0.getD j 0 = key by rw [hkey]; simp [List.getD_eq_getElem?_getD, hj2]] at h9; exact h9⟩
        clear hkey
        by_cases hj0 : 0 < j
        ·have w0 : ¬ j = 0 := by omega
         have w1 : wrap64 ((j : Int) - 1) = (j : Int) - 1 := w64 (by omega) (by omega)
         have w2 : 0 ≤ (j : Int) - 1 := by omega
         have w3 : ((j : Int) - 1).toNat = j - 1 := by omega
         have w4 : j ≤ e0 := by omega
         have w5 : j - 1 ≤ e1 := by have := HXN.out; omega
         have w6 : (j : Int) ≤ (e0 : Int) := by omega
         have w7 : (j : Int) - 1 ≤ (e1 : Int) := by omega
         have w8 : (j : Int) ≤ 8 := by omega
         have w9 : 1 ≤ (j : Int) := by omega
         go_upto_region 16 with (first | ((with_reducible refine gate_dst (N := 74) rfl ?_); refine gate_guard (by rfl) ?_; refine yX ST (N := some 74) (F := fun v_ : Int => .int .i64 v_) (cWhere (Kd.C_below HB.out ST.out.below) hd hwl key HW.out) ?_ Tryd.func68; clear ST HC xk; intro r74 v hr74 ST HC; simp only [Rd] at HC))
         have hpn : (woS wl (s.take i)).length ≤ 2 := woS_le _ ns2
         refine yI (E := fun _ => True) (n := 16) (ds := [13, 15]) ST (fun _ _ => trivial) r49.tab16 r49.bits16 ?_
         clear ST HC
         intro v ST HC HT_ HW_ HE_
         simp only [Rd] at HC
         refine zu 0 ?_
         refine zu 2 ?_
         refine zu 4 ?_
         refine zu 6 ?_
         refine zu 8 ?_
         refine zu 9 ?_
         refine yL 1 ST ?_
         refine yL 3 ST ?_
         refine zu 5 ?_
         refine yL 7 ST ?_
         refine zu 10 ?_
         refine zu 11 ?_
         refine yV 12 ST (cs := #[.slice (some ak0) j e0, .slice B1 (j - 1) e1]) (t := 61) (F := fun g_ => .slice (some ⟨g_, 0, none⟩) 1 1) ?_
         clear ST HC
         intro gl v ST HC
         simp only [Rd] at HC
         refine zr 93 _ ?_
         refine yQ 13 ST (t := 23) (lit_cells ST) ?_ Tryd.underlying23 info61 rfl (by intro u hu; simp at hu; rcases hu with rfl | rfl <;> rfl) (by decide) (by show ((woS wl (s.take i)).length + 1) * 48 ≤ _; omega) (by decide)
         clear ST HC
         intro ga ca v ST HC
         simp only [Rd] at HC
         refine zr 94 _ ?_
         refine zu 14 ?_
         refine yT 15 (L' := [⟨gl, #[.slice (some ak0) j e0, .slice B1 (j - 1) e1], 61, true⟩, ⟨g8, #[.slice (some ak0) x.f0.length e0, .slice B1 x.f1.length e1], 61, true⟩, ⟨g5, #[.slice A0 h.length c0, .slice (some ⟨ga, 0, none⟩) ((woS wl (s.take i)).length + 1) ca, vP, .int .i64 b0, .int .i64 b1], 28, true⟩, ⟨g4, #[.slice none 0 0, .slice none 0 0, .slice none 0 0, .int .i64 0, .int .i64 0], 28, true⟩, ⟨g2, #[.slice A0 h.length c0, .slice (some asc) s.length c1, .slice A2 p.length c2, .int .i64 b0, .int .i64 b1], 28, true⟩]) ST (fun S => Sx.put S 2 (1) (.slice (some ⟨ga, 0, none⟩) ((woS wl (s.take i)).length + 1) ca) rfl) ?_
         clear ST HC
         intro v ST HC
         simp only [Rd] at HC
         refine zd ?_
         clear HT_ HW_ HE_ w1 w2 w3
         go_wp2_with (fail)
         have HE2 : Aside0 (woS wl (s.take (i + 1)) = woS wl (s.take i) ++ [cutS wl x]) := ⟨HIN.out (by rw [HKK.out]; exact hj0)⟩
         have HRN := zh (reps_cut HRI.out HE2.out HKK.out (show j ≤ x.f0.length by omega) HXN.out w4 w5 HK0.out HK1.out)
         go_roundw
         case rel => exact ⟨i + 1, _, _, by omega, by go_num, HRN, Sx.rowEq (Sx.tail (Sx.tail ST)) (by rw [HE2.out, List.length_append]; rfl)⟩
         case measure => simp [intOf]; omega
        ·have hj9 : ¬ (0 < (j : Int)) := by omega
         go_wp2_with (first | ((with_reducible refine gate_dst (N := 74) rfl ?_); refine gate_guard (by rfl) ?_; refine yX ST (N := some 74) (F := fun v_ : Int => .int .i64 v_) (cWhere (Kd.C_below HB.out ST.out.below) hd hwl key HW.out) ?_ Tryd.func68; clear ST HC xk; intro r74 v hr74 ST HC; simp only [Rd] at HC))
         have HE2 : Aside0 (woS wl (s.take (i + 1)) = woS wl (s.take i)) := ⟨HOUT.out (by rw [HKK.out]; omega)⟩
         go_roundw
         case rel => exact ⟨i + 1, _, _, by omega, by go_num, ⟨by rw [HE2.out]; exact HRI.out⟩, Sx.rowEq (Sx.tail ST) (by rw [HE2.out])⟩
         case measure => simp [intOf]; omega
    ·obtain rfl : i = s.length := by omega
     go_upto_region 17 with (fail)
     rw [List.take_length] at HRI ST
     clear hi hlt2 hlt hk
     obtain ⟨A1', c1', hvS, _, _⟩ := C_of_own (d := k61) (xs := woS wl s) (ST.out.rows _ (List.mem_cons_self ..)) (HRI.out.imp_ (fun _ _ hh => k61.K_below ST.out.below hh))
     obtain ⟨A2', c2', hvP, _, _⟩ := C_of_own (d := k48) (xs := woP wl p) (ST.out.rows _ (List.mem_cons_of_mem _ (List.mem_cons_self ..))) (reps48 _ _)
     subst hvS hvP
     go_wp2_with (first | ((with_reducible refine gate_store (p := 4) (v := (.tmp 96)) rfl ?_); refine yS (L' := [⟨g5, #[.slice A0 h.length c0, .slice A1' (woS wl s).length c1', .slice A2' (woP wl p).length c2', .int .i64 b0, .int .i64 b1], 28, true⟩, ⟨g4, #[.slice A0 h.length c0, .slice A1' (woS wl s).length c1', .slice A2' (woP wl p).length c2', .int .i64 b0, .int .i64 b1], 28, true⟩, ⟨g2, #[.slice A0 h.length c0, .slice A1 s.length c1, .slice A2 p.length c2, .int .i64 b0, .int .i64 b1], 28, true⟩]) ST (fun S => Sx.put (Sx.put (Sx.put (Sx.put (Sx.put S 1 (0) (.slice A0 h.length c0) rfl) 1 (1) (.slice A1' (woS wl s).length c1') rfl) 1 (2) (.slice A2' (woP wl p).length c2') rfl) 1 (3) (.int .i64 b0) rfl) 1 (4) (.int .i64 b1) rfl) ?_; clear ST HC; intro v ST HC; simp only [Rd] at HC))
     have XX := (H.out.below ST.out.below)
     obtain ⟨hc1, hC1⟩ := C_of_own' (d := k61) (xs := woS wl s) (ST.out.rows _ (List.mem_cons_self ..)) (HRI.out.imp_ (fun _ _ hh => k61.K_below ST.out.below hh))
     obtain ⟨hc2, hC2⟩ := C_of_own' (d := k48) (xs := woP wl p) (ST.out.rows _ (List.mem_cons_of_mem _ (List.mem_cons_self ..))) (reps48 _ _)
     exact bodyPost_ret (v := .agg #[.slice A0 h.length c0, .slice A1' (woS wl s).length c1', .slice A2' (woP wl p).length c2', .int .i64 b0, .int .i64 b1]) (by simp [results, Tryd.results49, go_sem, HC]) rfl ⟨((A1', c1'), (A2', c2')), rfl, ⟨small_neat (neat_of (wo_check HK.out)), XX.gl, XX.d0, XX.n0, hC1, hc1, hC2, hc2⟩, ST.out.below⟩
end
end Go.Proofs.YtgehkojccmkggaaDoor.K
end
section
namespace Go.Proofs.YtgehkojccmkggaaDoor.K
open Go.RowKit Go.Shelf Go.Proofs.YtgehkojccmkggaaDoorW.PrintWords Go.Proofs.YtgehkojccmkggaaDoorW.PrintLast Go.Proofs.YtgehkojccmkggaaDoorW.PrintMore Go.Proofs.YtgehkojccmkggaaDoor.H Tune
set_option linter.unusedVariables false
set_option linter.unusedSimpArgs false
attribute [local go_sem] Oper.semAt_some
attribute [local go_sem high] eqA26
attribute [local go_sem] max2_int min2_int max_two min_two
def r14.T13 : Bool × List (List Nat × List Nat) := (true, [([], []), ([], []), ([], []), ([2], [2]), ([3], [3]), ([1, 4], [1, 4]), ([0, 5, 5], [0, 5]), ([6, 6, 0, 1, 2, 3, 4, 5, 6], [6])])
def r14.B13 : List Nat := [0, 0, 0, 4, 12, 30, 63, 127]
theorem r14.tab13 : rtab .any (opsOf Tryd.f14 13) = r14.T13 := by kernel_rfl
theorem r14.bits13 : waitsOk r14.T13.2 r14.B13 = true := by kernel_rfl
section
variable {A0 : Option Addr} {c0 : Nat} {h : List S26} {A1 : Option Addr} {c1 : Nat} {s : List S61} {A2 : Option Addr} {c2 : Nat} {p : List S48} {w : World} {b0 b1 : Int} {n : Int} (H : Aside0 (At A0 c0 h A1 c1 s A2 c2 p w))
include H
set_option maxRecDepth 100000 in
set_option maxHeartbeats 4000000 in
theorem left_A (HS : decide (checkT h s p b0 b1 = 0) = false) (HW : Aside0 (tune_Wrong.f h s p b0 b1 = some ([], 10))) :
  Calls Tryd.prog 14 #[.agg #[.slice A0 h.length c0, .slice A1 s.length c1, .slice A2 p.length c2, .int .i64 b0, .int .i64 b1], .int .i64 n] w fun e w' => e = .returned (.bool true) ∧ Below w.heap.size w w' := by
 have ST := Sx.start w
 have HC : True := trivial
 go_enter Tryd.func14, Tryd.ntmps14
 go_wp2_with (first | ((with_reducible refine gate_dst (N := 2) rfl ?_); refine yA ST (N := 2) (cs := #[.slice A0 h.length c0, .slice A1 s.length c1, .slice A2 p.length c2, .int .i64 b0, .int .i64 b1]) (t := 28) ?_; clear ST HC; intro g2 w ST HC; simp only [Rd] at HC) | ((with_reducible refine gate_dst (N := 18) rfl ?_); refine yX ST (N := some 18) (F := fun v : Option Addr × Nat => .tuple #[.slice v.1 ([] : List Int).length v.2, .int .i64 10]) (cWrong (b0 := b0) (b1 := b1) (H.out.below ST.out.below) HW.out) ?_ Tryd.func33; clear ST HC; intro ⟨AW18, cW18⟩ w _ ST HC; simp only [Rd] at HC) | ((with_reducible refine gate_dst (N := 22) rfl ?_); refine yC ST (N := some 22) (cSound H HS _ ST.out.below) ?_ Tryd.func36; clear ST HC; intro w ST HC; simp only [Rd] at HC) | ((with_reducible refine gate_dst (N := 32) rfl ?_); refine gate_guard (by rfl) ?_; refine yC ST (N := some 32) (cPlayed H _ ST.out.below) ?_ Tryd.func22; clear ST HC; intro w ST HC; simp only [Rd] at HC))
 go_ret
 exact ⟨rfl, ST.out.below⟩
set_option maxRecDepth 100000 in
set_option maxHeartbeats 4000000 in
theorem left_B (HS : decide (checkT h s p b0 b1 = 0) = true) {k : Nat} (hk : k < h.length) (hn : 0 < h.length ∧ h.length ≤ 8) (HN : Aside0 (Neat h s p b0 b1)) (HK : Aside0 (checkT h s p b0 b1 = 0)) {wl ml r r2 : List Int} {F : Int} {qb : Bool} {h3 : List S26} (h9 : wl.length ≤ 9000000) (HI : Aside0 (Inc h.length wl)) (HW : Aside0 (tune_Wrong.f h s p b0 b1 = some (wl, 0))) (HT : Aside0 (tune_Tuning.f h s p b0 b1 = some (r, F))) (hq1 : ((wl.length : Int) == 0) = qb) (hq2 : (F == 0) = qb) (HT2 : Aside0 (tune_Tuning.f h (woS wl s) (woP wl p) b0 b1 = some (r2, 0))) (HW0 : Aside0 (tune_Wrong.f h [] [] b0 b1 = some ([], 0))) (HA : Aside0 (saronref00_Turn.f n (h.length : Int) = some (k : Int))) (HS3 : Aside0 (h.set k ⟨4000, 4000⟩ = h3)) (HW3 : Aside0 (tune_Wrong.f h3 s p b0 b1 = some (ml, 0))) (hm : ml.length ≤ wl.length + 1) (hm2 : (ml.length : Int) ≤ (wl.length : Int) + 1) (hm3 : wrap64 ((wl.length : Int) + 1) = (wl.length : Int) + 1) :
  Calls Tryd.prog 14 #[.agg #[.slice A0 h.length c0, .slice A1 s.length c1, .slice A2 p.length c2, .int .i64 b0, .int .i64 b1], .int .i64 n] w fun e w' => e = .returned (.bool true) ∧ Below w.heap.size w w' := by
 have ST := Sx.start w
 have HC : True := trivial
 go_enter Tryd.func14, Tryd.ntmps14
 go_upto_region 13 with (first | ((with_reducible refine gate_dst (N := 2) rfl ?_); refine yA ST (N := 2) (cs := #[.slice A0 h.length c0, .slice A1 s.length c1, .slice A2 p.length c2, .int .i64 b0, .int .i64 b1]) (t := 28) ?_; clear ST HC; intro g2 w ST HC; simp only [Rd] at HC) | ((with_reducible refine gate_dst (N := 18) rfl ?_); refine yX ST (N := some 18) (F := fun v : Option Addr × Nat => .tuple #[.slice v.1 wl.length v.2, .int .i64 0]) (cWrong (b0 := b0) (b1 := b1) (H.out.below ST.out.below) HW.out) ?_ Tryd.func33; clear ST HC; intro ⟨AW18, cW18⟩ w ⟨hvc, hvC⟩ ST HC; simp only [Rd] at HC; have HL := zh hvC; clear hvC; replace H := zh (H.out.below ST.out.below); have HB0 := zh ST.out.below; replace ST : Aside0 (Sx w w [⟨g2, #[.slice A0 h.length c0, .slice A1 s.length c1, .slice A2 p.length c2, .int .i64 b0, .int .i64 b1], 28, false⟩] [] (fun _ => True)) := Sx.anew ST) | ((with_reducible refine gate_dst (N := 22) rfl ?_); refine yC ST (N := some 22) (cSound H HS _ ST.out.below) ?_ Tryd.func36; clear ST HC; intro w ST HC; simp only [Rd] at HC) | ((with_reducible refine gate_dst (N := 36) rfl ?_); refine yX ST (N := some 36) (F := fun v => .tuple #[v, .int .i64 F]) (cTuning H HT _ ST.out.below) ?_ Tryd.func20; clear ST HC; intro _ w _ ST HC; simp only [Rd] at HC) | ((with_reducible refine gate_dst (N := 46) rfl ?_); refine gate_guard (by rfl) ?_; refine yC ST (N := some 46) (cGrows (Kd.C_below HL.out ST.out.below) hvc h9 HI.out) ?_ Tryd.func48; clear ST HC; intro w ST HC; simp only [Rd] at HC) | ((with_reducible refine gate_dst (N := 60) rfl ?_); refine yX ST (N := some 60) (F := fun v : (Option Addr × Nat) × Option Addr × Nat => .agg (sc A0 c0 h v.1.1 v.1.2 (woS wl s) v.2.1 v.2.2 (woP wl p) b0 b1)) (without_w ⟨(H.out.below ST.out.below)⟩ (Kd.C_below HL.out ST.out.below) hvc h9 HN.out HK) ?_ Tryd.func49; clear ST HC; intro ⟨⟨A1', c1'⟩, A2', c2'⟩ w HX ST HC; simp only [Rd] at HC; replace HX := zh HX; clear HL hvc; replace H := zh (H.out.below ST.out.below); have HB1 := zh ST.out.below; replace ST : Aside0 (Sx w w [⟨g2, #[.slice A0 h.length c0, .slice A1 s.length c1, .slice A2 p.length c2, .int .i64 b0, .int .i64 b1], 28, false⟩] [] (fun _ => True)) := Sx.anew ST) | ((with_reducible refine gate_dst (N := 61) rfl ?_); refine yX ST (N := some 61) (F := fun v => .tuple #[v, .int .i64 0]) (cTuning HX HT2 _ ST.out.below) ?_ Tryd.func20; clear ST HC; intro _ w _ ST HC; simp only [Rd] at HC) | ((with_reducible refine gate_dst (N := 11) rfl ?_); refine yA ST (N := 11) (cs := #[.slice none 0 0, .slice none 0 0, .slice none 0 0, .int .i64 0, .int .i64 0]) (t := 28) ?_; clear ST HC; intro g11 w ST HC; simp only [Rd] at HC) | ((with_reducible refine gate_store (p := 11) (v := (.tmp 66)) rfl ?_); refine yS (L' := [⟨g11, #[.slice A0 h.length c0, .slice A1 s.length c1, .slice A2 p.length c2, .int .i64 b0, .int .i64 b1], 28, true⟩, ⟨g2, #[.slice A0 h.length c0, .slice A1 s.length c1, .slice A2 p.length c2, .int .i64 b0, .int .i64 b1], 28, false⟩]) ST (fun S => Sx.put (Sx.put (Sx.put (Sx.put (Sx.put S 0 (0) (.slice A0 h.length c0) rfl) 0 (1) (.slice A1 s.length c1) rfl) 0 (2) (.slice A2 p.length c2) rfl) 0 (3) (.int .i64 b0) rfl) 0 (4) (.int .i64 b1) rfl) ?_; clear ST HC; intro w ST HC; simp only [Rd] at HC) | ((with_reducible refine gate_store (p := 67) (v := (.const (.slice none 0 0))) rfl ?_); refine yS (L' := [⟨g11, #[.slice A0 h.length c0, .slice none 0 0, .slice A2 p.length c2, .int .i64 b0, .int .i64 b1], 28, true⟩, ⟨g2, #[.slice A0 h.length c0, .slice A1 s.length c1, .slice A2 p.length c2, .int .i64 b0, .int .i64 b1], 28, false⟩]) ST (fun S => Sx.put S 0 (1) (.slice none 0 0) rfl) ?_; clear ST HC; intro w ST HC; simp only [Rd] at HC) | ((with_reducible refine gate_store (p := 68) (v := (.const (.slice none 0 0))) rfl ?_); refine yS (L' := [⟨g11, #[.slice A0 h.length c0, .slice none 0 0, .slice none 0 0, .int .i64 b0, .int .i64 b1], 28, true⟩, ⟨g2, #[.slice A0 h.length c0, .slice A1 s.length c1, .slice A2 p.length c2, .int .i64 b0, .int .i64 b1], 28, false⟩]) ST (fun S => Sx.put S 0 (2) (.slice none 0 0) rfl) ?_; clear ST HC; intro w ST HC; simp only [Rd] at HC) | ((with_reducible refine gate_dst (N := 71) rfl ?_); refine yX ST (N := some 71) (F := fun v : Option Addr × Nat => .tuple #[.slice v.1 0 v.2, .int .i64 0]) (cWrong (b0 := b0) (b1 := b1) (H.out.below ST.out.below).bare HW0.out) ?_ Tryd.func33; clear ST HC; intro ⟨AW71, cW71⟩ w _ ST HC; simp only [Rd] at HC))
 refine yI (E := fun _ => True) (n := 8) (ds := [6, 7]) ST (fun _ _ => trivial) r14.tab13 r14.bits13 ?_
 clear ST HC
 intro w ST HC HT_ HW_ HE_
 simp only [Rd] at HC
 refine zu 1 ?_
 refine zu 2 ?_
 refine yL 0 ST ?_
 refine yL 3 ST ?_
 refine zu 4 ?_
 refine yG 5 ST (cTurn n (h.length : Int) HA _ ST.out.below) ?_ Tryd.func39
 clear ST HC
 intro w ST HC
 simp only [Rd] at HC
 refine yBr 6 ST (t := 26) (F := fun v : Nat × Nat × Array Value => .agg (sc (some ⟨v.1, 0, none⟩) v.2.1 h3 A1 c1 s A2 c2 p b0 b1)) (R' := fun v => Row26 v.2.2 h3 ∧ h.length ≤ v.2.1) (cJustB (b0 := b0) (b1 := b1) H HS3 hk hn ST.out.below) ?_ Tryd.func44
 clear ST HC
 intro gj cj cur w ⟨hrow, hcap⟩ ST HC
 have HQ := zh hrow
 clear hrow
 simp only [Rd] at HC
 refine yT 7 (L' := [⟨gj, cur, 26, true⟩, ⟨g11, #[.slice (some ⟨gj, 0, none⟩) h3.length cj, .slice A1 s.length c1, .slice A2 p.length c2, .int .i64 b0, .int .i64 b1], 28, true⟩, ⟨g2, #[.slice A0 h.length c0, .slice A1 s.length c1, .slice A2 p.length c2, .int .i64 b0, .int .i64 b1], 28, false⟩]) ST (fun S => Sx.put (Sx.put (Sx.put (Sx.put (Sx.put S 1 (0) (.slice (some ⟨gj, 0, none⟩) h3.length cj) rfl) 1 (1) (.slice A1 s.length c1) rfl) 1 (2) (.slice A2 p.length c2) rfl) 1 (3) (.int .i64 b0) rfl) 1 (4) (.int .i64 b1) rfl) ?_
 clear ST HC
 intro w ST HC
 simp only [Rd] at HC
 refine zd ?_
 clear HT_ HW_ HE_
 have HL3 : Aside0 (h3.length = h.length) := ⟨by rw [← HS3.out, List.length_set]⟩
 go_wp2_with (first | ((with_reducible refine gate_dst (N := 83) rfl ?_); refine yX ST (N := some 83) (F := fun v : Option Addr × Nat => .tuple #[.slice v.1 ml.length v.2, .int .i64 0]) (cWrong (b0 := b0) (b1 := b1) ((H.out.below ST.out.below).row ST.out.blks.1 HQ.out HL3.out hn.2 hcap) HW3.out) ?_ Tryd.func33; clear ST HC; intro ⟨AW83, cW83⟩ w _ ST HC; simp only [Rd] at HC) | ((with_reducible refine gate_dst (N := 106) rfl ?_); refine gate_guard (by rfl) ?_; refine yC ST (N := some 106) (cPlayed H _ ST.out.below) ?_ Tryd.func22; clear ST HC; intro w ST HC; simp only [Rd] at HC))
 go_ret
 exact ⟨rfl, below_step HB0.out (below_step HB1.out ST.out.below)⟩
end
end Go.Proofs.YtgehkojccmkggaaDoor.K
end
section
namespace Go.Proofs.YtgehkojccmkggaaDoor.K
open Go.RowKit Go.Shelf Go.Proofs.YtgehkojccmkggaaDoorW.PrintWords Go.Proofs.YtgehkojccmkggaaDoorW.PrintLast Go.Proofs.YtgehkojccmkggaaDoorW.PrintMore Go.Proofs.YtgehkojccmkggaaDoor.H Tune
set_option linter.unusedVariables false
set_option linter.unusedSimpArgs false
attribute [local go_sem] Oper.semAt_some
theorem AllFit.mono {s : List S61} {p : List S48} {left left' : Nat → Bool} {B : Int × Int} {l : Nat → Int} (h : AllFit s p left B l) (hl : ∀ x, left' x = false → left x = false) : AllFit s p left' B l :=
 ⟨fun x hx m hm a b => h.1 x hx m hm (hl _ a) (hl _ b), fun q hq a b => h.2 q hq (hl _ a) (hl _ b)⟩
theorem check_none {h : List S26} {s : List S61} {p : List S48} {b0 b1 : Int} (hc : checkT h s p b0 b1 = 0) : checkT h [] [] b0 b1 = 0 := by
 have N := neat_of hc
 refine check_sub hc ?_ (check_iff.1 hc).1.2.1 rfl rfl ⟨(fun x hx => by cases hx), (fun q hq => by cases hq)⟩ (List.nil_sublist _)
 have h0 := (check_iff.1 hc).1.1
 unfold ok0 at h0 ⊢
 simp only [Bool.and_eq_true, decide_eq_true_eq] at h0 ⊢
 have := N.few
 simp only [List.length_nil, Int.natCast_zero]
 exact ⟨by omega, by omega, by omega, by omega, N.beat⟩
theorem tuneLeft_true {A0 : Option Addr} {c0 : Nat} {h : List S26} {A1 : Option Addr} {c1 : Nat} {s : List S61} {A2 : Option Addr} {c2 : Nat} {p : List S48} {w : World} {b0 b1 : Int} (n : Int) (H : At A0 c0 h A1 c1 s A2 c2 p w) :
  Calls Tryd.prog 14 #[.agg #[.slice A0 h.length c0, .slice A1 s.length c1, .slice A2 p.length c2, .int .i64 b0, .int .i64 b1], .int .i64 n] w fun e w' => e = .returned (.bool true) ∧ Below w.heap.size w w' := by
 have hsm := H.sm
 have wf : ∀ (h' : List S26) (s' : List S61) (p' : List S48), small h' s' p' = true → checkT h' s' p' b0 b1 = 0 → tune_Wrong.f h' s' p' b0 b1 = some (wrongT h' s' p' b0 b1, 0) := fun h' s' p' h1 h2 => by
  unfold tune_Wrong.f
  rw [if_pos h1, h2]
 by_cases hc : checkT h s p b0 b1 = 0
 ·obtain ⟨F, _⟩ := fine_of hc
  have hn : 0 < h.length ∧ h.length ≤ 8 := ⟨F.some, F.few⟩
  obtain ⟨k, hk, ek⟩ := turn_at n h.length F.some (by omega)
  obtain ⟨g1, ⟨l, hl⟩, g3⟩ := wrongT_spec hc
  have hlen : (wrongT h s p b0 b1).length ≤ h.length := by
   have := g3 _ (Inc.all h.length) ?_
   ·simpa using this
   ·obtain ⟨a1, a2⟩ := hl
    have hin : ∀ x, lfOf ((List.range h.length).map fun i : Nat => (i : Int)) x = false → ¬ x < h.length := fun x hx hlt => by
     rw [lfOf_mem.2 (List.mem_map.2 ⟨x, List.mem_range.2 hlt, rfl⟩)] at hx; cases hx
    refine ⟨l, fun x hx h9 => absurd hx (hin x h9), a2.mono fun x hx => ?_⟩
    cases h8 : lfOf (wrongT h s p b0 b1) x with
    | false => rfl
    | true =>
     have := g1.2 _ (lfOf_mem.1 h8)
     exact absurd (by omega) (hin x hx)
  have hwo := wo_check (w := wrongT h s p b0 b1) hc
  obtain ⟨l2, hl2⟩ := wo_tuned hc hl
  have e2 : askedE h (woS (wrongT h s p b0 b1) s) (woP (wrongT h s p b0 b1) p) b0 b1 true = 0 := by
   rcases asked_g hwo with ⟨e, _⟩ | ⟨_, hno⟩
   ·exact e
   ·exact absurd ⟨l2, hl2⟩ hno
  obtain ⟨r2, hr2⟩ := tuning_g (small_neat (neat_of hwo)) e2
  have h0 := check_none hc
  have w0 : wrongT h [] [] b0 b1 = [] := by
   obtain ⟨_, _, q3⟩ := wrongT_spec h0
   have := q3 [] ⟨List.Pairwise.nil, (fun x hx => by cases hx)⟩ ⟨loH h, fun x hx _ => ⟨Int.le_refl _, (F.span x hx).2.2.1⟩, ⟨fun x hx => by (cases hx), fun q hq => by (cases hq)⟩⟩
   exact List.length_eq_zero_iff.1 (Nat.le_zero.1 this)
  have h3 : checkT (h.set k ⟨4000, 4000⟩) s p b0 b1 = 0 := check_set hc hk (by omega) (by omega) (by omega) (by omega)
  have hm : (wrongT (h.set k ⟨4000, 4000⟩) s p b0 b1).length ≤ (wrongT h s p b0 b1).length + 1 := by
   obtain ⟨_, _, q3⟩ := wrongT_spec h3
   obtain ⟨q, i1, i2, i3⟩ := g1.insert hk
   refine Nat.le_trans (q3 q (by rw [List.length_set]; exact i1) ⟨l, fun x hx h9 => ?_, hl.2.mono fun x h9 => ?_⟩) i2
   ·rw [List.length_set] at hx
    have hxk : x ≠ k := fun e => by subst e; rw [lfOf_mem.2 ((i3 _).2 (.inr rfl))] at h9; cases h9
    have hxw : lfOf (wrongT h s p b0 b1) x = false := by
     cases h8 : lfOf (wrongT h s p b0 b1) x with
     | false => rfl
     | true => rw [lfOf_mem.2 ((i3 _).2 (.inl (lfOf_mem.1 h8)))] at h9; cases h9
    obtain ⟨s1, s2⟩ := set_lo hk 4000 4000 x
    rw [s1, s2, if_neg hxk, if_neg hxk]
    exact hl.1 x hx hxw
   ·cases h8 : lfOf (wrongT h s p b0 b1) x with
    | false => rfl
    | true => rw [lfOf_mem.2 ((i3 _).2 (.inl (lfOf_mem.1 h8)))] at h9; cases h9
  obtain ⟨E, gE⟩ : ∃ E, askedE h s p b0 b1 true = E := ⟨_, rfl⟩
  obtain ⟨r, hr⟩ := tuning_g hsm gE
  have A := asked_g hc
  rw [gE] at A
  have hqb : (((wrongT h s p b0 b1).length : Int) == 0) = (E == 0) := by
   rcases A with ⟨e, l', t1, t2⟩ | ⟨e, hno⟩
   ·have h9 := g3 [] ⟨List.Pairwise.nil, (fun x hx => by cases hx)⟩ ⟨l', fun x hx _ => t1 x hx, t2.mono fun _ _ => rfl⟩
    rw [e, show (wrongT h s p b0 b1).length = 0 from Nat.le_zero.1 h9]
    rfl
   ·rw [e]
    have h9 : (wrongT h s p b0 b1).length ≠ 0 := fun h8 => by
     rw [List.length_eq_zero_iff.1 h8] at hl
     exact hno ⟨l, fun x hx => hl.1 x hx rfl, hl.2.mono fun _ _ => rfl⟩
    rw [show ((12 : Int) == 0) = false from rfl, beq_eq_false_iff_ne]
    omega
  exact left_B ⟨H⟩ (decide_eq_true hc) hk hn ⟨neat_of hc⟩ ⟨hc⟩ (by omega) ⟨g1⟩ ⟨wf _ _ _ hsm hc⟩ ⟨hr⟩ hqb rfl ⟨hr2⟩ ⟨by rw [wf _ _ _ (small_neat (neat_of h0)) h0, w0]⟩ ⟨ek⟩ ⟨rfl⟩ ⟨wf _ _ _ (small_set hsm _ _) h3⟩ hm (by omega) (w64 (by omega) (by omega))
 ·refine left_A ⟨H⟩ (decide_eq_false hc) ⟨?_⟩
  unfold tune_Wrong.f wrongT
  rw [if_pos hsm, if_neg hc, checkT_ne hc]
end Go.Proofs.YtgehkojccmkggaaDoor.K
end
section
namespace Go.Proofs.YtgehkojccmkggaaDoor.tuneLeft
open Go.ChangeShapes Go.WideShapes Go.ChangeAt Go.RowKit Go.Proofs.YtgehkojccmkggaaDoorW.PrintWords Go.Proofs.YtgehkojccmkggaaDoor.H Go.Proofs.YtgehkojccmkggaaDoor.K
set_option linter.unusedVariables false
theorem own : ownKnob Tryd.prog.godebug = none := by kernel_rfl
theorem laidOut : laidOutB Tryd.prog = true := by kernel_rfl
abbrev zeros : Array Value := #[.agg #[.slice none 0 0, .slice none 0 0, .slice none 0 0, .int .i64 0, .int .i64 0], .int .i64 0]
theorem door_met (os : Os) (args : Array Value) : laidMetH Tryd.prog laid1 ((World.doorLaid Tryd.prog 600 os).forCall (fun _ _ => 0) ⟨#[], args, []⟩).memory :=
 laidMetH_of_parts3 (fuel := 8) (laidMet_of_run' 8 zk zk) zk zk
set_option maxRecDepth 100000 in
set_option maxHeartbeats 2000000 in
theorem lifted (os : Os) (started : os.Started) (H : Type) (enc : TypeId × Value → H) (F : Stop.Interp) :
  ReturnsInHanded {} Tryd.checked os 14 .any ((Rows.OpenSpec.upto Rows.tuneLeftSpec).preRow enc Tryd.prog Tryd.f14 Rows.tuneLeftUptoRow.domain false Rows.tuneLeftUptoRow.laid) (((Rows.OpenSpec.upto Rows.tuneLeftSpec).at F).post enc Tryd.prog Tryd.f14 false true false false) := by
 refine returnsInHanded_of_row (C := Tryd.checked) (s := Rows.OpenSpec.upto Rows.tuneLeftSpec) own started zk Tryd.func14
  (witness_row_at (enc := enc) (C := Tryd.checked) false (World.doorLaid Tryd.prog 600 os) zeros rfl zk zk zk
   (OpenSpec.preRow_of_cond (x := ([.agg [.nil, .nil, .nil, .agg [.lit (.int .i64 0), .lit (.int .i64 0)]], .lit (.int .i64 0)], [], [])) 8 zk zk (fun k hk => by cases hk; kernel_rfl) zk (door_met os _))) ?_
 intro W base args ds gs before hval0 hW _ hcond _ hL _ _
 have hval : ∀ (j : Nat) t v, Tryd.f14.params[j]? = some t → args[j]? = some v → Value.okWide Tryd.prog W .any base t v := hval0
 have hbulk : Rows.uptoBulkAll (ds ++ gs) ≤ 1048576 := of_decide_eq_true (hcond _ rfl)
 have hW' := hW
 obtain ⟨p, q, hA0, hV, rfl, hfz, hnd⟩ := hW
 have hA : DataW.TrodAll enc Tryd.prog W 0 (fun _ => true) true Tryd.f14.params.toList args.toList ds p := hA0
 rw [Tryd.params14] at hA hval
 obtain ⟨v0, vs0, d0, ds0, p0, q0, hargs, rfl, rfl, h0, r0⟩ := trodAll_cons hA
 obtain ⟨v1, vs1, d1, ds1, p1, q1, rfl, rfl, rfl, h1, r1⟩ := trodAll_cons r0
 obtain ⟨rfl, rfl, rfl⟩ := trodAll_nil r1
 obtain rfl : args = #[v0, v1] := by cases args; simp_all
 obtain ⟨rfl, rfl⟩ := trodVars_none hV
 have hb0 : Rows.uptoBulk d0 ≤ 1048576 := by
  simp only [List.append_nil, Rows.uptoBulkAll] at hbulk
  omega
 have hb1 : Rows.uptoBulk d1 ≤ 1048576 := by
  simp only [List.append_nil, Rows.uptoBulkAll] at hbulk
  omega
 have k0 := h0
 have lt0 : ∀ x ∈ p0, x.block < W.heap.size := by obtain ⟨m, hm⟩ := k0; exact DataW.trod_lt m _ _ _ hm
 obtain ⟨A0, c0, l0, A1, c1, l1, A2, c2, l2, b0, b1, rfl, hc0, hC0, hc1, hC1, hc2, hC2, hs⟩ := arg_set (hval 0 28 v0 rfl rfl) h0 hb0
 obtain ⟨n0, rfl, rfl, rfl, wn⟩ := open_int Tryd.underlying3 (hval 1 3 v1 rfl rfl) h1
 clear hA0 hval0
 have hG := glob_of_laid hL
 refine (tuneLeft_true n0 ⟨hs, hG, hC0, hc0, hC1, hc1, hC2, hc2⟩).mono fun e W' ⟨he, bel⟩ => ?_
 subst he
 exact ⟨_, rfl, _, _, _, [], _, [], hW', trodAll_mk1 (shut_bool Tryd.underlying4 _), (trodAll_cons_mk (Below.trod laidOut zk (of_decide_eq_true zk) k0 bel lt0) (trodAll_cons_mk (shut_int Tryd.underlying3 wn) trodAll_mk0)), rfl, bel.frame _, fun h => by cases h⟩
theorem over : Rows.TuneLeftUptoSaid :=
 OpenClaim.holds_of_cond 14 Tryd.f14 rfl rfl rfl rfl rfl rfl rfl ⟨rfl, rfl, rfl, rfl, rfl⟩ rfl rfl rfl rfl rfl zk Tryd.func14 zk
  (of_decide_eq_true zk) (by unfold Func.isWrapper; first | (rw [if_pos (by decide +kernel)]; kernel_rfl) | (rw [if_neg (by decide +kernel)]; exact ⟨rfl, rfl⟩))
  (fun os started H enc _ F => by rw [OpenClaim.pre_eq_preRow]; exact lifted os started H enc F)
theorem proved : Rows.TuneLeftUptoCardSaid :=
 Claim7.holds_tied_plain_at .later [] _ _ _ _ over (fun _ h => by cases h) zk (fun _ h => by cases h) tuneLeftUpto_row_tie rfl ⟨rfl, rfl⟩ zk rfl
  (fun f fn hf hfn => by
   obtain rfl : f = 14 := Option.some.inj ((show Tryd.prog.funcNamed "saron/saronlaw01.TuneLeft" = some 14 by kernel_rfl).symm.trans hf) |>.symm
   obtain rfl : fn = Tryd.f14 := (Option.some.inj (Tryd.func14.symm.trans hfn)).symm
   exact ⟨by kernel_rfl, fun j t ht => by
    rw [Tryd.params14] at ht
    have hm : t ∈ [28, 3] := by simpa using Array.mem_of_getElem? ht
    have hall : ([28, 3].all fun u => !Tryd.prog.wantsStandIn u) = true := by kernel_rfl
    exact (show Tryd.prog.wantsStandIn t = false by simpa using List.all_eq_true.1 hall t hm)⟩)
  zk
end Go.Proofs.YtgehkojccmkggaaDoor.tuneLeft
namespace Go.Proofs.YtgehkojccmkggaaDoor
theorem tuneLeft_card : Rows.TuneLeftUptoCardSaid := tuneLeft.proved
end Go.Proofs.YtgehkojccmkggaaDoor
end
