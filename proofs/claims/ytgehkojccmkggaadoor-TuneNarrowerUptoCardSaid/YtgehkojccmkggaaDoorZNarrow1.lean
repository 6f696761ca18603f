/- TuneNarrower, its second form: for every set, and any numbers that choose, of bulk at most 1,048,576, the law returns true, and each argument reads afterwards as it read before. Condition: when the call begins the package's table of asks reads as the program's text lays it; the card ties that to the text. -/
import Derived.ArgAppend
import Derived.Below
import Derived.BigQuiet
import Derived.ChangeKeysEq
import Derived.Deep.AppendLies
import Derived.Deep.CutBlock
import Derived.Deep.DeepCutAuto
import Derived.Deep.DeepHandedRow
import Derived.Deep.Draws
import Derived.Deep.LoopGhost
import Derived.Deep.OwnRows
import Derived.Deep.QuietTactic
import Derived.Deep.RegionHeld3
import Derived.JoinedCond
import Derived.KernelRfl
import Derived.LaidMore
import Derived.Laws.BitsLemmas
import Derived.Laws.BytesArg
import Derived.Laws.IdiomCopy
import Derived.Laws.MakeOwn
import Derived.Laws.OwnMore
import Derived.Laws.Rows
import Derived.Laws.Slices
import Derived.Lib.AppendStr
import Derived.Lib.ConvBytes
import Derived.Lib.LaidTab
import Derived.Maps.AppendAt
import Derived.OpenShut
import Derived.OrdersHeld
import Derived.OwnWalk
import Derived.ProofKit
import Derived.RowKit
import Derived.RowKit3
import Derived.SevenTiedAt
import Derived.SizedLaws
import Derived.Stop.Joined
import Derived.Tactics
import Derived.WalkKit
import Derived.WideLaws
import Derived.Test.YtgehkojccmkggaaDoorCards
import Derived.Test.YtgehkojccmkggaaDoorProg
import Derived.Test.YtgehkojccmkggaaDoorTie
import Derived.Test.YtgehkojccmkggaaDoorZB1
import Derived.Test.YtgehkojccmkggaaDoorZB2
import Derived.Test.YtgehkojccmkggaaDoorZB5
import Derived.Test.YtgehkojccmkggaaDoorZB6
set_option linter.all false
section
set_option linter.unusedVariables false
set_option linter.unusedSimpArgs false
namespace Go.Proofs.YtgehkojccmkggaaDoorW.PrintWords
open Go.RowKit
theorem ReadsRow.inner_ {α : Type} {R : α → List Value → Prop} {size : Nat} {w : World} {ad : Addr} {n : Nat} {ps : List α} (h : ReadsRow R size w (some ad) n ps) :
  ∃ inner, Reps R size ps inner ∧ ∀ j u, inner[j]? = some u → w.cell? (ad.add j) = some u := by
 have key : ∀ m, m ≤ ps.length → ∃ inner, Reps R size (ps.take m) inner ∧ ∀ j u, inner[j]? = some u → w.cell? (ad.add j) = some u := by
  intro m
  induction m with
  | zero => exact fun _ => ⟨[], Reps.none _ _, fun j u hu => by simp at hu⟩
  | succ m ih =>
   intro hm
   obtain ⟨inner, hr, hc⟩ := ih (by omega)
   obtain ⟨ad', he, hcell⟩ := h.2.2 (by have := h.1; omega)
   injection he with he
   subst he
   obtain ⟨c, hcl, hp, hcc⟩ := hcell m _ (List.getElem?_eq_getElem (show m < ps.length by omega))
   refine ⟨inner ++ c, ?_, fun j u hu => ?_⟩
   ·rw [List.take_succ_eq_append_getElem (show m < ps.length by omega)]
    exact hr.snoc hp hcl
   ·have hil : inner.length = m * size := by rw [hr.1, List.length_take, Nat.min_eq_left (by omega)]
    rcases Nat.lt_or_ge j inner.length with hj | hj
    ·rw [List.getElem?_append_left hj] at hu
     exact hc j u hu
    ·rw [List.getElem?_append_right hj] at hu
     have := hcc (j - inner.length) u hu
     rwa [hil, Nat.add_sub_cancel' (by omega)] at this
 obtain ⟨inner, hr, hc⟩ := key ps.length (Nat.le_refl _)
 rw [List.take_length] at hr
 exact ⟨inner, hr, hc⟩
namespace Kd
theorem reps_append {α : Type} {R : α → List Value → Prop} {size : Nat} {ps qs : List α} {cs ds : List Value} (h : Reps R size ps cs) (h' : Reps R size qs ds) : Reps R size (ps ++ qs) (cs ++ ds) := by
 refine ⟨by rw [List.length_append, List.length_append, h.1, h'.1, Nat.add_mul], fun j p hj => ?_⟩
 rcases Nat.lt_or_ge j ps.length with hlt | hge
 ·rw [List.getElem?_append_left hlt] at hj
  have hle : j * size + size ≤ cs.length := by rw [h.1, ← Nat.succ_mul]; exact Nat.mul_le_mul_right _ hlt
  rw [List.drop_append_of_le_length (by omega), List.take_append_of_le_length (by rw [List.length_drop]; omega)]
  exact h.2 j p hj
 ·rw [List.getElem?_append_right hge] at hj
  have h2 := h'.2 (j - ps.length) p hj
  have hle : ps.length * size ≤ j * size := Nat.mul_le_mul_right _ hge
  rw [List.drop_append, List.drop_eq_nil_of_le (by rw [h.1]; exact hle), List.nil_append, h.1, ← Nat.sub_mul]
  exact h2
section
variable {P : Program} {ops : Array Oper} {rest : List Oper} {o : Oper} {a : Act} {Q : Exit → Act → World → Prop} {α : Type}
theorem R_append_rows (d : Kd α) {Rr : α → List Value → Prop} {w0 W : World} (base : Nat) (hgd : o.guard = none) (s x : Operand) (t e : TypeId) (z : Value) (bytes : Nat)
  (ho : o.op = .call { callee := .builtin .append, args := #[s, x], argTypes := #[t, t] })
  (ht : P.underlying t = some (.slice e)) (hinfo : (P.info? e).map (fun i => (i.zero, i.size, i.bytes)) = some (some z, d.sz, bytes)) (hz : z.cells.size = d.sz) (hs0 : 0 < d.sz) (hb0 : 0 < bytes)
  (v : Value) (xs ys : List α) (A : Option Addr) (m c : Nat) (ok okp : Nat → Prop) (hs : a.eval s = v) (hx : a.eval x = .slice A m c)
  (HO : d.R e W base ok v xs) (HR : ReadsRow Rr d.sz W A m ys) (hKM : ∀ x cs, Rr x cs → d.M W base okp x cs) (hokp : ∀ k, okp k → ok k ∧ some k ≠ v.ownBlock) (hfresh : ∀ k, W.heap.size ≤ k → ok k)
  (HB : Below base w0 W) (hbase : base ≤ W.heap.size) (hl : (xs.length + m) * bytes ≤ 140737488355328)
  (h : ∀ v1 w1, d.R e w1 base ok v1 (xs ++ ys) → Below base w0 w1 → W.grownBy w1 v.ownBlock → (v1.ownBlock = v.ownBlock ∨ ∃ b, v1.ownBlock = some b ∧ W.heap.size ≤ b) → wpList P ops Q rest (a.put o.dst v1) w1) :
  wpList P ops Q (o :: rest) a W := by
 obtain ⟨i0, hi, hzz⟩ := Option.map_eq_some_iff.1 hinfo
 simp only [Prod.mk.injEq] at hzz
 obtain ⟨hz0, hz1, hz2⟩ := hzz
 have hm : ys.length = m := HR.1
 have hlen : xs.length + m ≤ 140737488355328 := Nat.le_trans (Nat.le_mul_of_pos_right _ hb0) hl
 obtain ⟨hok, inner, hown, hr⟩ := HO
 have hrun : ∃ v1 w1, (Builtin.append_ #[t, t] o.type #[v, .slice A m c]).run P W = .ok v1 w1 ∧ d.R e w1 base ok v1 (xs ++ ys) ∧ W.grownBy w1 v.ownBlock ∧ (v1.ownBlock = v.ownBlock ∨ ∃ b, v1.ownBlock = some b ∧ W.heap.size ≤ b) := by
  rcases A with _ | ad
  ·have h0 : m = 0 := by
    rcases Nat.eq_zero_or_pos m with h0 | h0
    ·exact h0
    ·obtain ⟨ad, h, _⟩ := HR.2.2 h0
     cases h
   subst h0
   obtain rfl : ys = [] := List.eq_nil_of_length_eq_zero hm
   refine ⟨v, W, ?_, by rw [List.append_nil]; exact ⟨hok, inner, hown, hr⟩, World.grownBy.refl W _, .inl rfl⟩
   rcases hown.2 with ⟨rfl, hn⟩ | ⟨g, cap, cur, rfl, _, _, hnc, _⟩
   ·simp [Builtin.append_, run_underlying ht, sizeOf, typeInfo, hi, Builtin.lenOf, Builtin.firstCells]
   ·simp [Builtin.append_, run_underlying ht, sizeOf, typeInfo, hi, Builtin.lenOf, Builtin.firstCells, hnc, storeCells]
  ·obtain ⟨news, hnr, hnc⟩ := ReadsRow.inner_ HR
   have hnM : Reps (d.M W base okp) d.sz ys news := hnr.imp_ (fun p c hp => hKM p c hp)
   have hone : ∀ u ∈ news, u.oneCell' = true := by
    intro u hu
    obtain ⟨q, hq, rfl⟩ := List.mem_iff_getElem.1 hu
    have hql : q / d.sz < ys.length := by
     rw [Nat.div_lt_iff_lt_mul hs0]
     rw [← hnM.1]
     exact hq
    have hc := hnM.2 (q / d.sz) _ (List.getElem?_eq_getElem hql)
    refine d.K_one (d.K_of_M hc) _ ?_
    rw [List.mem_iff_getElem?]
    refine ⟨q % d.sz, ?_⟩
    rw [List.getElem?_take, if_pos (Nat.mod_lt _ hs0), List.getElem?_drop, Nat.mul_comm, Nat.div_add_mod, List.getElem?_eq_getElem hq]
   obtain ⟨v1, w1, hrun, h2, hg, _, hat⟩ := run_append_own_at (P := P) W base t o.type e i0 z d.sz bytes ht hi hz0 hz1 hz2 hz hs0 v xs.length inner hown ad m c news (by rw [hnM.1, hm]) hnc hone (by simp only [maxLen]; omega) hl hbase
   have hat' : v1.ownBlock = v.ownBlock ∨ ∃ b, v1.ownBlock = some b ∧ W.heap.size ≤ b := by
    rcases hat with hat | hat
    ·exact .inl hat
    ·exact .inr ⟨_, hat, Nat.le_refl _⟩
   have hne : ∀ k, some k ≠ v.ownBlock → k < W.heap.size → some k ≠ v1.ownBlock := by
    intro k hk hlt
    rcases hat' with hat | ⟨b, hb, hle⟩
    ·rw [hat]; exact hk
    ·rw [hb]
     intro he
     injection he with he
     omega
   have step : ∀ {q : α} {c : List Value} {o : Nat → Prop}, d.M W base o q c → (∀ k, o k → ok k ∧ some k ≠ v.ownBlock) → d.M w1 base (fun k => ok k ∧ some k ≠ v1.ownBlock) q c := by
    intro q c o hq ho
    have h1 := d.M_move (w1 := w1) (fun k hk => hg.block k hk.2.2.1 (ho k hk.1).2) (d.M_bound hq)
    exact d.M_mono (fun k hk => ⟨(ho k hk.1).1, hne k (ho k hk.1).2 hk.2.2.1⟩) h1
   refine ⟨v1, w1, hrun, ⟨fun k hk => ?_, inner ++ news, by rw [List.length_append, hm]; exact h2, reps_append (hr.imp_ (fun _ _ hq => step hq (fun _ hk => hk))) (hnM.imp_ (fun _ _ hq => step hq hokp))⟩, hg, hat'⟩
   rcases hat' with hat | ⟨b, hb, hle⟩
   ·exact hok k (hat ▸ hk)
   ·rw [hb] at hk
    injection hk with hk
    exact hfresh k (by omega)
 obtain ⟨v1, w1, hr1, h1, hg, hat⟩ := hrun
 refine wpList_plain hgd fun K hK => ?_
 unfold Oper.wp execOp
 simp only [ho, resolve, invoke, builtin, Sem.run_bind, Sem.run_pure, Result.andThen_ok, List.map_toArray, List.map_cons, List.map_nil, hs, hx, hr1]
 exact hK _ _ (h v1 w1 h1 (HB.grown hg hbase (own_base hown)) hg hat)
end
end Kd
end Go.Proofs.YtgehkojccmkggaaDoorW.PrintWords
end
section
namespace Go.Proofs.YtgehkojccmkggaaDoor.H
open Go.RowKit Go.Proofs.YtgehkojccmkggaaDoorW.PrintWords Go.Proofs.YtgehkojccmkggaaDoorW.PrintLast Go.Proofs.YtgehkojccmkggaaDoorW.PrintMore
set_option linter.unusedVariables false
set_option linter.unusedSimpArgs false
theorem info26 : (Tryd.prog.info? 26).map (fun i => (i.zero, i.size, i.bytes)) = some (some (.agg #[(.int .i64 0), (.int .i64 0)]), 2, 16) := by kernel_rfl
theorem k26_openM {w : World} {base : Nat} {ok : Nat → Prop} {x : S26} {cs : List Value} (h : k26.M w base ok x cs) : cs = [.int .i64 x.f0, .int .i64 x.f1] := by
 obtain ⟨_, _, rfl, rfl, rfl⟩ := h
 exact rfl
end Go.Proofs.YtgehkojccmkggaaDoor.H
end
section
namespace Go.Proofs.YtgehkojccmkggaaDoor.K
open Go.ChangeShapes Go.WideShapes Go.ChangeAt Go.RowKit Go.Proofs.YtgehkojccmkggaaDoorW.PrintWords Go.Proofs.YtgehkojccmkggaaDoor.H
set_option maxRecDepth 100000 in
theorem arg_four {H : Type} {enc : TypeId × Value → H} {w : World} {base : Nat} {spare : Nat → Bool} {held : Bool} {r : Reach} {b0 : Nat} {v : Value} {y : DataW H} {p : List MemPlace} (hv : Value.okWide Tryd.prog w r b0 38 v) (h : DataW.Trod enc Tryd.prog w base spare held 38 v y p) :
  ∃ x0 x1 x2 x3 : Int, v = .agg #[.int .i64 x0, .int .i64 x1, .int .i64 x2, .int .i64 x3] ∧ I64 x0 ∧ I64 x1 ∧ I64 x2 ∧ I64 x3 := by
 obtain ⟨cs, rfl, hs, hx⟩ := ints_of_array (n := 4) Tryd.underlying38 zk hv h
 obtain ⟨x0, e0, h0⟩ := hx 0 (by omega)
 obtain ⟨x1, e1, h1⟩ := hx 1 (by omega)
 obtain ⟨x2, e2, h2⟩ := hx 2 (by omega)
 obtain ⟨x3, e3, h3⟩ := hx 3 (by omega)
 refine ⟨x0, x1, x2, x3, ?_, h0, h1, h2, h3⟩
 congr 1
 apply Array.ext (by simpa using hs)
 intro i hi _
 obtain rfl | rfl | rfl | rfl : i = 0 ∨ i = 1 ∨ i = 2 ∨ i = 3 := by omega
 ·simpa using e0
 ·simpa using e1
 ·simpa using e2
 ·simpa using e3
end Go.Proofs.YtgehkojccmkggaaDoor.K
end
section
namespace Go.Proofs.YtgehkojccmkggaaDoor.K
open Go.RowKit Go.Proofs.YtgehkojccmkggaaDoorW.PrintWords Go.Proofs.YtgehkojccmkggaaDoorW.PrintLast Go.Proofs.YtgehkojccmkggaaDoorW.PrintMore
section
variable {w0 w w1 : World} {L : List Bk}
theorem St.anew (h : Aside0 (St w0 w L)) : Aside0 (St w w (L.map fun x => { x with own := false })) := by
 obtain ⟨⟨h1, h2, h3, h4⟩⟩ := h
 refine ⟨⟨Below.refl _ _, ?_, ?_, ?_⟩⟩
 ·clear h1 h3 h4
  induction L with
  | nil => trivial
  | cons x L ih => exact ⟨h2.1, ih h2.2⟩
 ·intro x hx e
  obtain ⟨y, _, rfl⟩ := List.mem_map.1 hx
  cases e
 ·rw [List.pairwise_map]
  exact h4
end
section
variable {P : Program} {md : Region.Mode} {ops : Array Oper} {Q : Exit → Act → World → Prop} {ds : List Nat} {w0 w : World} {L : List Bk} {n_ : Tmp} {oi : Oper} {fuel : Nat} {l : Array Bool} {a a' : Act}
theorem zS (i : Nat) {S : World → Prop} (ST : Aside0 (St w0 w L)) {w2 : World} {L' : List Bk} (hst : Aside0 (St w0 w L) → Aside0 (St w0 w2 L')) (h : ∀ w1, Aside0 (St w0 w1 L') → Rd w1 L' → wpAnyLast P md ops Q S ds fuel (l.setIfInBounds i true) a w1)
  {rest : List Oper} (hi : ops.toList.drop i = oi :: rest := by exact rfl) (hN : oi.dst = none := by exact rfl) (hc : readyB md ops l (l.setIfInBounds i true) i = true := by exact one_of HT_.out zk) (hd : i ∈ ds := by decide) (hw : Region.wanted oi (yielded ops a.tmps) = true := by rfl)
  (hrun : (execOp a.eval oi).run P w = .ok .skip w2 := by first | (go_simp; done) | (go_simp; rfl)) : wpAnyLast P md ops Q S ds (fuel + 1) l a w := by
 refine last_ _ (drop_at hi) hN hc hd (fun K hK => ?_)
 exact skip_ hw hN hrun (hK.out _ _ (h w2 (hst ST) (St.rd (hst ST))))
end
end Go.Proofs.YtgehkojccmkggaaDoor.K
end
section
namespace Go.Proofs.YtgehkojccmkggaaDoor.K
open Go.RowKit Go.Shelf Go.Proofs.YtgehkojccmkggaaDoorW.PrintWords Go.Proofs.YtgehkojccmkggaaDoorW.PrintLast Go.Proofs.YtgehkojccmkggaaDoorW.PrintMore Go.Proofs.YtgehkojccmkggaaDoor.H Tune
set_option linter.unusedVariables false
set_option linter.unusedSimpArgs false
section
variable {h : List S26} {s : List S61} {p : List S48} {b0 b1 : Int}
theorem TunS_plain (hc : checkT h s p b0 b1 = 0) (B : Int × Int) (l : Nat → Int) : TunS h (jsOf h s p b0 b1) B l ↔ (∀ x, x < h.length → loH h x ≤ l x ∧ l x ≤ hiH h x) ∧ AllFit s p noLeft B l := by
 unfold TunS Tun
 refine and_congr ⟨fun g x hx => ⟨(g x hx rfl).1, (g x hx rfl).2.1⟩, fun g x hx _ => ⟨(g x hx).1, (g x hx).2, rfl⟩⟩ (fit_all (neat_of hc) noLeft B l)
end
end Go.Proofs.YtgehkojccmkggaaDoor.K
end
section
namespace Go.Proofs.YtgehkojccmkggaaDoor.K
open Go.RowKit Go.Shelf Go.Proofs.YtgehkojccmkggaaDoorW.PrintWords Go.Proofs.YtgehkojccmkggaaDoorW.PrintLast Go.Proofs.YtgehkojccmkggaaDoorW.PrintMore Go.Proofs.YtgehkojccmkggaaDoor.H Tune
set_option linter.unusedVariables false
set_option linter.unusedSimpArgs false
section
variable {A0 : Option Addr} {c0 : Nat} {h : List S26} {A1 : Option Addr} {c1 : Nat} {s : List S61} {A2 : Option Addr} {c2 : Nat} {p : List S48} {w w' : World} {b0 b1 : Int}
variable (H : Aside0 (At A0 c0 h A1 c1 s A2 c2 p w))
include H
theorem cPitch {a r1 r2 r3 : Int} (hr : Aside0 (tune_Pitch.f h s p b0 b1 a = some (r1, r2, r3))) : ∀ W, Below w.heap.size w W → Calls Tryd.prog 23 #[.agg (sc A0 c0 h A1 c1 s A2 c2 p b0 b1), .int .i64 a] W fun e w' => e = .returned (.tuple #[.agg #[.int .i64 r1, .int .i64 r2], .int .i64 r3]) ∧ Below W.heap.size W w' := fun W hW => by
 have X := H.out.below hW
 exact tune_Pitch.calls A0 c0 h A1 c1 s A2 c2 p b0 b1 a r1 r2 r3 W X.d0 X.n0 X.d1 X.n1 X.d2 X.n2 X.gl hr.out
theorem cCan {a q : Int} {r1 : Bool} {r2 : Int} (hr : Aside0 (tune_Can.f h s p b0 b1 a q = some (r1, r2))) : ∀ W, Below w.heap.size w W → Calls Tryd.prog 25 #[.agg (sc A0 c0 h A1 c1 s A2 c2 p b0 b1), .int .i64 a, .int .i64 q] W fun e w' => e = .returned (.tuple #[.bool r1, .int .i64 r2]) ∧ Below W.heap.size W w' := fun W hW => by
 have X := H.out.below hW
 exact tune_Can.calls A0 c0 h A1 c1 s A2 c2 p b0 b1 a q r1 r2 W X.d0 X.n0 X.d1 X.n1 X.d2 X.n2 X.gl hr.out
end
end Go.Proofs.YtgehkojccmkggaaDoor.K
end
section
namespace Go.Proofs.YtgehkojccmkggaaDoor.K
open Go.RowKit Go.Shelf Go.Proofs.YtgehkojccmkggaaDoorW.PrintWords Go.Proofs.YtgehkojccmkggaaDoorW.PrintLast Go.Proofs.YtgehkojccmkggaaDoorW.PrintMore Go.Proofs.YtgehkojccmkggaaDoor.H Tune
set_option linter.unusedVariables false
set_option linter.unusedSimpArgs false
attribute [local go_sem] Oper.semAt_some
def Row26 (cur : Array Value) (l : List S26) : Prop := ∀ i, i < l.length → cur[i * 2]? = some (.int .i64 (l.getD i z26).f0) ∧ cur[i * 2 + 1]? = some (.int .i64 (l.getD i z26).f1)
theorem Row26.set {cur : Array Value} {l : List S26} (h : Row26 cur l) (k : Nat) (a b : Int) (hk : k < l.length) : Row26 ((cur.setIfInBounds (k * 2) (.int .i64 a)).setIfInBounds (k * 2 + 1) (.int .i64 b)) (l.set k ⟨a, b⟩) := by
 intro i hi
 rw [List.length_set] at hi
 obtain ⟨h1, h2⟩ := h i hi
 obtain ⟨l1, e1⟩ := Array.getElem?_eq_some_iff.1 h1
 obtain ⟨l2, e2⟩ := Array.getElem?_eq_some_iff.1 h2
 by_cases e : i = k
 ·subst e
  have e3 : (l.set i ⟨a, b⟩).getD i z26 = ⟨a, b⟩ := by simp [List.getD_eq_getElem?_getD, hk]
  rw [e3]
  constructor
  ·rw [Array.getElem?_setIfInBounds, if_neg (by omega), Array.getElem?_setIfInBounds, if_pos rfl, if_pos l1]
  ·rw [Array.getElem?_setIfInBounds, if_pos rfl, if_pos (by rw [Array.size_setIfInBounds]; exact l2)]
 ·have e3 : (l.set k ⟨a, b⟩).getD i z26 = l.getD i z26 := by simp [List.getD_eq_getElem?_getD, List.getElem?_set, Ne.symm e]
  rw [e3]
  constructor
  ·rw [Array.getElem?_setIfInBounds, if_neg (by omega), Array.getElem?_setIfInBounds, if_neg (by omega)]; exact h1
  ·rw [Array.getElem?_setIfInBounds, if_neg (by omega), Array.getElem?_setIfInBounds, if_neg (by omega)]; exact h2
theorem C26_of_row {w : World} {g : Nat} {t : TypeId} {cur : Array Value} {l : List S26} (hb : w.heap[g]? = some (.cells cur t (0, 0))) (h : Row26 cur l) (hn : l.length ≤ 4000000) : Kd.C k26 w (some ⟨g, 0, none⟩) l.length l := by
 refine ⟨rfl, by omega, fun _ => ⟨_, rfl, fun j p hj => ?_⟩⟩
 obtain ⟨hlt, hp⟩ := List.getElem?_eq_some_iff.1 hj
 have e : l.getD j z26 = p := by simp [List.getD_eq_getElem?_getD, hlt, hp]
 obtain ⟨h1, h2⟩ := h j hlt
 rw [e] at h1 h2
 refine ⟨[.int .i64 p.f0, .int .i64 p.f1], rfl, k26_mk w p, fun i u hu => ?_⟩
 have hs : k26.sz = 2 := rfl
 rw [hs, Addr.add_lit, blk_cell hb]
 match i, hu with
 | 0, hu => injection hu with hu; subst hu; rw [show 0 + (j * 2 + 0) = j * 2 by omega]; exact h1
 | 1, hu => injection hu with hu; subst hu; rw [show 0 + (j * 2 + 1) = j * 2 + 1 by omega]; exact h2
section
variable {ops : Array Oper} {rest : List Oper} {o : Oper} {a : Act} {Q : Exit → Act → World → Prop} {w0 w : World} {L : List Bk}
theorem evLit (S : Aside0 (St w0 w L)) {e : TypeId} (h : ∀ g w1, Aside0 (St w0 w1 (⟨g, #[], e, true⟩ :: L)) → Rd w1 (⟨g, #[], e, true⟩ :: L) → wpList Tryd.prog ops Q rest (a.put o.dst (.slice (some ⟨g, 0, none⟩) 0 0)) w1)
  (hgd : o.guard = none := by rfl) (hrun : (execOp a.eval o).run Tryd.prog w = .ok (.value (.slice (some ⟨w.heap.size, 0, none⟩) 0 0)) (w.alloc (.cells #[] e (0, 0))) := by first | (go_simp; done) | (go_simp; rfl)) : wpList Tryd.prog ops Q (o :: rest) a w :=
 Kd.event_run hgd hrun (h _ _ (St.alloc S #[] e) (St.rd (St.alloc S #[] e)))
theorem evCopy {ge : Nat} (S : Aside0 (St w0 w (⟨ge, #[], 26, true⟩ :: L))) {A : Option Addr} {c : Nat} {l : List S26} (hC : Kd.C k26 w A l.length l) (hl : 0 < l.length ∧ l.length ≤ 8)
  (h : ∀ g cap cur w1, Row26 cur l → l.length ≤ cap → Aside0 (St w0 w1 (⟨g, cur, 26, true⟩ :: L)) → Rd w1 (⟨g, cur, 26, true⟩ :: L) → wpList Tryd.prog ops Q rest (a.put o.dst (.slice (some ⟨g, 0, none⟩) l.length cap)) w1)
  {s x : Operand} (ho : o.op = .call { callee := .builtin .append, args := #[s, x], argTypes := #[22, 22] } := by rfl) (hgd : o.guard = none := by rfl) (hs : a.eval s = .slice (some ⟨ge, 0, none⟩) 0 0 := by rfl) (hx : a.eval x = .slice A l.length c := by rfl) : wpList Tryd.prog ops Q (o :: rest) a w := by
 have S0 := S.out
 have hge := S0.blks.1
 have hown := S0.own _ (List.mem_cons_self ..) rfl
 refine Kd.R_append_rows k26 (w0 := w0) (Rr := k26.K w) w0.heap.size hgd s x 22 26 (.agg #[.int .i64 0, .int .i64 0]) 16 ho Tryd.underlying22 info26 rfl (by decide) (by omega) _ [] l A _ _ (fun _ => True) (fun _ => False) hs hx
  ⟨fun _ _ => trivial, [], ⟨rfl, .inr ⟨ge, 0, #[], rfl, hown, hge, Nat.le_refl _, Nat.zero_le _, rfl, rfl⟩⟩, Reps.none _ _⟩ hC (fun x cs hx => by rw [k26_open hx]; exact k26_mkM _ _ _ _) (fun _ h => h.elim) (fun _ _ => trivial) S0.below S0.below.size (by simp; omega) ?_
 intro v1 w1 hR hb hg hat
 obtain ⟨_, inner, ⟨hlen, hor⟩, hreps⟩ := hR
 rw [List.nil_append] at hlen hor hreps
 rcases hor with ⟨_, h0⟩ | ⟨g, cap, cur, rfl, hgb, hcur, hnc, hcm, hsz, htake⟩
 ·omega
 have hnew : ∀ y ∈ L, y.g < g := by
  intro y hy
  have h1 := (List.pairwise_cons.1 S0.apart).1 y hy
  have h2 := blk_lt (S0.blks.2.of_mem hy)
  rcases hat with e | ⟨b, e, hbb⟩
  ·have : g = ge := by simpa [Value.ownBlock] using e
   rw [this]; exact h1
  ·have : g = b := by simpa [Value.ownBlock] using e
   omega
 have ST : Aside0 (St w0 w1 (⟨g, cur, 26, true⟩ :: L)) := by
  refine ⟨⟨hb, ⟨hcur, S0.blks.2.map fun y hy hx => blk_grown hx hg ?_⟩, ?_, List.Pairwise.cons hnew (List.pairwise_cons.1 S0.apart).2⟩⟩
  ·have h1 : y.g < ge := (List.pairwise_cons.1 S0.apart).1 y hy
   simp [Value.ownBlock]
   omega
  ·intro y hy e
   rcases List.mem_cons.1 hy with rfl | hy
   ·exact hgb
   ·exact S0.own y (List.mem_cons_of_mem _ hy) e
 refine h g cap cur w1 ?_ hnc ST (St.rd ST)
 intro i hi
 have h1 := hreps.2 i _ (List.getElem?_eq_getElem hi)
 have h2 := k26_openM h1
 have hs2 : k26.sz = 2 := rfl
 rw [hs2] at h2 htake hlen
 have e : l.getD i z26 = l[i] := by simp [List.getD_eq_getElem?_getD, hi]
 rw [e]
 have key : ∀ m (u : Value), m < 2 → ((inner.drop (i * 2)).take 2)[m]? = some u → cur[i * 2 + m]? = some u := by
  intro m u hm hu
  rw [List.getElem?_take, if_pos hm, List.getElem?_drop, ← htake, List.getElem?_take, if_pos (by omega)] at hu
  rw [← Array.getElem?_toList]
  exact hu
 constructor
 ·exact key 0 _ (by omega) (by rw [h2]; rfl)
 ·exact key 1 _ (by omega) (by rw [h2]; rfl)
end
end Go.Proofs.YtgehkojccmkggaaDoor.K
end
section
namespace Go.Proofs.YtgehkojccmkggaaDoor.K
open Go.RowKit Go.Shelf Go.Proofs.YtgehkojccmkggaaDoorW.PrintWords Go.Proofs.YtgehkojccmkggaaDoorW.PrintLast Go.Proofs.YtgehkojccmkggaaDoorW.PrintMore Go.Proofs.YtgehkojccmkggaaDoor.H Tune
set_option linter.unusedVariables false
set_option linter.unusedSimpArgs false
attribute [local go_sem] Oper.semAt_some
attribute [local go_sem high] eqA26
attribute [local go_sem] max2_int min2_int max_two min_two
def r44.T3 : Bool × List (List Nat × List Nat) := (true, [([], []), ([0], [0]), ([], []), ([], []), ([], []), ([3, 4], [3, 4]), ([1, 2, 0, 1, 2, 3, 4, 5], [1, 2]), ([6, 5, 5, 0, 1, 2, 3, 4, 5], [5, 6])])
def r44.B3 : List Nat := [0, 1, 0, 0, 0, 24, 63, 127]
theorem r44.tab3 : rtab .any (opsOf Tryd.f44 3) = r44.T3 := by kernel_rfl
theorem r44.bits3 : waitsOk r44.T3.2 r44.B3 = true := by kernel_rfl
section
variable {A0 : Option Addr} {c0 : Nat} {h : List S26} {A1 : Option Addr} {c1 : Nat} {s : List S61} {A2 : Option Addr} {c2 : Nat} {p : List S48} {w : World} {b0 b1 : Int} (H : Aside0 (At A0 c0 h A1 c1 s A2 c2 p w))
include H
set_option maxRecDepth 100000 in
set_option maxHeartbeats 4000000 in
theorem just_w (k : Nat) (q : Int) (hk : k < h.length) (hn : 0 < h.length ∧ h.length ≤ 8) : Calls Tryd.prog 44 #[.agg #[.slice A0 h.length c0, .slice A1 s.length c1, .slice A2 p.length c2, .int .i64 b0, .int .i64 b1], .int .i64 (k : Int), .int .i64 q] w fun e w' => ∃ v : Nat × Nat, e = .returned (.agg (sc (some ⟨v.1, 0, none⟩) v.2 (h.set k ⟨q, q⟩) A1 c1 s A2 c2 p b0 b1)) ∧ At (some ⟨v.1, 0, none⟩) v.2 (h.set k ⟨q, q⟩) A1 c1 s A2 c2 p w' ∧ Below w.heap.size w w' := by
 have ST := St.start w
 have HC : True := trivial
 have hk1 : (k : Int) < (h.length : Int) := by omega
 have hk0 : 0 ≤ (k : Int) := by omega
 go_enter Tryd.func44, Tryd.ntmps44
 go_upto_region 3 with (first | ((with_reducible refine gate_dst (N := 3) rfl ?_); refine evA ST (N := 3) (cs := #[.slice A0 h.length c0, .slice A1 s.length c1, .slice A2 p.length c2, .int .i64 b0, .int .i64 b1]) (t := 28) ?_; clear ST HC; intro g3 w ST HC; simp only [Rd] at HC) | ((with_reducible refine gate_dst (N := 6) rfl ?_); refine evA ST (N := 6) (cs := #[.slice none 0 0, .slice none 0 0, .slice none 0 0, .int .i64 0, .int .i64 0]) (t := 28) ?_; clear ST HC; intro g6 w ST HC; simp only [Rd] at HC) | ((with_reducible refine gate_dst (N := 7) rfl ?_); refine evA ST (N := 7) (cs := #[.slice none 0 0, .slice none 0 0, .slice none 0 0, .int .i64 0, .int .i64 0]) (t := 28) ?_; clear ST HC; intro g7 w ST HC; simp only [Rd] at HC) | ((with_reducible refine gate_store (p := 7) (v := (.tmp 8)) rfl ?_); refine evS (L' := [⟨g7, #[.slice A0 h.length c0, .slice A1 s.length c1, .slice A2 p.length c2, .int .i64 b0, .int .i64 b1], 28, true⟩, ⟨g6, #[.slice none 0 0, .slice none 0 0, .slice none 0 0, .int .i64 0, .int .i64 0], 28, true⟩, ⟨g3, #[.slice A0 h.length c0, .slice A1 s.length c1, .slice A2 p.length c2, .int .i64 b0, .int .i64 b1], 28, true⟩]) ST (fun S => St.put (St.put (St.put (St.put (St.put S 0 (0) (.slice A0 h.length c0) rfl) 0 (1) (.slice A1 s.length c1) rfl) 0 (2) (.slice A2 p.length c2) rfl) 0 (3) (.int .i64 b0) rfl) 0 (4) (.int .i64 b1) rfl) ?_; clear ST HC; intro w ST HC; simp only [Rd] at HC) | ((with_reducible refine gate_dst (N := 9) rfl ?_); refine evLit ST (e := 26) ?_; clear ST HC; intro g9 w ST HC; simp only [Rd] at HC) | ((with_reducible refine gate_dst (N := 12) rfl ?_); refine evCopy ST (Kd.C_below H.out.d0 ST.out.below) hn ?_; clear ST HC; intro g12 cap cur w hrow hcap ST HC; simp only [Rd] at HC; have hq := hrow k hk; have HQ := zh hrow; clear hrow; obtain ⟨hq0, hq1⟩ := hq) | ((with_reducible refine gate_store (p := 13) (v := (.tmp 12)) rfl ?_); refine evS (L' := [⟨g12, cur, 26, true⟩, ⟨g7, #[.slice (some ⟨g12, 0, none⟩) h.length cap, .slice A1 s.length c1, .slice A2 p.length c2, .int .i64 b0, .int .i64 b1], 28, true⟩, ⟨g6, #[.slice none 0 0, .slice none 0 0, .slice none 0 0, .int .i64 0, .int .i64 0], 28, true⟩, ⟨g3, #[.slice A0 h.length c0, .slice A1 s.length c1, .slice A2 p.length c2, .int .i64 b0, .int .i64 b1], 28, true⟩]) ST (fun S => St.put S 1 (0) (.slice (some ⟨g12, 0, none⟩) h.length cap) rfl) ?_; clear ST HC; intro w ST HC; simp only [Rd] at HC))
 refine zI (E := fun _ => True) (n := 8) (ds := [7]) ST (fun _ _ => trivial) r44.tab3 r44.bits3 ?_
 clear ST HC
 intro w ST HC HT_ HW_ HE_
 simp only [Rd] at HC
 refine zu 0 ?_
 refine zu 2 ?_
 refine zu 3 ?_
 refine zu 4 ?_
 refine zL 1 ST ?_
 refine zG 5 ST (cBand q q) ?_ Tryd.func42
 clear ST HC
 intro w ST HC
 simp only [Rd] at HC
 refine zu 6 ?_
 refine zS 7 (L' := [⟨g12, ((cur.setIfInBounds (k * 2) (.int .i64 q)).setIfInBounds (k * 2 + 1) (.int .i64 q)), 26, true⟩, ⟨g7, #[.slice (some ⟨g12, 0, none⟩) h.length cap, .slice A1 s.length c1, .slice A2 p.length c2, .int .i64 b0, .int .i64 b1], 28, true⟩, ⟨g6, #[.slice none 0 0, .slice none 0 0, .slice none 0 0, .int .i64 0, .int .i64 0], 28, true⟩, ⟨g3, #[.slice A0 h.length c0, .slice A1 s.length c1, .slice A2 p.length c2, .int .i64 b0, .int .i64 b1], 28, true⟩]) ST (fun S => St.put (St.put S 0 (k * 2) (.int .i64 q) rfl) 0 (k * 2 + 1) (.int .i64 q) rfl) ?_
 clear ST HC
 intro w ST HC
 simp only [Rd] at HC
 refine zd ?_
 clear HT_ HW_ HE_ hq0 hq1
 go_wp2_with (first | ((with_reducible refine gate_store (p := 6) (v := (.tmp 21)) rfl ?_); refine evS (L' := [⟨g12, ((cur.setIfInBounds (k * 2) (.int .i64 q)).setIfInBounds (k * 2 + 1) (.int .i64 q)), 26, true⟩, ⟨g7, #[.slice (some ⟨g12, 0, none⟩) h.length cap, .slice A1 s.length c1, .slice A2 p.length c2, .int .i64 b0, .int .i64 b1], 28, true⟩, ⟨g6, #[.slice (some ⟨g12, 0, none⟩) h.length cap, .slice A1 s.length c1, .slice A2 p.length c2, .int .i64 b0, .int .i64 b1], 28, true⟩, ⟨g3, #[.slice A0 h.length c0, .slice A1 s.length c1, .slice A2 p.length c2, .int .i64 b0, .int .i64 b1], 28, true⟩]) ST (fun S => St.put (St.put (St.put (St.put (St.put S 2 (0) (.slice (some ⟨g12, 0, none⟩) h.length cap) rfl) 2 (1) (.slice A1 s.length c1) rfl) 2 (2) (.slice A2 p.length c2) rfl) 2 (3) (.int .i64 b0) rfl) 2 (4) (.int .i64 b1) rfl) ?_; clear ST HC; intro w ST HC; simp only [Rd] at HC))
 have X := H.out.below ST.out.below
 have hsm : small (h.set k ⟨q, q⟩) s p = true := by have h9 := X.sm; unfold small at h9 ⊢; rw [List.length_set]; exact h9
 exact bodyPost_ret (v := .agg #[.slice (some ⟨g12, 0, none⟩) h.length cap, .slice A1 s.length c1, .slice A2 p.length c2, .int .i64 b0, .int .i64 b1]) (by simp [results, Tryd.results44, go_sem, HC]) rfl ⟨(g12, cap), by unfold sc; rw [List.length_set], ⟨hsm, X.gl, C26_of_row ST.out.blks.1 (HQ.out.set k q q hk) (by rw [List.length_set]; omega), by rw [List.length_set]; exact hcap, X.d1, X.n1, X.d2, X.n2⟩, ST.out.below⟩
theorem cJust {k : Nat} {q : Int} {h3 : List S26} (he : Aside0 (h.set k ⟨q, q⟩ = h3)) (hk : k < h.length) (hn : 0 < h.length ∧ h.length ≤ 8) : ∀ W, Below w.heap.size w W → Calls Tryd.prog 44 #[.agg (sc A0 c0 h A1 c1 s A2 c2 p b0 b1), .int .i64 (k : Int), .int .i64 q] W fun e w' => ∃ v : Nat × Nat, e = .returned (.agg (sc (some ⟨v.1, 0, none⟩) v.2 h3 A1 c1 s A2 c2 p b0 b1)) ∧ At (some ⟨v.1, 0, none⟩) v.2 h3 A1 c1 s A2 c2 p w' ∧ Below W.heap.size W w' := fun W hW => by rw [← he.out]; exact just_w ⟨H.out.below hW⟩ k q hk hn
omit H in
theorem At.row {g cap : Nat} {cur : Array Value} {t : TypeId} {h2 : List S26} (H : At A0 c0 h A1 c1 s A2 c2 p w) (hb : w.heap[g]? = some (.cells cur t (0, 0))) (hr : Row26 cur h2) (hl : h2.length = h.length) (h8 : h.length ≤ 8) (hc : h.length ≤ cap) : At (some ⟨g, 0, none⟩) cap h2 A1 c1 s A2 c2 p w := by
 have hsm : small h2 s p = true := by have h9 := H.sm; unfold small at h9 ⊢; rw [hl]; exact h9
 exact ⟨hsm, H.gl, C26_of_row hb hr (by omega), by omega, H.d1, H.n1, H.d2, H.n2⟩
omit H in
theorem At.heard {ad : Addr} {k : Nat} (H : At (some ad) c0 h A1 c1 s A2 c2 p w) (hk : k < h.length) : w.cell? (ad.add (k * 2)) = some (.int .i64 (loH h k)) ∧ w.cell? ⟨(ad.add (k * 2)).block, (ad.add (k * 2)).off + 1, none⟩ = some (.int .i64 (hiH h k)) := by
 obtain ⟨ad', e, h1, h2⟩ := H_at H.d0 k hk
 injection e with e
 subst e
 exact ⟨h1, h2⟩
omit H in
theorem At.addr (H : At A0 c0 h A1 c1 s A2 c2 p w) (h1 : 0 < h.length) : ∃ ad, A0 = some ad := by
 obtain ⟨ad, e, _⟩ := H_at H.d0 0 h1
 exact ⟨ad, e⟩
end
end Go.Proofs.YtgehkojccmkggaaDoor.K
end
section
namespace Go.Proofs.YtgehkojccmkggaaDoor.K
open Go.RowKit Go.Shelf Go.Proofs.YtgehkojccmkggaaDoorW.PrintWords Go.Proofs.YtgehkojccmkggaaDoorW.PrintLast Go.Proofs.YtgehkojccmkggaaDoorW.PrintMore Go.Proofs.YtgehkojccmkggaaDoor.H Tune
set_option linter.unusedVariables false
set_option linter.unusedSimpArgs false
attribute [local go_sem] Oper.semAt_some
attribute [local go_sem high] eqA26
attribute [local go_sem] max2_int min2_int max_two min_two
def r9.T3 : Bool × List (List Nat × List Nat) := (true, [([], []), ([0], [0]), ([], []), ([2], [2]), ([3], [3]), ([1, 4], [1, 4]), ([], []), ([6], [6]), ([], []), ([8], [8]), ([9], [9]), ([7, 10, 5], [7, 10]), ([5, 11, 0, 1, 2, 3, 4, 5], [5]), ([11, 12, 0, 1, 2, 3, 4, 5, 6, 7, 8, 9, 10, 11, 12], [11])])
def r9.B3 : List Nat := [0, 1, 0, 4, 12, 31, 0, 64, 0, 256, 768, 2047, 4095, 8191]
theorem r9.tab3 : rtab .any (opsOf Tryd.f9 3) = r9.T3 := by kernel_rfl
theorem r9.bits3 : waitsOk r9.T3.2 r9.B3 = true := by kernel_rfl
def r9.T8 : Bool × List (List Nat × List Nat) := (true, [([], []), ([0], [0]), ([], []), ([], []), ([], []), ([], []), ([5], [5]), ([4, 6], [4, 6]), ([], []), ([8], [8]), ([7, 9, 7], [7, 9]), ([3, 10, 10], [3, 10]), ([1, 2, 0, 1, 2, 3, 4, 5, 6, 7, 8, 9, 10, 11], [1, 2]), ([12, 11, 11, 0, 1, 2, 3, 4, 5, 6, 7, 8, 9, 10, 11], [11, 12])])
def r9.B8 : List Nat := [0, 1, 0, 0, 0, 0, 32, 112, 0, 256, 1008, 2040, 4095, 8191]
theorem r9.tab8 : rtab .any (opsOf Tryd.f9 8) = r9.T8 := by kernel_rfl
theorem r9.bits8 : waitsOk r9.T8.2 r9.B8 = true := by kernel_rfl
def r9.T9 : Bool × List (List Nat × List Nat) := (true, [([], []), ([0], [0]), ([], []), ([1, 2], [1, 2]), ([3], [3]), ([], []), ([5], [5]), ([4, 6], [4, 6]), ([7, 7, 0, 1, 2, 3, 4, 5, 6, 7], [7])])
def r9.B9 : List Nat := [0, 1, 0, 7, 15, 0, 32, 127, 255]
theorem r9.tab9 : rtab .any (opsOf Tryd.f9 9) = r9.T9 := by kernel_rfl
theorem r9.bits9 : waitsOk r9.T9.2 r9.B9 = true := by kernel_rfl
section
variable {A0 : Option Addr} {c0 : Nat} {h : List S26} {A1 : Option Addr} {c1 : Nat} {s : List S61} {A2 : Option Addr} {c2 : Nat} {p : List S48} {w : World} {b0 b1 : Int} {n0 n1 n2 n3 : Int} (H : Aside0 (At A0 c0 h A1 c1 s A2 c2 p w))
include H
set_option maxRecDepth 100000 in
set_option maxHeartbeats 4000000 in
theorem narrow_A (HS : decide (checkT h s p b0 b1 = 0) = false) :
  Calls Tryd.prog 9 #[.agg #[.slice A0 h.length c0, .slice A1 s.length c1, .slice A2 p.length c2, .int .i64 b0, .int .i64 b1], .agg #[.int .i64 n0, .int .i64 n1, .int .i64 n2, .int .i64 n3]] w fun e w' => e = .returned (.bool true) ∧ Below w.heap.size w w' := by
 have ST := St.start w
 have HC : True := trivial
 go_enter Tryd.func9, Tryd.ntmps9
 go_wp2_with (first | ((with_reducible refine gate_dst (N := 2) rfl ?_); refine evA ST (N := 2) (cs := #[.slice A0 h.length c0, .slice A1 s.length c1, .slice A2 p.length c2, .int .i64 b0, .int .i64 b1]) (t := 28) ?_; clear ST HC; intro g2 w ST HC; simp only [Rd] at HC) | ((with_reducible refine gate_dst (N := 3) rfl ?_); refine evA ST (N := 3) (cs := #[.int .i64 n0, .int .i64 n1, .int .i64 n2, .int .i64 n3]) (t := 38) ?_; clear ST HC; intro g3 w ST HC; simp only [Rd] at HC) | ((with_reducible refine gate_dst (N := 22) rfl ?_); refine evC ST (N := some 22) (cSound H HS) ?_ Tryd.func36; clear ST HC; intro w ST HC; simp only [Rd] at HC) | ((with_reducible refine gate_dst (N := 24) rfl ?_); refine evC ST (N := some 24) (cPlayed H) ?_ Tryd.func22; clear ST HC; intro w ST HC; simp only [Rd] at HC))
 go_ret
 exact ⟨rfl, ST.out.below⟩
end
section
variable {ad : Addr} {c0 : Nat} {h : List S26} {A1 : Option Addr} {c1 : Nat} {s : List S61} {A2 : Option Addr} {c2 : Nat} {p : List S48} {w : World} {b0 b1 : Int} {n0 n1 n2 n3 : Int} (H : Aside0 (At (some ad) c0 h A1 c1 s A2 c2 p w))
include H
set_option maxRecDepth 100000 in
set_option maxHeartbeats 4000000 in
theorem narrow_B (HS : decide (checkT h s p b0 b1 = 0) = true) {a b : Nat} (ha : a < h.length) (hb : b < h.length) (hn : 0 < h.length ∧ h.length ≤ 8) {x y z : Int} {h2 h3 : List S26} (HA : Aside0 (saronref00_Turn.f n0 (h.length : Int) = some (a : Int))) (HB : Aside0 (saronref00_Turn.f n2 (h.length : Int) = some (b : Int))) (HX1 : Aside0 (saronref00_Draw.f (loH h a) (hiH h a) n1 = some x)) (HY1 : Aside0 (saronref00_Draw.f x (hiH h a) n3 = some y)) (HT1 : Aside0 (saronref00_Draw.f (loH h b) (hiH h b) n3 = some z)) (HS2 : Aside0 (h.set a ⟨x, y⟩ = h2)) (HS3 : Aside0 (h.set b ⟨z, z⟩ = h3)) {p0 p1 q0 q1 E1 E2 J : Int} {is so : Bool} {r : List Int} (HP : Aside0 (tune_Pitch.f h s p b0 b1 b = some (p0, p1, E1))) (HQ2 : Aside0 (tune_Pitch.f h2 s p b0 b1 b = some (q0, q1, E2))) (HC1 : Aside0 (tune_Can.f h s p b0 b1 b z = some (is, E1))) (HC2 : Aside0 (tune_Can.f h2 s p b0 b1 b z = some (so, E2))) (HJT : Aside0 (tune_Tuning.f h3 s p b0 b1 = some (r, J)))
  (hcase : (E1 = 0 ∧ E2 = 0 ∧ is = true ∧ so = true ∧ J = 0 ∧ saronref00_Under.f q0 q1 p0 p1 = some true) ∨ (E1 = 0 ∧ E2 = 0 ∧ is = true ∧ so = false ∧ J = 0 ∧ saronref00_Under.f q0 q1 p0 p1 = some true) ∨ (E1 = 0 ∧ E2 = 0 ∧ is = false ∧ so = false ∧ J = 12 ∧ saronref00_Under.f q0 q1 p0 p1 = some true) ∨ (E1 = 0 ∧ E2 = 12 ∧ is = true ∧ so = false ∧ J = 0) ∨ (E1 = 0 ∧ E2 = 12 ∧ is = false ∧ so = false ∧ J = 12) ∨ (E1 = 12 ∧ E2 = 12 ∧ is = false ∧ so = false ∧ J = 12)) :
  Calls Tryd.prog 9 #[.agg #[.slice (some ad) h.length c0, .slice A1 s.length c1, .slice A2 p.length c2, .int .i64 b0, .int .i64 b1], .agg #[.int .i64 n0, .int .i64 n1, .int .i64 n2, .int .i64 n3]] w fun e w' => e = .returned (.bool true) ∧ Below w.heap.size w w' := by
 have ha1 : (a : Int) < (h.length : Int) := by omega
 have ha0 : 0 ≤ (a : Int) := by omega
 have hb1 : (b : Int) < (h.length : Int) := by omega
 have hb0 : 0 ≤ (b : Int) := by omega
 have ST := St.start w
 have HC : True := trivial
 go_enter Tryd.func9, Tryd.ntmps9
 go_upto_region 3 with (first | ((with_reducible refine gate_dst (N := 2) rfl ?_); refine evA ST (N := 2) (cs := #[.slice (some ad) h.length c0, .slice A1 s.length c1, .slice A2 p.length c2, .int .i64 b0, .int .i64 b1]) (t := 28) ?_; clear ST HC; intro g2 w ST HC; simp only [Rd] at HC) | ((with_reducible refine gate_dst (N := 3) rfl ?_); refine evA ST (N := 3) (cs := #[.int .i64 n0, .int .i64 n1, .int .i64 n2, .int .i64 n3]) (t := 38) ?_; clear ST HC; intro g3 w ST HC; simp only [Rd] at HC) | ((with_reducible refine gate_dst (N := 22) rfl ?_); refine evC ST (N := some 22) (cSound H HS) ?_ Tryd.func36; clear ST HC; intro w ST HC; simp only [Rd] at HC))
 refine zI (E := fun _ => True) (n := 14) (ds := []) ST (fun _ _ => trivial) r9.tab3 r9.bits3 ?_
 clear ST HC
 intro w ST HC HT_ HW_ HE_
 simp only [Rd] at HC
 refine zu 0 ?_
 refine zu 2 ?_
 refine zu 6 ?_
 refine zu 8 ?_
 refine zL 1 ST ?_
 refine zL 3 ST ?_
 refine zu 4 ?_
 refine zL 7 ST ?_
 refine zL 9 ST ?_
 refine zu 10 ?_
 refine zG 5 ST (cTurn n0 (h.length : Int) HA) ?_ Tryd.func39
 clear ST HC
 intro w ST HC
 simp only [Rd] at HC
 refine zG 11 ST (cTurn n2 (h.length : Int) HB) ?_ Tryd.func39
 clear ST HC
 intro w ST HC
 simp only [Rd] at HC
 refine zu 12 ?_
 refine zu 13 ?_
 refine zd ?_
 clear HT_ HW_ HE_
 go_upto_region 4 with (fail)
 obtain ⟨e0, e1⟩ := (H.out.below ST.out.below).heard ha
 go_upto_region 5 with (first | ((with_reducible refine gate_dst (N := 7) rfl ?_); refine evA ST (N := 7) (cs := #[.int .i64 0, .int .i64 0]) (t := 26) ?_; clear ST HC; intro g7 w ST HC; simp only [Rd] at HC) | ((with_reducible refine gate_store (p := 7) (v := (.tmp 41)) rfl ?_); refine evS (L' := [⟨g7, #[.int .i64 (loH h a), .int .i64 (hiH h a)], 26, true⟩, ⟨g3, #[.int .i64 n0, .int .i64 n1, .int .i64 n2, .int .i64 n3], 38, true⟩, ⟨g2, #[.slice (some ad) h.length c0, .slice A1 s.length c1, .slice A2 p.length c2, .int .i64 b0, .int .i64 b1], 28, true⟩]) ST (fun S => St.put (St.put S 0 (0) (.int .i64 (loH h a)) rfl) 0 (1) (.int .i64 (hiH h a)) rfl) ?_; clear ST HC; intro w ST HC; simp only [Rd] at HC))
 clear e0 e1
 go_upto_region 8 with (first | ((with_reducible refine gate_dst (N := 8) rfl ?_); refine evA ST (N := 8) (cs := #[.slice none 0 0, .slice none 0 0, .slice none 0 0, .int .i64 0, .int .i64 0]) (t := 28) ?_; clear ST HC; intro g8 w ST HC; simp only [Rd] at HC) | ((with_reducible refine gate_store (p := 8) (v := (.tmp 42)) rfl ?_); refine evS (L' := [⟨g8, #[.slice (some ad) h.length c0, .slice A1 s.length c1, .slice A2 p.length c2, .int .i64 b0, .int .i64 b1], 28, true⟩, ⟨g7, #[.int .i64 (loH h a), .int .i64 (hiH h a)], 26, true⟩, ⟨g3, #[.int .i64 n0, .int .i64 n1, .int .i64 n2, .int .i64 n3], 38, true⟩, ⟨g2, #[.slice (some ad) h.length c0, .slice A1 s.length c1, .slice A2 p.length c2, .int .i64 b0, .int .i64 b1], 28, true⟩]) ST (fun S => St.put (St.put (St.put (St.put (St.put S 0 (0) (.slice (some ad) h.length c0) rfl) 0 (1) (.slice A1 s.length c1) rfl) 0 (2) (.slice A2 p.length c2) rfl) 0 (3) (.int .i64 b0) rfl) 0 (4) (.int .i64 b1) rfl) ?_; clear ST HC; intro w ST HC; simp only [Rd] at HC) | ((with_reducible refine gate_dst (N := 43) rfl ?_); refine evLit ST (e := 26) ?_; clear ST HC; intro g43 w ST HC; simp only [Rd] at HC) | ((with_reducible refine gate_dst (N := 46) rfl ?_); refine evCopy ST (Kd.C_below H.out.d0 ST.out.below) hn ?_; clear ST HC; intro g46 cap cur w hrow hcap ST HC; simp only [Rd] at HC; have hq := hrow a ha; have HQ := zh hrow; clear hrow; obtain ⟨hq0, hq1⟩ := hq) | ((with_reducible refine gate_store (p := 47) (v := (.tmp 46)) rfl ?_); refine evS (L' := [⟨g46, cur, 26, true⟩, ⟨g8, #[.slice (some ⟨g46, 0, none⟩) h.length cap, .slice A1 s.length c1, .slice A2 p.length c2, .int .i64 b0, .int .i64 b1], 28, true⟩, ⟨g7, #[.int .i64 (loH h a), .int .i64 (hiH h a)], 26, true⟩, ⟨g3, #[.int .i64 n0, .int .i64 n1, .int .i64 n2, .int .i64 n3], 38, true⟩, ⟨g2, #[.slice (some ad) h.length c0, .slice A1 s.length c1, .slice A2 p.length c2, .int .i64 b0, .int .i64 b1], 28, true⟩]) ST (fun S => St.put S 1 (0) (.slice (some ⟨g46, 0, none⟩) h.length cap) rfl) ?_; clear ST HC; intro w ST HC; simp only [Rd] at HC) | ((with_reducible refine gate_dst (N := 51) rfl ?_); refine evC ST (N := some 51) (cDraw (loH h a) (hiH h a) n1 HX1) ?_ Tryd.func45; clear ST HC; intro w ST HC; simp only [Rd] at HC))
 refine zI (E := fun _ => True) (n := 14) (ds := [13]) ST (fun _ _ => trivial) r9.tab8 r9.bits8 ?_
 clear ST HC
 intro w ST HC HT_ HW_ HE_
 simp only [Rd] at HC
 refine zu 0 ?_
 refine zu 2 ?_
 refine zu 3 ?_
 refine zu 4 ?_
 refine zu 5 ?_
 refine zu 8 ?_
 refine zL 1 ST ?_
 refine zL 6 ST ?_
 refine zL 9 ST ?_
 refine zG 7 ST (cBand x (hiH h a)) ?_ Tryd.func42
 clear ST HC
 intro w ST HC
 simp only [Rd] at HC
 refine zG 10 ST (cDraw x (hiH h a) n3 HY1) ?_ Tryd.func45
 clear ST HC
 intro w ST HC
 simp only [Rd] at HC
 refine zG 11 ST (cBand x y) ?_ Tryd.func42
 clear ST HC
 intro w ST HC
 simp only [Rd] at HC
 refine zu 12 ?_
 refine zS 13 (L' := [⟨g46, ((cur.setIfInBounds (a * 2) (.int .i64 x)).setIfInBounds (a * 2 + 1) (.int .i64 y)), 26, true⟩, ⟨g8, #[.slice (some ⟨g46, 0, none⟩) h.length cap, .slice A1 s.length c1, .slice A2 p.length c2, .int .i64 b0, .int .i64 b1], 28, true⟩, ⟨g7, #[.int .i64 (loH h a), .int .i64 (hiH h a)], 26, true⟩, ⟨g3, #[.int .i64 n0, .int .i64 n1, .int .i64 n2, .int .i64 n3], 38, true⟩, ⟨g2, #[.slice (some ad) h.length c0, .slice A1 s.length c1, .slice A2 p.length c2, .int .i64 b0, .int .i64 b1], 28, true⟩]) ST (fun S => St.put (St.put S 0 (a * 2) (.int .i64 x) rfl) 0 (a * 2 + 1) (.int .i64 y) rfl) ?_
 clear ST HC
 intro w ST HC
 simp only [Rd] at HC
 refine zd ?_
 clear HT_ HW_ HE_ hq0 hq1
 go_upto_region 9 with (fail)
 refine zI (E := fun w_ => w_.cell? (ad.add (b * 2)) = some (.int .i64 (loH h b)) ∧ w_.cell? ⟨(ad.add (b * 2)).block, (ad.add (b * 2)).off + 1, none⟩ = some (.int .i64 (hiH h b))) (n := 9) (ds := []) ST (fun W hW => (H.out.below hW).heard hb) r9.tab9 r9.bits9 ?_
 clear ST HC
 intro w ST HC HT_ HW_ HE_
 simp only [Rd] at HC
 refine zu 0 ?_
 refine zu 2 ?_
 refine zu 5 ?_
 refine zL 1 ST ?_
 refine zu 3 ?_
 refine zL 4 ST ?_
 refine zL 6 ST ?_
 refine zG 7 ST (cDraw (loH h b) (hiH h b) n3 HT1) ?_ Tryd.func45
 clear ST HC
 intro w ST HC
 simp only [Rd] at HC
 refine zu 8 ?_
 refine zd ?_
 clear HT_ HW_ HE_
 have HB0 := zh ST.out.below
 have e2 : h2.length = h.length := by rw [← HS2.out, List.length_set]
 have HX : Aside0 (At (some ⟨g46, 0, none⟩) cap h2 A1 c1 s A2 c2 p w) := ⟨(H.out.below ST.out.below).row ST.out.blks.1 (by rw [← HS2.out]; exact HQ.out.set a x y ha) e2 hn.2 hcap⟩
 replace H := zh (H.out.below ST.out.below)
 replace ST : Aside0 (St w w [⟨g46, ((cur.setIfInBounds (a * 2) (.int .i64 x)).setIfInBounds (a * 2 + 1) (.int .i64 y)), 26, false⟩, ⟨g8, #[.slice (some ⟨g46, 0, none⟩) h2.length cap, .slice A1 s.length c1, .slice A2 p.length c2, .int .i64 b0, .int .i64 b1], 28, false⟩, ⟨g7, #[.int .i64 (loH h a), .int .i64 (hiH h a)], 26, false⟩, ⟨g3, #[.int .i64 n0, .int .i64 n1, .int .i64 n2, .int .i64 n3], 38, false⟩, ⟨g2, #[.slice (some ad) h.length c0, .slice A1 s.length c1, .slice A2 p.length c2, .int .i64 b0, .int .i64 b1], 28, false⟩]) := by rw [e2]; exact St.anew ST
 clear HC e2 HQ
 have HC := St.rd ST
 simp only [Rd] at HC
 go_upto_region 15 with (first | ((with_reducible refine gate_dst (N := 76) rfl ?_); refine evC ST (N := some 76) (cPitch H HP) ?_ Tryd.func23; clear ST HC; intro w ST HC; simp only [Rd] at HC) | ((with_reducible refine gate_dst (N := 11) rfl ?_); refine evA ST (N := 11) (cs := #[.int .i64 0, .int .i64 0]) (t := 26) ?_; clear ST HC; intro g11 w ST HC; simp only [Rd] at HC) | ((with_reducible refine gate_store (p := 11) (v := (.tmp 77)) rfl ?_); refine evS (L' := [⟨g11, #[.int .i64 p0, .int .i64 p1], 26, true⟩, ⟨g46, ((cur.setIfInBounds (a * 2) (.int .i64 x)).setIfInBounds (a * 2 + 1) (.int .i64 y)), 26, false⟩, ⟨g8, #[.slice (some ⟨g46, 0, none⟩) h2.length cap, .slice A1 s.length c1, .slice A2 p.length c2, .int .i64 b0, .int .i64 b1], 28, false⟩, ⟨g7, #[.int .i64 (loH h a), .int .i64 (hiH h a)], 26, false⟩, ⟨g3, #[.int .i64 n0, .int .i64 n1, .int .i64 n2, .int .i64 n3], 38, false⟩, ⟨g2, #[.slice (some ad) h.length c0, .slice A1 s.length c1, .slice A2 p.length c2, .int .i64 b0, .int .i64 b1], 28, false⟩]) ST (fun S => St.put (St.put S 0 (0) (.int .i64 p0) rfl) 0 (1) (.int .i64 p1) rfl) ?_; clear ST HC; intro w ST HC; simp only [Rd] at HC) | ((with_reducible refine gate_dst (N := 82) rfl ?_); refine evC ST (N := some 82) (cPitch HX HQ2) ?_ Tryd.func23; clear ST HC; intro w ST HC; simp only [Rd] at HC) | ((with_reducible refine gate_dst (N := 13) rfl ?_); refine evA ST (N := 13) (cs := #[.int .i64 0, .int .i64 0]) (t := 26) ?_; clear ST HC; intro g13 w ST HC; simp only [Rd] at HC) | ((with_reducible refine gate_store (p := 13) (v := (.tmp 83)) rfl ?_); refine evS (L' := [⟨g13, #[.int .i64 q0, .int .i64 q1], 26, true⟩, ⟨g11, #[.int .i64 p0, .int .i64 p1], 26, true⟩, ⟨g46, ((cur.setIfInBounds (a * 2) (.int .i64 x)).setIfInBounds (a * 2 + 1) (.int .i64 y)), 26, false⟩, ⟨g8, #[.slice (some ⟨g46, 0, none⟩) h2.length cap, .slice A1 s.length c1, .slice A2 p.length c2, .int .i64 b0, .int .i64 b1], 28, false⟩, ⟨g7, #[.int .i64 (loH h a), .int .i64 (hiH h a)], 26, false⟩, ⟨g3, #[.int .i64 n0, .int .i64 n1, .int .i64 n2, .int .i64 n3], 38, false⟩, ⟨g2, #[.slice (some ad) h.length c0, .slice A1 s.length c1, .slice A2 p.length c2, .int .i64 b0, .int .i64 b1], 28, false⟩]) ST (fun S => St.put (St.put S 0 (0) (.int .i64 q0) rfl) 0 (1) (.int .i64 q1) rfl) ?_; clear ST HC; intro w ST HC; simp only [Rd] at HC) | ((with_reducible refine gate_dst (N := 89) rfl ?_); refine evC ST (N := some 89) (cCan H HC1) ?_ Tryd.func25; clear ST HC; intro w ST HC; simp only [Rd] at HC) | ((with_reducible refine gate_dst (N := 96) rfl ?_); refine evC ST (N := some 96) (cCan HX HC2) ?_ Tryd.func25; clear ST HC; intro w ST HC; simp only [Rd] at HC) | ((with_reducible refine gate_dst (N := 103) rfl ?_); refine evX ST (N := some 103) (F := fun v : Nat × Nat => .agg (sc (some ⟨v.1, 0, none⟩) v.2 h3 A1 c1 s A2 c2 p b0 b1)) (cJust (b0 := b0) (b1 := b1) H HS3 hb hn) ?_ Tryd.func44; clear ST HC; intro v w HJ ST HC; have HB1 := zh ST.out.below; replace HJ := zh HJ; replace H := zh (H.out.below ST.out.below); replace ST : Aside0 (St w w [⟨g13, #[.int .i64 q0, .int .i64 q1], 26, false⟩, ⟨g11, #[.int .i64 p0, .int .i64 p1], 26, false⟩, ⟨g46, ((cur.setIfInBounds (a * 2) (.int .i64 x)).setIfInBounds (a * 2 + 1) (.int .i64 y)), 26, false⟩, ⟨g8, #[.slice (some ⟨g46, 0, none⟩) h2.length cap, .slice A1 s.length c1, .slice A2 p.length c2, .int .i64 b0, .int .i64 b1], 28, false⟩, ⟨g7, #[.int .i64 (loH h a), .int .i64 (hiH h a)], 26, false⟩, ⟨g3, #[.int .i64 n0, .int .i64 n1, .int .i64 n2, .int .i64 n3], 38, false⟩, ⟨g2, #[.slice (some ad) h.length c0, .slice A1 s.length c1, .slice A2 p.length c2, .int .i64 b0, .int .i64 b1], 28, false⟩]) := St.anew ST; simp only [Rd] at HC) | ((with_reducible refine gate_dst (N := 104) rfl ?_); refine evX ST (N := some 104) (F := fun v => .tuple #[v, .int .i64 J]) (cTuning HJ HJT) ?_ Tryd.func20; clear ST HC; intro _ w _ ST HC; simp only [Rd] at HC) | ((with_reducible refine gate_dst (N := 124) rfl ?_); refine gate_guard (by rfl) ?_; refine evC ST (N := some 124) (cUnder q0 q1 p0 p1 HU) ?_ Tryd.func41; clear ST HC; intro w ST HC; simp only [Rd] at HC) | ((with_reducible refine gate_dst (N := 157) rfl ?_); refine gate_guard (by rfl) ?_; refine evC ST (N := some 157) (cPlayed H) ?_ Tryd.func22; clear ST HC; intro w ST HC; simp only [Rd] at HC))
 rcases hcase with ⟨rfl, rfl, rfl, rfl, rfl, HU⟩ | ⟨rfl, rfl, rfl, rfl, rfl, HU⟩ | ⟨rfl, rfl, rfl, rfl, rfl, HU⟩ | ⟨rfl, rfl, rfl, rfl, rfl⟩ | ⟨rfl, rfl, rfl, rfl, rfl⟩ | ⟨rfl, rfl, rfl, rfl, rfl⟩
 all_goals
  go_wp2_with (first | ((with_reducible refine gate_dst (N := 124) rfl ?_); refine gate_guard (by rfl) ?_; refine evC ST (N := some 124) (cUnder q0 q1 p0 p1 HU) ?_ Tryd.func41; clear ST HC; intro w ST HC; simp only [Rd] at HC) | ((with_reducible refine gate_dst (N := 157) rfl ?_); refine gate_guard (by rfl) ?_; refine evC ST (N := some 157) (cPlayed H) ?_ Tryd.func22; clear ST HC; intro w ST HC; simp only [Rd] at HC))
  go_ret
  exact ⟨rfl, below_step HB0.out (below_step HB1.out ST.out.below)⟩
end
end Go.Proofs.YtgehkojccmkggaaDoor.K
end
section
namespace Go.Proofs.YtgehkojccmkggaaDoor.K
open Go.RowKit Go.Shelf Go.Proofs.YtgehkojccmkggaaDoorW.PrintWords Go.Proofs.YtgehkojccmkggaaDoorW.PrintLast Go.Proofs.YtgehkojccmkggaaDoorW.PrintMore Go.Proofs.YtgehkojccmkggaaDoor.H Tune
set_option linter.unusedVariables false
set_option linter.unusedSimpArgs false
attribute [local go_sem] Oper.semAt_some
def Tg (h : List S26) (s : List S61) (p : List S48) (B : Int × Int) (l : Nat → Int) : Prop := (∀ x, x < h.length → loH h x ≤ l x ∧ l x ≤ hiH h x) ∧ AllFit s p noLeft B l
section
variable {h : List S26} {s : List S61} {p : List S48} {b0 b1 : Int}
theorem Tg_iff (hc : checkT h s p b0 b1 = 0) (l : Nat → Int) : TunS h (jsOf h s p b0 b1) (b0, b1) l ↔ Tg h s p (b0, b1) l := TunS_plain hc _ _
theorem asked_g (hc : checkT h s p b0 b1 = 0) : (askedE h s p b0 b1 true = 0 ∧ ∃ l, Tg h s p (b0, b1) l) ∨ (askedE h s p b0 b1 true = 12 ∧ ¬ ∃ l, Tg h s p (b0, b1) l) := by
 have F := (fine_of hc).1
 have e : (tunS h (jsOf h s p b0 b1) noLeft (b0, b1) [] = true) ↔ ∃ l, Tg h s p (b0, b1) l := (tun_some F).trans (exists_congr fun l => Tg_iff hc l)
 unfold askedE
 rw [if_neg (fun e => e hc), if_neg (by decide)]
 by_cases ht : tunS h (jsOf h s p b0 b1) noLeft (b0, b1) [] = true
 ·rw [if_pos ht]; exact .inl ⟨rfl, e.1 ht⟩
 ·rw [if_neg ht]; exact .inr ⟨rfl, fun h9 => ht (e.2 h9)⟩
theorem inK_nat' {n k : Nat} (h : k < n) : inK n (k : Int) = true := by unfold inK; rw [decide_eq_true (by omega), decide_eq_true (by omega)]; rfl
theorem pitch_f (hsm : small h s p = true) {k : Nat} (hk : k < h.length) {E : Int} (hE : askedE h s p b0 b1 true = E) : tune_Pitch.f h s p b0 b1 (k : Int) = some ((pitchT h s p b0 b1 k).1, (pitchT h s p b0 b1 k).2, E) := by
 unfold tune_Pitch.f
 rw [if_pos hsm, inK_nat' hk, hE]
theorem pitch_g (hc : checkT h s p b0 b1 = 0) {k : Nat} (hk : k < h.length) (hE : askedE h s p b0 b1 true = 0) :
  (∀ l, Tg h s p (b0, b1) l → (pitchT h s p b0 b1 k).1 ≤ l k ∧ l k ≤ (pitchT h s p b0 b1 k).2) ∧ (∃ l, Tg h s p (b0, b1) l ∧ l k = (pitchT h s p b0 b1 k).1) ∧ ∃ l, Tg h s p (b0, b1) l ∧ l k = (pitchT h s p b0 b1 k).2 := by
 have F := (fine_of hc).1
 obtain ⟨_, _, hT⟩ := askedE_ok hE
 have hn := pitL_some F hk hT
 have hs := pitL_sorted h (jsOf h s p b0 b1) (b0, b1) k
 have hmem : ∀ q, q ∈ pitL h (jsOf h s p b0 b1) (b0, b1) k ↔ ∃ l, Tg h s p (b0, b1) l ∧ l k = q := fun q => by
  rw [mem_pitL, pit_iff F hk]
  constructor
  ·rintro ⟨_, _, l, hl, e⟩
   exact ⟨l, (Tg_iff hc l).1 hl, e⟩
  ·rintro ⟨l, hl, e⟩
   have h1 := hl.1 k hk
   exact ⟨by omega, by omega, l, (Tg_iff hc l).2 hl, e⟩
 unfold pitchT
 rw [inK_nat' hk, if_pos hE, Int.toNat_natCast]
 generalize pitL h (jsOf h s p b0 b1) (b0, b1) k = L at hn hs hmem ⊢
 have e0 : L.getD 0 0 = L[0] := by simp [List.getD_eq_getElem?_getD, hn]
 have e1 : L.getD (L.length - 1) 0 = L[L.length - 1]'(by omega) := by simp [List.getD_eq_getElem?_getD, show L.length - 1 < L.length by omega]
 refine ⟨fun l hl => ?_, (hmem _).1 ?_, (hmem _).1 ?_⟩
 ·obtain ⟨i, hi, ei⟩ := List.getElem_of_mem ((hmem (l k)).2 ⟨l, hl, rfl⟩)
  rw [List.pairwise_iff_getElem] at hs
  dsimp only
  rw [e0, e1, ← ei]
  constructor
  ·by_cases h0 : i = 0
   ·subst h0; exact Int.le_refl _
   ·exact Int.le_of_lt (hs 0 i hn hi (by omega))
  ·by_cases h0 : i = L.length - 1
   ·subst h0; exact Int.le_refl _
   ·exact Int.le_of_lt (hs i (L.length - 1) hi (by omega) (by omega))
 ·dsimp only; rw [e0]; exact List.getElem_mem _
 ·dsimp only; rw [e1]; exact List.getElem_mem _
theorem can_f (hsm : small h s p = true) (hc : checkT h s p b0 b1 = 0) {k : Nat} (hk : k < h.length) (q : Int) {E : Int} (hE : askedE h s p b0 b1 true = E) : ∃ r : Bool, tune_Can.f h s p b0 b1 (k : Int) q = some (r, E) ∧ (r = true ↔ ∃ l, Tg h s p (b0, b1) l ∧ l k = q) := by
 have F := (fine_of hc).1
 refine ⟨_, by unfold tune_Can.f; rw [if_pos hsm, inK_nat' hk, hE], ?_⟩
 have key : tunS h (jsOf h s p b0 b1) noLeft (b0, b1) [((k : Int), q)] = true ↔ ∃ l, Tg h s p (b0, b1) l ∧ l k = q := (pit_iff F hk).trans (exists_congr fun l => and_congr (Tg_iff hc l) Iff.rfl)
 unfold canB
 rw [inK_nat' hk, Bool.and_eq_true, key, decide_eq_true_eq]
 refine ⟨fun h9 => h9.2, fun h9 => ⟨?_, h9⟩⟩
 rcases asked_g hc with ⟨h1, _⟩ | ⟨_, h1⟩
 ·exact h1
 ·obtain ⟨l, hl, _⟩ := h9
  exact absurd ⟨l, hl⟩ h1
theorem tuning_g (hsm : small h s p = true) {E : Int} (hE : askedE h s p b0 b1 true = E) : ∃ r, tune_Tuning.f h s p b0 b1 = some (r, E) := ⟨_, by unfold tune_Tuning.f; rw [if_pos hsm, hE]⟩
theorem set_lo {a : Nat} (ha : a < h.length) (x y : Int) (k : Nat) : loH (h.set a ⟨x, y⟩) k = (if k = a then x else loH h k) ∧ hiH (h.set a ⟨x, y⟩) k = (if k = a then y else hiH h k) := by
 unfold loH hiH
 by_cases e : k = a
 ·subst e
  rw [if_pos rfl, if_pos rfl, show (h.set k ⟨x, y⟩).getD k z26 = ⟨x, y⟩ by simp [List.getD_eq_getElem?_getD, ha]]
  exact ⟨rfl, rfl⟩
 ·rw [if_neg e, if_neg e, show (h.set a ⟨x, y⟩).getD k z26 = h.getD k z26 by simp [List.getD_eq_getElem?_getD, List.getElem?_set, Ne.symm e]]
  exact ⟨rfl, rfl⟩
theorem check_set (hc : checkT h s p b0 b1 = 0) {a : Nat} {x y : Int} (ha : a < h.length) (h1 : 1 ≤ x) (h2 : x ≤ y) (h3 : y ≤ 4000) (h4 : y - x ≤ 40) : checkT (h.set a ⟨x, y⟩) s p b0 b1 = 0 := by
 obtain ⟨⟨a1, a2, a3, a4⟩, a5⟩ := check_iff.1 hc
 refine check_iff.2 ⟨⟨?_, ?_, a3, by rw [List.length_set]; exact a4⟩, a5⟩
 ·unfold ok0 at a1 ⊢
  rw [List.length_set]
  exact a1
 ·rw [List.all_eq_true] at a2 ⊢
  intro z hz
  rcases List.mem_or_eq_of_mem_set hz with hz | rfl
  ·exact a2 z hz
  ·unfold okHeard okSpan
   simp only [Bool.and_eq_true, decide_eq_true_eq]
   omega
theorem small_set (hsm : small h s p = true) (a : Nat) (v : S26) : small (h.set a v) s p = true := by unfold small at hsm ⊢; rw [List.length_set]; exact hsm
theorem Tg_set {a : Nat} (ha : a < h.length) {x y : Int} (h1 : loH h a ≤ x) (h2 : y ≤ hiH h a) (B : Int × Int) (l : Nat → Int) : Tg (h.set a ⟨x, y⟩) s p B l ↔ Tg h s p B l ∧ x ≤ l a ∧ l a ≤ y := by
 unfold Tg
 rw [List.length_set]
 constructor
 ·rintro ⟨g1, g2⟩
  have g3 := g1 a ha
  rw [(set_lo ha x y a).1, (set_lo ha x y a).2, if_pos rfl, if_pos rfl] at g3
  refine ⟨⟨fun k hk => ?_, g2⟩, g3⟩
  have g4 := g1 k hk
  rw [(set_lo ha x y k).1, (set_lo ha x y k).2] at g4
  by_cases e : k = a
  ·subst e; omega
  ·rw [if_neg e, if_neg e] at g4; exact g4
 ·rintro ⟨⟨g1, g2⟩, g3⟩
  refine ⟨fun k hk => ?_, g2⟩
  rw [(set_lo ha x y k).1, (set_lo ha x y k).2]
  by_cases e : k = a
  ·subst e; rw [if_pos rfl, if_pos rfl]; exact g3
  ·rw [if_neg e, if_neg e]; exact g1 k hk
end
end Go.Proofs.YtgehkojccmkggaaDoor.K
end
section
namespace Go.Proofs.YtgehkojccmkggaaDoor.K
open Go.RowKit Go.Shelf Go.Proofs.YtgehkojccmkggaaDoorW.PrintWords Go.Proofs.YtgehkojccmkggaaDoorW.PrintLast Go.Proofs.YtgehkojccmkggaaDoorW.PrintMore Go.Proofs.YtgehkojccmkggaaDoor.H Tune
set_option linter.unusedVariables false
set_option linter.unusedSimpArgs false
attribute [local go_sem] Oper.semAt_some
theorem tuneNarrower_true {A0 : Option Addr} {c0 : Nat} {h : List S26} {A1 : Option Addr} {c1 : Nat} {s : List S61} {A2 : Option Addr} {c2 : Nat} {p : List S48} {w : World} {b0 b1 : Int} (n0 n1 n2 n3 : Int) (H : At A0 c0 h A1 c1 s A2 c2 p w) :
  Calls Tryd.prog 9 #[.agg #[.slice A0 h.length c0, .slice A1 s.length c1, .slice A2 p.length c2, .int .i64 b0, .int .i64 b1], .agg #[.int .i64 n0, .int .i64 n1, .int .i64 n2, .int .i64 n3]] w fun e w' => e = .returned (.bool true) ∧ Below w.heap.size w w' := by
 have hsm := H.sm
 by_cases hc : checkT h s p b0 b1 = 0
 ·obtain ⟨F, _⟩ := fine_of hc
  have hn : 0 < h.length ∧ h.length ≤ 8 := ⟨F.some, F.few⟩
  obtain ⟨ad, rfl⟩ := H.addr hn.1
  obtain ⟨a, ha, ea⟩ := turn_at n0 h.length F.some (by omega)
  obtain ⟨b, hb, eb⟩ := turn_at n2 h.length F.some (by omega)
  have sa := F.span a ha
  have sb := F.span b hb
  obtain ⟨x, hx, x1, x2⟩ := draw_in (loH h a) (hiH h a) n1 (by omega) (by omega) (by omega)
  obtain ⟨y, hy, y1, y2⟩ := draw_in x (hiH h a) n3 (by omega) x2 (by omega)
  obtain ⟨z, hz, z1, z2⟩ := draw_in (loH h b) (hiH h b) n3 (by omega) (by omega) (by omega)
  have hd : checkT (h.set a ⟨x, y⟩) s p b0 b1 = 0 := check_set hc ha (by omega) y1 (by omega) (by omega)
  have hj : checkT (h.set b ⟨z, z⟩) s p b0 b1 = 0 := check_set hc hb (by omega) (Int.le_refl _) (by omega) (by omega)
  have T2 := fun l => Tg_set (s := s) (p := p) ha x1 y2 (b0, b1) l
  have T3 := fun l => Tg_set (s := s) (p := p) hb z1 z2 (b0, b1) l
  have hb2 : b < (h.set a ⟨x, y⟩).length := by rw [List.length_set]; exact hb
  have A1 := asked_g hc
  have A2 := asked_g hd
  have A3 := asked_g hj
  obtain ⟨E1, g1⟩ : ∃ E, askedE h s p b0 b1 true = E := ⟨_, rfl⟩
  obtain ⟨E2, g2⟩ : ∃ E, askedE (h.set a ⟨x, y⟩) s p b0 b1 true = E := ⟨_, rfl⟩
  obtain ⟨J, g3⟩ : ∃ E, askedE (h.set b ⟨z, z⟩) s p b0 b1 true = E := ⟨_, rfl⟩
  obtain ⟨is, i1, i2⟩ := can_f hsm hc hb z g1
  obtain ⟨so, j1, j2⟩ := can_f (small_set hsm a ⟨x, y⟩) hd hb2 z g2
  obtain ⟨r, r1⟩ := tuning_g (small_set hsm b ⟨z, z⟩) g3
  refine narrow_B ⟨H⟩ (decide_eq_true hc) ha hb hn ⟨ea⟩ ⟨eb⟩ ⟨hx⟩ ⟨hy⟩ ⟨hz⟩ ⟨rfl⟩ ⟨rfl⟩ ⟨pitch_f hsm hb g1⟩ ⟨pitch_f (small_set hsm a ⟨x, y⟩) hb2 g2⟩ ⟨i1⟩ ⟨j1⟩ ⟨r1⟩ ?_
  rw [g1] at A1
  rw [g2] at A2
  rw [g3] at A3
  have hJ : (is = true ∧ J = 0) ∨ (is = false ∧ J = 12) := by
   rcases A3 with ⟨e, l, hl⟩ | ⟨e, hno⟩
   ·have h9 := (T3 l).1 hl
    exact .inl ⟨i2.2 ⟨l, h9.1, by omega⟩, e⟩
   ·refine .inr ⟨?_, e⟩
    cases is with
    | false => rfl
    | true =>
     obtain ⟨l, hl, el⟩ := i2.1 rfl
     exact absurd ⟨l, (T3 l).2 ⟨hl, by omega, by omega⟩⟩ hno
  have hso : so = true → is = true := fun e => by
   obtain ⟨l, hl, el⟩ := j2.1 e
   exact i2.2 ⟨l, ((T2 l).1 hl).1, el⟩
  rcases A1 with ⟨e1, l1, hl1⟩ | ⟨e1, hno1⟩
  ·rcases A2 with ⟨e2, l2, hl2⟩ | ⟨e2, hno2⟩
   ·have hU : saronref00_Under.f (pitchT (h.set a ⟨x, y⟩) s p b0 b1 b).1 (pitchT (h.set a ⟨x, y⟩) s p b0 b1 b).2 (pitchT h s p b0 b1 b).1 (pitchT h s p b0 b1 b).2 = some true := by
     obtain ⟨q1, _, _⟩ := pitch_g hc hb (g1.trans e1)
     obtain ⟨_, ⟨l3, q2, q3⟩, ⟨l4, q4, q5⟩⟩ := pitch_g hd hb2 (g2.trans e2)
     have u1 := q1 l3 ((T2 l3).1 q2).1
     have u2 := q1 l4 ((T2 l4).1 q4).1
     unfold saronref00_Under.f
     rw [if_pos (by omega), decide_eq_true (by omega)]
    cases so with
    | true =>
     rcases hJ with ⟨k1, k2⟩ | ⟨k1, k2⟩
     ·exact .inl ⟨e1, e2, k1, rfl, k2, hU⟩
     ·rw [hso rfl] at k1; cases k1
    | false =>
     rcases hJ with ⟨k1, k2⟩ | ⟨k1, k2⟩
     ·exact .inr (.inl ⟨e1, e2, k1, rfl, k2, hU⟩)
     ·exact .inr (.inr (.inl ⟨e1, e2, k1, rfl, k2, hU⟩))
   ·have so0 : so = false := by
     cases so with
     | false => rfl
     | true => obtain ⟨l, hl, _⟩ := j2.1 rfl; exact absurd ⟨l, hl⟩ hno2
    rcases hJ with ⟨k1, k2⟩ | ⟨k1, k2⟩
    ·exact .inr (.inr (.inr (.inl ⟨e1, e2, k1, so0, k2⟩)))
    ·exact .inr (.inr (.inr (.inr (.inl ⟨e1, e2, k1, so0, k2⟩))))
  ·have e2 : E2 = 12 := by
    rcases A2 with ⟨_, l2, hl2⟩ | ⟨e2, _⟩
    ·exact absurd ⟨l2, ((T2 l2).1 hl2).1⟩ hno1
    ·exact e2
   have is0 : is = false := by
    cases is with
    | false => rfl
    | true => obtain ⟨l, hl, _⟩ := i2.1 rfl; exact absurd ⟨l, hl⟩ hno1
   have so0 : so = false := by
    cases so with
    | false => rfl
    | true => rw [hso rfl] at is0; cases is0
   rcases hJ with ⟨k1, _⟩ | ⟨k1, k2⟩
   ·rw [is0] at k1; cases k1
   ·exact .inr (.inr (.inr (.inr (.inr ⟨e1, e2, is0, so0, k2⟩))))
 ·exact narrow_A ⟨H⟩ (decide_eq_false hc)
end Go.Proofs.YtgehkojccmkggaaDoor.K
end
section
namespace Go.Proofs.YtgehkojccmkggaaDoor.tuneNarrower
open Go.ChangeShapes Go.WideShapes Go.ChangeAt Go.RowKit Go.Proofs.YtgehkojccmkggaaDoorW.PrintWords Go.Proofs.YtgehkojccmkggaaDoor.H Go.Proofs.YtgehkojccmkggaaDoor.K
set_option linter.unusedVariables false
theorem own : ownKnob Tryd.prog.godebug = none := by kernel_rfl
theorem laidOut : laidOutB Tryd.prog = true := by kernel_rfl
abbrev zeros : Array Value := #[.agg #[.slice none 0 0, .slice none 0 0, .slice none 0 0, .int .i64 0, .int .i64 0], .agg #[.int .i64 0, .int .i64 0, .int .i64 0, .int .i64 0]]
theorem door_met (os : Os) (args : Array Value) : laidMetH Tryd.prog laid1 ((World.doorLaid Tryd.prog 600 os).forCall (fun _ _ => 0) ⟨#[], args, []⟩).memory :=
 laidMetH_of_parts3 (fuel := 8) (laidMet_of_run' 8 zk zk) zk zk
set_option maxRecDepth 100000 in
set_option maxHeartbeats 2000000 in
theorem lifted (os : Os) (started : os.Started) (H : Type) (enc : TypeId × Value → H) (F : Stop.Interp) :
  ReturnsInHanded {} Tryd.checked os 9 .any ((Rows.OpenSpec.upto Rows.tuneNarrowerSpec).preRow enc Tryd.prog Tryd.f9 Rows.tuneNarrowerUptoRow.domain false Rows.tuneNarrowerUptoRow.laid) (((Rows.OpenSpec.upto Rows.tuneNarrowerSpec).at F).post enc Tryd.prog Tryd.f9 false true false false) := by
 refine returnsInHanded_of_row (C := Tryd.checked) (s := Rows.OpenSpec.upto Rows.tuneNarrowerSpec) own started zk Tryd.func9
  (witness_row_at (enc := enc) (C := Tryd.checked) false (World.doorLaid Tryd.prog 600 os) zeros rfl zk zk zk
   (OpenSpec.preRow_of_cond (x := ([.agg [.nil, .nil, .nil, .agg [.lit (.int .i64 0), .lit (.int .i64 0)]], .agg [.lit (.int .i64 0), .lit (.int .i64 0), .lit (.int .i64 0), .lit (.int .i64 0)]], [], [])) 8 zk zk (fun k hk => by cases hk; kernel_rfl) zk (door_met os _))) ?_
 intro W base args ds gs before hval0 hW _ hcond _ hL _ _
 have hval : ∀ (j : Nat) t v, Tryd.f9.params[j]? = some t → args[j]? = some v → Value.okWide Tryd.prog W .any base t v := hval0
 have hbulk : Rows.uptoBulkAll (ds ++ gs) ≤ 1048576 := of_decide_eq_true (hcond _ rfl)
 have hW' := hW
 obtain ⟨p, q, hA0, hV, rfl, hfz, hnd⟩ := hW
 have hA : DataW.TrodAll enc Tryd.prog W 0 (fun _ => true) true Tryd.f9.params.toList args.toList ds p := hA0
 rw [Tryd.params9] at hA hval
 obtain ⟨v0, vs0, d0, ds0, p0, q0, hargs, rfl, rfl, h0, r0⟩ := trodAll_cons hA
 obtain ⟨v1, vs1, d1, ds1, p1, q1, rfl, rfl, rfl, h1, r1⟩ := trodAll_cons r0
 obtain ⟨rfl, rfl, rfl⟩ := trodAll_nil r1
 obtain rfl : args = #[v0, v1] := by cases args; simp_all
 obtain ⟨rfl, rfl⟩ := trodVars_none hV
 have hb0 : Rows.uptoBulk d0 ≤ 1048576 := by
  simp only [List.append_nil, Rows.uptoBulkAll] at hbulk
  omega
 have hb1 : Rows.uptoBulk d1 ≤ 1048576 := by
  simp only [List.append_nil, Rows.uptoBulkAll] at hbulk
  omega
 have k0 := h0
 have lt0 : ∀ x ∈ p0, x.block < W.heap.size := by obtain ⟨m, hm⟩ := k0; exact DataW.trod_lt m _ _ _ hm
 obtain ⟨A0, c0, l0, A1, c1, l1, A2, c2, l2, b0, b1, rfl, hc0, hC0, hc1, hC1, hc2, hC2, hs⟩ := arg_set (hval 0 28 v0 rfl rfl) h0 hb0
 have k1 := h1
 have lt1 : ∀ x ∈ p1, x.block < W.heap.size := by obtain ⟨m, hm⟩ := k1; exact DataW.trod_lt m _ _ _ hm
 obtain ⟨n0, n1, n2, n3, rfl, _, _, _, _⟩ := arg_four (hval 1 38 v1 rfl rfl) h1
 clear hA0 hval0
 have hG := glob_of_laid hL
 refine (tuneNarrower_true n0 n1 n2 n3 ⟨hs, hG, hC0, hc0, hC1, hc1, hC2, hc2⟩).mono fun e W' ⟨he, bel⟩ => ?_
 subst he
 exact ⟨_, rfl, _, _, _, [], _, [], hW', trodAll_mk1 (shut_bool Tryd.underlying4 _), (trodAll_cons_mk (Below.trod laidOut zk (of_decide_eq_true zk) k0 bel lt0) (trodAll_cons_mk (Below.trod laidOut zk (of_decide_eq_true zk) k1 bel lt1) trodAll_mk0)), rfl, bel.frame _, fun h => by cases h⟩
theorem over : Rows.TuneNarrowerUptoSaid :=
 OpenClaim.holds_of_cond 9 Tryd.f9 rfl rfl rfl rfl rfl rfl rfl ⟨rfl, rfl, rfl, rfl, rfl⟩ rfl rfl rfl rfl rfl zk Tryd.func9 zk
  (of_decide_eq_true zk) (by unfold Func.isWrapper; first | (rw [if_pos (by decide +kernel)]; kernel_rfl) | (rw [if_neg (by decide +kernel)]; exact ⟨rfl, rfl⟩))
  (fun os started H enc _ F => by rw [OpenClaim.pre_eq_preRow]; exact lifted os started H enc F)
theorem proved : Rows.TuneNarrowerUptoCardSaid :=
 Claim7.holds_tied_plain_at .later [] _ _ _ _ over (fun _ h => by cases h) zk (fun _ h => by cases h) tuneNarrowerUpto_row_tie rfl ⟨rfl, rfl⟩ zk rfl
  (fun f fn hf hfn => by
   obtain rfl : f = 9 := Option.some.inj ((show Tryd.prog.funcNamed "saron/saronlaw01.TuneNarrower" = some 9 by kernel_rfl).symm.trans hf) |>.symm
   obtain rfl : fn = Tryd.f9 := (Option.some.inj (Tryd.func9.symm.trans hfn)).symm
   exact ⟨by kernel_rfl, fun j t ht => by
    rw [Tryd.params9] at ht
    have hm : t ∈ [28, 38] := by simpa using Array.mem_of_getElem? ht
    have hall : ([28, 38].all fun u => !Tryd.prog.wantsStandIn u) = true := by kernel_rfl
    exact (show Tryd.prog.wantsStandIn t = false by simpa using List.all_eq_true.1 hall t hm)⟩)
  zk
end Go.Proofs.YtgehkojccmkggaaDoor.tuneNarrower
namespace Go.Proofs.YtgehkojccmkggaaDoor
theorem tuneNarrower_card : Rows.TuneNarrowerUptoCardSaid := tuneNarrower.proved
end Go.Proofs.YtgehkojccmkggaaDoor
end
