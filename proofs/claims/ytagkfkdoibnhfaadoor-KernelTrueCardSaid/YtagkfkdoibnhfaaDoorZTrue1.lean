/- KernelTrue: for every scale and any numbers, which choose the kernel, the registers and what is lost, the law returns true, and each argument reads afterwards as it read before. Condition: when the call begins the package's table of rules reads as the program's text lays it; the card ties that to the text. -/
import Derived.ArgAppend
import Derived.Below
import Derived.BigQuiet
import Derived.ChangeKeysEq
import Derived.Deep.AppendLies
import Derived.Deep.CutBlock
import Derived.Deep.DeepCutAuto
import Derived.Deep.Draws
import Derived.Deep.LoopGhost
import Derived.Deep.OwnRows
import Derived.Deep.QuietTactic
import Derived.Deep.RegionHeld3
import Derived.KernelRfl
import Derived.Laws.BitsLemmas
import Derived.Laws.BytesArg
import Derived.Laws.IdiomCopy
import Derived.Laws.MakeOwn
import Derived.Laws.OwnMore
import Derived.Laws.Rows
import Derived.Laws.Slices
import Derived.Lib.AppendStr
import Derived.Lib.ConvBytes
import Derived.Maps.AppendAt
import Derived.OrdersHeld
import Derived.OwnWalk
import Derived.RowKit
import Derived.RowKit3
import Derived.Tactics
import Derived.WalkKit
import Derived.WideLaws
import Derived.Test.YtagkfkdoibnhfaaDoorProg
import Derived.Test.YtagkfkdoibnhfaaDoorZB1
import Derived.Test.YtagkfkdoibnhfaaDoorZB2
import Derived.Test.YtagkfkdoibnhfaaDoorZB4
set_option linter.all false
namespace Go.Proofs
theorem dTr1 {p : Prop} (h : p := by repeat (first | (with_reducible exact HR544_0.out) | (with_reducible refine Kd.C_alloc ?_ _) | (with_reducible refine Kd.C_drewN ?_ _) | (with_reducible refine Kd.C_drew ?_) | exact HR544_0.out)) : p := h
theorem dTr2 {p : Prop} (h : p := by repeat (first | (with_reducible exact HR542_0.out) | (with_reducible refine Kd.C_alloc ?_ _) | (with_reducible refine Kd.C_drewN ?_ _) | (with_reducible refine Kd.C_drew ?_) | exact HR542_0.out)) : p := h
theorem dTr3 {p : Prop} (h : p := by (with_reducible repeat (first | apply Kd.V_alloc | apply Kd.V_drewN | apply Kd.V_drew)); exact Kd.V_mono HO_15.out (fun _ hk => ⟨⟨hk.1, ⟨hk.2.2.1, ⟨hk.2.2.2.2, hk.2.2.2.1⟩⟩⟩, hk.2.1⟩)) : p := h
theorem dTr4 {p : Prop} (h : p := by (with_reducible repeat (first | apply Kd.V_alloc | apply Kd.V_drewN | apply Kd.V_drew)); exact Kd.V_mono HO_15.out (fun _ hk => ⟨⟨hk.1, ⟨hk.2.1, ⟨hk.2.2.1, hk.2.2.2.2⟩⟩⟩, hk.2.2.2.1⟩)) : p := h
theorem dTr5 {p : Prop} (h : p := by repeat (first | (with_reducible exact HR546_0.out) | (with_reducible refine Kd.C_alloc ?_ _) | (with_reducible refine Kd.C_drewN ?_ _) | (with_reducible refine Kd.C_drew ?_) | exact HR546_0.out)) : p := h
theorem dTr6 {p : Prop} (h : p := by first | exact q541 | exact of_decide_eq_true zs | (have e_ := (Kd.V_reads' HO_13.out).1; omega)) : p := h
theorem dTr7 {p : Prop} (h : p := by (with_reducible repeat (first | apply Kd.V_alloc | apply Kd.V_drewN | apply Kd.V_drew)); exact Kd.V_mono HO_15.out (fun _ hk => ⟨⟨hk.1.1, ⟨hk.2, hk.1.2.2.2⟩⟩, hk.1.2.1⟩)) : p := h
theorem dTr8 {p : Prop} (h : p := by (with_reducible repeat (first | apply Kd.N_alloc | apply Kd.N_drewN | apply Kd.N_drew)); exact Kd.N_mono HO_12.out (fun _ hk => ⟨⟨hk.1, ⟨hk.2.2.2, hk.2.2.1⟩⟩, hk.2.1⟩)) : p := h
theorem dTr9 {p : Prop} (h : p := by (with_reducible repeat (first | apply Kd.N_alloc | apply Kd.N_drewN | apply Kd.N_drew)); exact Kd.N_mono HO_12.out (fun _ hk => ⟨⟨hk.1, ⟨hk.2.1, hk.2.2.2⟩⟩, hk.2.2.1⟩)) : p := h
theorem dTr10 {p : Prop} (h : p := by (with_reducible repeat (first | apply Kd.N_alloc | apply Kd.N_drewN | apply Kd.N_drew)); exact Kd.N_mono HO_11.out (fun _ hk => ⟨⟨hk.1, ⟨hk.2.1, hk.2.2.2⟩⟩, hk.2.2.1⟩)) : p := h
theorem dTr11 {p : Prop} (h : p := by (with_reducible repeat (first | apply Kd.N_alloc | apply Kd.N_drewN | apply Kd.N_drew)); exact Kd.N_mono HO_12.out (fun _ hk => ⟨hk.1.1, ⟨hk.2, hk.1.2.2⟩⟩)) : p := h
theorem dTr12 {p : Prop} (h : p := by (with_reducible repeat (first | apply Kd.N_alloc | apply Kd.N_drewN | apply Kd.N_drew)); exact Kd.N_mono HO_11.out (fun _ hk => ⟨hk.1, ⟨hk.2.1, hk.2.2.1⟩⟩)) : p := h
theorem dTr13 {p : Prop} (h : p := by (with_reducible repeat (first | apply Kd.N_alloc | apply Kd.N_drewN | apply Kd.N_drew)); exact Kd.N_mono HO503.out (fun _ hk => ⟨⟨hk.1, hk.2.2⟩, hk.2.1⟩)) : p := h
theorem dTr14 {p : Prop} (h : p := by first | exact q542 | exact of_decide_eq_true zs | (have e_ := (Kd.V_reads' HO_13.out).1; omega)) : p := h
theorem dTr15 {p : Prop} (h : p := by first | exact q544 | exact of_decide_eq_true zs | (have e_ := (Kd.N_reads' HO_9.out).1; omega)) : p := h
theorem dTr16 {p : Prop} (h : p := by (with_reducible repeat (first | apply Kd.R_alloc | apply Kd.R_drewN | apply Kd.R_drew)); exact Kd.R_mono HO493.out (fun _ hk => hk.1)) : p := h
theorem dTr17 {p : Prop} (h : p := by first | exact q546 | exact of_decide_eq_true zs | (have e_ := (Kd.V_reads' HO_13.out).1; omega)) : p := h
end Go.Proofs
section
set_option linter.unusedVariables false
set_option linter.unusedSimpArgs false
namespace Go.Proofs.YtagkfkdoibnhfaaDoorW.PrintWords
open Go.RowKit
section
variable {P : Program} {ops : Array Oper} {o : Oper} {a : Act} {Q : Exit → Act → World → Prop} {K : Act → World → Prop}
theorem step_append_cells {w0 W : World} (base : Nat) (hw : Region.wanted o (yielded ops a.tmps) = true) (s x : Operand) (t e : TypeId) (z : Value) (size bytes : Nat)
  (ho : o.op = .call { callee := .builtin .append, args := #[s, x], argTypes := #[t, t] })
  (ht : P.underlying t = some (.slice e)) (hinfo : (P.info? e).map (fun i => (i.zero, i.size, i.bytes)) = some (some z, size, bytes)) (hz : z.cells.size = size) (hs0 : 0 < size) (hb0 : 0 < bytes)
  (v : Value) (n : Nat) (xs ys : List Value) (hs : a.eval s = v) (hx : a.eval x = .slice (some ⟨W.heap.size, 0, none⟩) 1 1) (hys : ys.length = size) (h1 : ∀ u ∈ ys, u.oneCell' = true)
  (HO : W.ownsRow base e size v n xs) (HB : Below base w0 W) (hbase : base ≤ W.heap.size) (hl : (n + 1) * bytes ≤ 140737488355328)
  (h : ∀ v1 w1, w1.ownsRow base e size v1 (n + 1) (xs ++ ys) → Below base w0 w1 → W.grownBy w1 v.ownBlock → (v1.ownBlock = v.ownBlock ∨ ∃ b, v1.ownBlock = some b ∧ W.heap.size ≤ b) → K (a.put o.dst v1) w1) :
  if Region.wanted o (yielded ops a.tmps) = true then Oper.wp P o a (W.alloc (.cells ys.toArray e)) K Q else K (a.put o.dst undef) (W.alloc (.cells ys.toArray e)) := by
 obtain ⟨i0, hi, hzz⟩ := Option.map_eq_some_iff.1 hinfo
 simp only [Prod.mk.injEq] at hzz
 obtain ⟨hz0, hz1, hz2⟩ := hzz
 have hlen : n + 1 ≤ 140737488355328 := Nat.le_trans (Nat.le_mul_of_pos_right _ hb0) hl
 rw [if_pos hw]
 obtain ⟨v1, w1, hr, hown, hg, _, hat⟩ := run_append_own_at (P := P) (W.alloc (.cells ys.toArray e)) base t o.type e i0 z size bytes ht hi hz0 hz1 hz2 hz hs0 v n xs (HO.alloc _) ⟨W.heap.size, 0, none⟩ 1 1 ys (by rw [hys]; simp)
  (by simpa using World.news_of_block (cs := ys.toArray) (t := e) (fr := (0, 0)) (heap_alloc_new W (.cells ys.toArray e))) h1 (by simp only [maxLen]; omega) hl (by simp; omega)
 unfold Oper.wp execOp
 simp only [ho, resolve, invoke, builtin, Sem.run_bind, Sem.run_pure, Result.andThen_ok, List.map_toArray, List.map_cons, List.map_nil, hs, hx, hr]
 refine h v1 w1 hown ((HB.alloc hbase _).grown hg (by simp; omega) (own_base HO)) (World.grownBy.trans (World.grownBy_alloc W _ _) hg) ?_
 rcases hat with hat | hat
 ·exact .inl hat
 ·exact .inr ⟨_, hat, by simp⟩
end
namespace Kd
section
variable {P : Program} {ops : Array Oper} {o : Oper} {a : Act} {Q : Exit → Act → World → Prop} {Kc : Act → World → Prop} {α : Type}
theorem R_append_step (d : Kd α) {w0 W : World} (base : Nat) (hw : Region.wanted o (yielded ops a.tmps) = true) (s x : Operand) (t e : TypeId) (z : Value) (bytes : Nat)
  (ho : o.op = .call { callee := .builtin .append, args := #[s, x], argTypes := #[t, t] })
  (ht : P.underlying t = some (.slice e)) (hinfo : (P.info? e).map (fun i => (i.zero, i.size, i.bytes)) = some (some z, d.sz, bytes)) (hz : z.cells.size = d.sz) (hs0 : 0 < d.sz) (hb0 : 0 < bytes)
  (v : Value) (xs : List α) (p : α) (cs : List Value) (ok okp : Nat → Prop) (hs : a.eval s = v) (hx : a.eval x = .slice (some ⟨W.heap.size, 0, none⟩) 1 1) (hp : d.M W base okp p cs) (hokp : ∀ k, okp k → ok k ∧ some k ≠ v.ownBlock) (hfresh : ∀ k, W.heap.size ≤ k → ok k)
  (HO : d.R e W base ok v xs) (HB : Below base w0 W) (hbase : base ≤ W.heap.size) (hl : (xs.length + 1) * bytes ≤ 140737488355328)
  (h : ∀ v1 w1, d.R e w1 base ok v1 (xs ++ [p]) → Below base w0 w1 → W.grownBy w1 v.ownBlock → (v1.ownBlock = v.ownBlock ∨ ∃ b, v1.ownBlock = some b ∧ W.heap.size ≤ b) → Kc (a.put o.dst v1) w1) :
  if Region.wanted o (yielded ops a.tmps) = true then Oper.wp P o a (W.alloc (.cells cs.toArray e)) Kc Q else Kc (a.put o.dst undef) (W.alloc (.cells cs.toArray e)) := by
 obtain ⟨h0, inner, hown, hr⟩ := HO
 refine step_append_cells base hw s x t e z d.sz bytes ho ht hinfo hz hs0 hb0 v xs.length inner cs hs hx (d.K_len (d.K_of_M hp)) (d.K_one (d.K_of_M hp)) hown HB hbase hl ?_
 intro v1 w1 hown1 hb1 hg1 hat1
 exact h v1 w1 (R_appended h0 hr hp hokp hfresh hown1 hg1 hat1) hb1 hg1 hat1
end
end Kd
namespace Kd
section
variable {α β : Type} {d : Kd α} {d' : Kd β} {e e' : Nat} {w w1 W : World} {base b b' : Nat} {ok ok' okv oku : Nat → Prop} {v u : Value} {xs : List α} {ys : List β}
theorem C_drew {A : Option Addr} {n : Nat} (h : d.C w A n xs) : d.C w.drew A n xs := C_below h (below_drew (Below.refl _ _))
theorem C_drewN {A : Option Addr} {n : Nat} (h : d.C w A n xs) (m : Nat) : d.C (w.drewN m) A n xs := C_below h (pw_below_drewN (Below.refl _ _) m)
end
end Kd
theorem add_block (a : Addr) (i : Nat) : (a.add i).block = a.block := by unfold Addr.add; split <;> rfl
namespace Kd
section
variable {α : Type} {enc : α → Value} {h1 : ∀ x, (enc x).oneCell' = true} {e base g n cap : Nat} {ok : Nat → Prop} {W : World} {xs : List α}
theorem R_putg (h : (scalar enc h1).R e W base ok (.slice (some ⟨g, 0, none⟩) n cap) xs) (i : Int) (x : α) : (scalar enc h1).R e (W.setCell ⟨g, i.toNat, none⟩ (enc x)) base ok (.slice (some ⟨g, 0, none⟩) n cap) (xs.set i.toNat x) ∧ W.grownBy (W.setCell ⟨g, i.toNat, none⟩ (enc x)) (some g) := by
 obtain ⟨rfl, _⟩ := R_reads' h
 exact R_put h i x
end
end Kd
end Go.Proofs.YtagkfkdoibnhfaaDoorW.PrintWords
end
section
namespace Go.Proofs.YtagkfkdoibnhfaaDoorW.PrintWords
open Go.RowKit
section
variable {w W W2 : World} {S S2 S' : Nat → Prop}
theorem blk_kept {g : Nat} {o : Obj} (hb : W.heap[g]? = some o) (hk : Kept W W2 S) (hne : ¬ S g) : W2.heap[g]? = some o := (hk.2 g (blk_lt hb) hne).trans hb
end
end Go.Proofs.YtagkfkdoibnhfaaDoorW.PrintWords
end
section
namespace Go.Proofs.YtagkfkdoibnhfaaDoorW.PrintWords
open Go.RowKit
namespace Kd
section
variable {α β : Type} {d : Kd α} {e base n n' cc g N : Nat} {ok ok' okp S : Nat → Prop} {w w0 w1 W W1 : World} {A A' : Option Addr} {u v v1 : Value} {xs : List α} {xs' : List β} {d' : Kd β} {x : α} {c : List Value}
theorem F_bound (h : F d W ok A n xs) : F d W (fun k => ok k ∧ k < W.heap.size) A n xs := Foot.bound h
theorem F_far (h : F d W ok A n xs) {p : Addr} (hok : ∀ k, ok k → k ≠ p.block) (u : Value) : F d (W.setCell p u) ok A n xs := F_step h (fun k hk _ => Below.heap_setCell W p u k (hok k hk))
theorem F_kept (h : F d W ok A n xs) (hk : Kept W W1 S) (hok : ∀ k, ok k → ¬ S k) : F d W1 ok A n xs := F_step h (fun k ho hlt => hk.2 k hlt (hok k ho))
theorem F_after (h : F d W (fun k => ok k ∧ some k ≠ v.ownBlock) A n xs) (hg : W.grownBy W1 v.ownBlock) (hat : v1.ownBlock = v.ownBlock ∨ ∃ b, v1.ownBlock = some b ∧ W.heap.size ≤ b) : F d W1 (fun k => ok k ∧ some k ≠ v1.ownBlock) A n xs := by
 refine F_mono (Foot.step (F_bound h) (fun k hk hlt => hg.block k hlt hk.1.2)) (fun k hk => ⟨hk.1.1, ?_⟩)
 rcases hat with hat | ⟨b, hb, hle⟩
 ·rw [hat]; exact hk.1.2
 ·rw [hb]
  intro he
  injection he with he
  have := hk.2
  omega
theorem FK_of_M (h : d.M W base ok x c) : FK d W ok x c := fun _ hW => d.K_of_M (M_step h hW)
theorem emptied (W : World) (g : Nat) : ∃ W' : World, (∀ k, k ≠ g → W'.heap[k]? = W.heap[k]?) ∧ ∀ a : Addr, a.block = g → W'.cell? a = none := by
 refine ⟨{ W with heap := W.heap.setIfInBounds g (.cells #[] 0) }, fun k hk => by simp [Ne.symm hk], fun a ha => ?_⟩
 subst ha
 by_cases hlt : a.block < W.heap.size
 ·simp [World.cell?, hlt]
 ·simp [World.cell?, hlt]
end
end Kd
end Go.Proofs.YtagkfkdoibnhfaaDoorW.PrintWords
end
section
namespace Go.Proofs.YtagkfkdoibnhfaaDoorW.PrintWords
open Go.RowKit
namespace Kd
section
variable {α : Type} {d : Kd α} {e base n cc g : Nat} {ok ok' okp S : Nat → Prop} {w w1 W W1 : World} {A : Option Addr} {u v v1 : Value} {xs : List α} {x : α} {c : List Value}
theorem F_get (h : F d W ok A n xs) (z : α) (i : Int) (h0 : 0 ≤ i) (h1 : i < n) :
  ∃ ad c, A = some ad ∧ c.length = d.sz ∧ FK d W ok (xs.getD i.toNat z) c ∧ (∀ j u, c[j]? = some u → W.cell? (ad.add (i.toNat * d.sz + j)) = some u) ∧ (0 < d.sz → ok ad.block) := by
 obtain ⟨ad, c, rfl, hcl, hK, hcc⟩ := C_get (F_now h) z i h0 h1
 have hin : 0 < d.sz → ok ad.block := by
  intro hs
  by_cases hk : ok ad.block
  ·exact hk
  ·obtain ⟨W', h2, h3⟩ := emptied W ad.block
   obtain ⟨ad', c', he, hcl', _, hcc'⟩ := C_get (h W' (fun k hk' _ => h2 k (fun e => hk (e ▸ hk')))) z i h0 h1
   injection he with he
   subst he
   have h4 := hcc' 0 _ (List.getElem?_eq_getElem (by omega))
   rw [h3 _ (add_block _ _)] at h4
   cases h4
 refine ⟨ad, c, rfl, hcl, fun W' hW => ?_, hcc, hin⟩
 obtain ⟨ad', c', he, hcl', hK', hcc'⟩ := C_get (h W' hW) z i h0 h1
 injection he with he
 subst he
 have hc : c = c' := by
  apply List.ext_getElem?
  intro j
  by_cases hj : j < d.sz
  ·have hb : W'.heap[ad.block]? = W.heap[ad.block]? := by
    have h5 := hcc j _ (List.getElem?_eq_getElem (by omega))
    have h6 := World.block_lt_of_cell? W _ h5
    rw [add_block] at h6
    exact hW _ (hin (by omega)) h6
   have h5 := hcc j _ (List.getElem?_eq_getElem (by omega))
   have h6 := hcc' j _ (List.getElem?_eq_getElem (by omega))
   have h7 : W'.cell? (ad.add (i.toNat * d.sz + j)) = W.cell? (ad.add (i.toNat * d.sz + j)) := by simp [World.cell?, add_block, hb]
   rw [h7, h5] at h6
   rw [List.getElem?_eq_getElem (by omega), List.getElem?_eq_getElem (by omega)]
   exact h6
  ·rw [List.getElem?_eq_none (by omega), List.getElem?_eq_none (by omega)]
 rw [hc]
 exact hK'
theorem R_N (h : d.R e w base ok v xs) : N d e w base ok v xs := by
 obtain ⟨h0, inner, ho, hr⟩ := h
 refine ⟨h0, chunks d.sz xs.length inner, chunks_length _ _ _, ⟨fun k hk => hk.symm, inner, by rw [chunks_length]; exact ho, reps_raw hr (fun x c hp => ⟨d.K_len (d.K_of_M hp), d.K_one (d.K_of_M hp)⟩)⟩, fun j x c hx hc => ?_⟩
 rw [chunks_get hc]
 exact FK_of_M (hr.2 j x hx)
theorem N_nil (d : Kd α) (e : Nat) (w : World) (base : Nat) (ok : Nat → Prop) : N d e w base ok (.slice none 0 0) [] := R_N (R_nil _ _ _ _ _)
theorem N_ne (h : N d e w base ok v xs) {t : Nat} {cells : Array Value} (hb : w.heap[g]? = some (.cells cells t (0, 0))) (ht : e ≠ t) : some g ≠ v.ownBlock := by
 obtain ⟨_, rows, _, hR, _⟩ := h
 exact R_ne hR hb ht
theorem N_far (h : N d e w base ok v xs) {p : Addr} (hok : ∀ k, ok k → k ≠ p.block) (u : Value) : N d e (w.setCell p u) base ok v xs := N_step h (fun k ho _ => Below.heap_setCell w p u k (hok k ho))
theorem N_after (h : N d e W base (fun k => ok k ∧ some k ≠ u.ownBlock) v xs) {u1 : Value} (hg : W.grownBy w1 u.ownBlock) (hat : u1.ownBlock = u.ownBlock ∨ ∃ b, u1.ownBlock = some b ∧ W.heap.size ≤ b) : N d e w1 base (fun k => ok k ∧ some k ≠ u1.ownBlock) v xs := by
 refine N_mono (N_step (N_bound h) (fun k hk hlt => hg.block k hlt hk.1.2)) (fun k hk => ⟨hk.1.1, ?_⟩)
 rcases hat with hat | ⟨b, hb, hle⟩
 ·rw [hat]; exact hk.1.2
 ·rw [hb]
  intro he
  injection he with he
  have := hk.2
  omega
theorem N_elem {n cap : Nat} (h : N d e W base ok (.slice (some ⟨g, 0, none⟩) n cap) xs) (z : α) (i : Int) (h0 : 0 ≤ i) (h1 : i < n) :
  ∃ c, c.length = d.sz ∧ FK d W (fun k => ok k ∧ k ≠ g) (xs.getD i.toNat z) c ∧ (∀ j u, c[j]? = some u → W.cell? ⟨g, i.toNat * d.sz + j, none⟩ = some u) ∧ ∀ j, W.frozen? ⟨g, i.toNat * d.sz + j, none⟩ = false := by
 obtain ⟨_, rows, hl, hR, hf⟩ := h
 have hn := (R_reads' hR).1
 obtain ⟨c, hcl, hM, hcc, hfr⟩ := R_elem hR [] i h0 h1
 have hil : i.toNat < rows.length := by omega
 have hil' : i.toNat < xs.length := by omega
 have hc : c = rows[i.toNat] := by
  have h2 := hM.1
  rwa [List.getD_eq_getElem?_getD, List.getElem?_eq_getElem hil] at h2
 refine ⟨c, hcl, ?_, hcc, hfr⟩
 rw [List.getD_eq_getElem?_getD, List.getElem?_eq_getElem hil']
 exact FK_mono (hf _ _ _ (List.getElem?_eq_getElem hil') (by rw [hc]; exact List.getElem?_eq_getElem hil)) (fun k hk => ⟨hk.1, fun he => hk.2 (by rw [he]; simp [Value.ownBlock])⟩)
theorem N_get {ad : Addr} {n cap : Nat} (h : N d e W base ok (.slice (some ad) n cap) xs) (z : α) (i : Int) (h0 : 0 ≤ i) (h1 : i < n) :
  ∃ c, c.length = d.sz ∧ FK d W (fun k => ok k ∧ some k ≠ (Value.slice (some ad) n cap).ownBlock) (xs.getD i.toNat z) c ∧ ∀ j u, c[j]? = some u → W.cell? (ad.add (i.toNat * d.sz + j)) = some u := by
 obtain ⟨g, rfl⟩ : ∃ g, ad = ⟨g, 0, none⟩ := by
  obtain ⟨_, rows, _, hR, _⟩ := h
  exact R_head hR
 obtain ⟨c, hcl, hM, hcc, _⟩ := N_elem h z i h0 h1
 refine ⟨c, hcl, FK_mono hM (fun k hk => ⟨hk.1, fun he => hk.2 (by simpa [Value.ownBlock] using he)⟩), fun j u hu => ?_⟩
 rw [add_at, Nat.zero_add]
 exact hcc j u hu
end
end Kd
end Go.Proofs.YtagkfkdoibnhfaaDoorW.PrintWords
end
section
namespace Go.Proofs.YtagkfkdoibnhfaaDoorW.PrintWords
open Go.RowKit
theorem drewN_self (w : World) (n : Nat) : w.drewN n = w.drewN n := rfl
end Go.Proofs.YtagkfkdoibnhfaaDoorW.PrintWords
namespace Go.Proofs.YtagkfkdoibnhfaaDoorW.PrintWords
open Go.RowKit
namespace Kd
section
variable {α β : Type} {d : Kd α} {e base base' n m c g N' lo hi : Nat} {ok ok' S : Nat → Prop} {w W w1 : World} {A : Option Addr} {ad : Addr} {u v v1 : Value} {xs : List α}
theorem V_F (h : V d e W base ok (.slice A n c) xs) : F d W ok A n xs := by
 obtain ⟨hn, _, hf⟩ := V_at h
 rw [hn]
 exact hf
theorem V_bound (h : V d e W base ok v xs) : V d e W base (fun k => ok k ∧ k < W.heap.size) v xs := V_map h (fun _ hf => F_bound hf)
theorem V_far (h : V d e W base ok v xs) {p : Addr} (hok : ∀ k, ok k → k ≠ p.block) (u : Value) : V d e (W.setCell p u) base ok v xs := V_map h (fun _ hf => F_far hf hok u)
theorem V_kept (h : V d e W base ok v xs) (hk : Kept W w1 S) (hok : ∀ k, ok k → ¬ S k) : V d e w1 base ok v xs := V_map h (fun _ hf => F_kept hf hk hok)
theorem V_after (h : V d e W base (fun k => ok k ∧ some k ≠ u.ownBlock) v xs) (hg : W.grownBy w1 u.ownBlock) (hat : v1.ownBlock = u.ownBlock ∨ ∃ b, v1.ownBlock = some b ∧ W.heap.size ≤ b) : V d e w1 base (fun k => ok k ∧ some k ≠ v1.ownBlock) v xs := V_map h (fun _ hf => F_after hf hg hat)
theorem V_afterv (h : V d e W base (fun k => ok k ∧ some k ≠ v.ownBlock) u xs) (hg : W.grownBy w1 v.ownBlock) (hat : v1.ownBlock = v.ownBlock ∨ ∃ b, v1.ownBlock = some b ∧ W.heap.size ≤ b) : V d e w1 base (fun k => ok k ∧ some k ≠ v1.ownBlock) u xs := V_after h hg hat
theorem N_afterv (h : N d e W base (fun k => ok k ∧ some k ≠ v.ownBlock) u xs) (hg : W.grownBy w1 v.ownBlock) (hat : v1.ownBlock = v.ownBlock ∨ ∃ b, v1.ownBlock = some b ∧ W.heap.size ≤ b) : N d e w1 base (fun k => ok k ∧ some k ≠ v1.ownBlock) u xs := N_after h hg hat
theorem V_keptB (h : V d e W base ok v xs) (hk : Kept W w1 S) (hne : ∀ k, ok k → ¬ S k) : V d e w1 base (fun k => ok k ∧ (¬ S k ∧ k < W.heap.size)) v xs :=
 V_kept (V_mono (V_bound h) (fun k hk => ⟨hk.1, hne k hk.1, hk.2⟩)) hk (fun _ hk => hk.2.1)
theorem V_get (h : V d e W base ok (.slice (some ad) n c) xs) (z : α) (i : Int) (h0 : 0 ≤ i) (h1 : i < n) :
  ∃ cs, cs.length = d.sz ∧ FK d W ok (xs.getD i.toNat z) cs ∧ ∀ j u, cs[j]? = some u → W.cell? (ad.add (i.toNat * d.sz + j)) = some u := by
 obtain ⟨ad', cs, he, hcl, hK, hcc, _⟩ := F_get (V_F h) z i h0 h1
 injection he with he
 subst he
 exact ⟨cs, hcl, hK, hcc⟩
theorem FK_slice_open {l : List α} {cs : List Value} (h : FK (Kd.slice e d) W ok l cs) : ∃ A c, cs = [.slice A l.length c] ∧ l.length ≤ c ∧ F d W ok A l.length l := by
 obtain ⟨A, c, rfl, hl, _⟩ := FK_now h
 refine ⟨A, c, rfl, hl, fun W' hW => ?_⟩
 obtain ⟨A', c', he, _, g'⟩ := h W' hW
 injection he with he _
 injection he with ha _ _
 rw [ha]
 exact g'
theorem FK_slice_mk {l : List α} (hl : l.length ≤ c) (hf : F d W ok A l.length l) : FK (Kd.slice e d) W ok l [.slice A l.length c] := fun W' hW => ⟨A, c, rfl, hl, hf W' hW⟩
end
end Kd
end Go.Proofs.YtagkfkdoibnhfaaDoorW.PrintWords
end
section
namespace Go.Proofs.YtagkfkdoibnhfaaDoor.H
open Go.RowKit Go.Proofs.YtagkfkdoibnhfaaDoorW.PrintWords Go.Proofs.YtagkfkdoibnhfaaDoorW.PrintLast Go.Proofs.YtagkfkdoibnhfaaDoorW.PrintMore
set_option linter.unusedVariables false
set_option linter.unusedSimpArgs false
theorem k60_openF {W : World} {ok : Nat → Prop} {x : S60} {cs : List Value} (h : Kd.FK k60 W ok x cs) : ∃ A1 c1, cs = [.int .i64 x.f0, .slice A1 x.f1.length c1] ∧ x.f1.length ≤ c1 ∧ Kd.F (Kd.int .i64) W ok A1 x.f1.length x.f1 := by
 obtain ⟨A1, c1, rfl, l1, _⟩ := k60_open (Kd.FK_now h)
 exact ⟨A1, c1, rfl, l1, (fun W' hW => by obtain ⟨A1_, c1_, he, l1_, g1_⟩ := k60_open (h W' hW); injection (Option.some.inj (show some (Value.slice A1 x.f1.length c1) = some (Value.slice A1_ x.f1.length c1_) from congrArg (fun l => l[1]?) he)) with ha_ _ _; rw [ha_]; exact g1_)⟩
end Go.Proofs.YtagkfkdoibnhfaaDoor.H
end
section
namespace Go.Proofs.YtagkfkdoibnhfaaDoor.K
open Go.RowKit Go.Proofs.YtagkfkdoibnhfaaDoorW.PrintWords Go.Proofs.YtagkfkdoibnhfaaDoorW.PrintMore Go.Proofs.YtagkfkdoibnhfaaDoor.H
namespace O
theorem irange_mem_iff {x lo hi : Int} : x ∈ irange lo hi ↔ lo ≤ x ∧ x ≤ hi := by
 unfold irange
 rw [List.mem_map]
 constructor
 ·rintro ⟨i, hi, rfl⟩
  rw [List.mem_range] at hi
  omega
 ·rintro ⟨h1, h2⟩
  exact ⟨(x - lo).toNat, by rw [List.mem_range]; omega, by omega⟩
theorem irange_len (lo hi : Int) : (irange lo hi).length = (hi + 1 - lo).toNat := by unfold irange; simp
theorem choices_mem' {T O : Int} {R : List S66} {hs : List S60} {p : Int} {q : Int × Int} : q ∈ choices T O R hs p ↔ q ∈ pairsOf (T * O) ∧ miss T R hs p q.1 q.2 = 0 := by
 unfold choices
 rw [List.mem_filter, decide_eq_true_eq]
theorem pairs_mem_iff {m : Int} {q : Int × Int} : q ∈ pairsOf m ↔ (0 ≤ q.1 ∧ q.1 ≤ m - 1) ∧ 0 ≤ q.2 ∧ q.2 ≤ m - 1 := by
 unfold pairsOf
 rw [List.mem_flatMap]
 constructor
 ·rintro ⟨a, ha, h⟩
  rw [List.mem_map] at h
  obtain ⟨b, hb, rfl⟩ := h
  exact ⟨irange_mem_iff.1 ha, irange_mem_iff.1 hb⟩
 ·rintro ⟨h1, h2⟩
  exact ⟨q.1, irange_mem_iff.2 h1, List.mem_map.2 ⟨q.2, irange_mem_iff.2 h2, rfl⟩⟩
theorem canAll_pos {T O L : Int} {R : List S66} {hs : List S60} (h : canAll T O L R hs = true) (p : Int) (h0 : 0 ≤ p) (h1 : p ≤ L / 2 - 1) : ∃ q, q ∈ choices T O R hs p := by
 unfold canAll at h
 rw [List.all_eq_true] at h
 have := h p (irange_mem_iff.2 ⟨h0, h1⟩)
 cases hc : choices T O R hs p
 ·rw [hc] at this; simp at this
 ·exact ⟨_, List.mem_cons_self⟩
theorem canOf_mem {T O : Int} {R : List S66} {hs : List S60} {place t : Int} : t ∈ canOf T O R hs place ↔ ∃ q ∈ choices T O R hs (place / 2), side q place = t := by
 unfold canOf
 rw [List.mem_filter, List.any_eq_true]
 constructor
 ·rintro ⟨_, q, hq, h⟩
  exact ⟨q, hq, of_decide_eq_true h⟩
 ·rintro ⟨q, hq, rfl⟩
  refine ⟨irange_mem_iff.2 ?_, q, hq, decide_eq_true rfl⟩
  have := pairs_mem_iff.1 (choices_mem'.1 hq).1
  unfold side
  split
  ·exact this.1
  ·exact this.2
end O
end Go.Proofs.YtagkfkdoibnhfaaDoor.K
end
section
namespace Go.Proofs.YtagkfkdoibnhfaaDoor.K
open Go.RowKit Go.Proofs.YtagkfkdoibnhfaaDoorW.PrintWords Go.Proofs.YtagkfkdoibnhfaaDoorW.PrintMore Go.Proofs.YtagkfkdoibnhfaaDoor.H
namespace O
theorem flatMap_getD {α : Type} (f : α → List Int) (W : Nat) (hW : ∀ x, (f x).length = W) : ∀ (l : List α) (p k : Nat) (hp : p < l.length), k < W → (l.flatMap f).getD (p * W + k) 0 = (f l[p]).getD k 0
 | x :: l, 0, k, hp, hk => by
  rw [List.flatMap_cons, List.getD_eq_getElem?_getD, List.getD_eq_getElem?_getD, Nat.zero_mul, Nat.zero_add, List.getElem?_append_left (by rw [hW]; exact hk)]
  rfl
 | x :: l, p + 1, k, hp, hk => by
  have ih := flatMap_getD f W hW l p k (by simpa using hp) hk
  rw [List.flatMap_cons, List.getD_eq_getElem?_getD, List.getElem?_append_right (by rw [hW, Nat.add_mul]; omega), ← List.getD_eq_getElem?_getD, hW]
  rw [show (p + 1) * W + k - W = p * W + k by rw [Nat.add_mul]; omega, ih]
  rfl
theorem flatMap_length {α : Type} (f : α → List Int) (W : Nat) (hW : ∀ x, (f x).length = W) : ∀ l : List α, (l.flatMap f).length = l.length * W
 | [] => by simp
 | x :: l => by rw [List.flatMap_cons, List.length_append, hW, flatMap_length f W hW l, List.length_cons, Nat.add_mul, Nat.one_mul, Nat.add_comm]
def Single (T O L : Int) (R : List S66) (hs : List S60) (q : Int → Int × Int) : Prop := ∀ p, 0 ≤ p → p ≤ L / 2 - 1 → choices T O R hs p = [q p]
theorem won_flat {T O L : Int} {R : List S66} {hs : List S60} {q : Int → Int × Int} (h : Single T O L R hs q) : wonOf T O L R hs = (irange 0 (L / 2 - 1)).flatMap fun p => [(q p).1, (q p).2] := by
 unfold wonOf
 rw [List.flatMap_def, List.flatMap_def]
 congr 1
 apply List.map_congr_left
 intro p hp
 obtain ⟨h0, h1⟩ := irange_mem_iff.1 hp
 rw [h p h0 h1]
theorem irange_get {lo hi : Int} (p : Nat) (hp : p < (irange lo hi).length) : (irange lo hi)[p] = lo + (p : Int) := by
 have h1 : p < (hi + 1 - lo).toNat := by rw [irange_len] at hp; exact hp
 have h2 : (irange lo hi)[p]? = some (lo + (p : Int)) := by
  unfold irange
  rw [List.getElem?_map, List.getElem?_range h1]
  rfl
 exact Option.some.inj ((List.getElem?_eq_getElem hp).symm.trans h2)
section
variable {T O L : Int} {R : List S66} {hs : List S60} {q : Int → Int × Int} (hS : okScale T O L R = true) (hH : okHeard L R hs = true) (h : Single T O L R hs q)
include hS h
theorem won_len : ((wonOf T O L R hs).length : Int) = L := by
 obtain ⟨t1, t2, t3, t4, t5, t6, t7, t8, t9, hok⟩ := okScale_regs hS
 rw [won_flat h, flatMap_length _ 2 (fun _ => rfl), irange_len]
 omega
theorem won_get (i : Nat) (hi : (i : Int) < L) : (wonOf T O L R hs).getD i 0 = side (q ((i : Int) / 2)) (i : Int) := by
 obtain ⟨t1, t2, t3, t4, t5, t6, t7, t8, t9, hok⟩ := okScale_regs hS
 have hl : (irange 0 (L / 2 - 1)).length = (L / 2).toNat := by rw [irange_len]; omega
 have e : i = i / 2 * 2 + i % 2 := by omega
 have hp : i / 2 < (irange 0 (L / 2 - 1)).length := by omega
 have := flatMap_getD (fun p => [(q p).1, (q p).2]) 2 (fun _ => rfl) (irange 0 (L / 2 - 1)) (i / 2) (i % 2) hp (Nat.mod_lt _ (by omega))
 rw [← e, irange_get _ hp] at this
 rw [won_flat h, this]
 unfold side
 have e2 : (0 : Int) + ((i / 2 : Nat) : Int) = (i : Int) / 2 := by omega
 rw [e2]
 have h2 := Nat.mod_two_eq_zero_or_one i
 rcases h2 with h2 | h2
 ·rw [h2, if_pos (by omega)]; rfl
 ·rw [h2, if_neg (by omega)]; rfl
theorem single_mem (p : Int) (h0 : 0 ≤ p) (h1 : p ≤ L / 2 - 1) : ((0 ≤ (q p).1 ∧ (q p).1 ≤ T * O - 1) ∧ 0 ≤ (q p).2 ∧ (q p).2 ≤ T * O - 1) ∧ miss T R hs p (q p).1 (q p).2 = 0 := by
 have := choices_mem'.1 (show q p ∈ choices T O R hs p by rw [h p h0 h1]; simp)
 exact ⟨pairs_mem_iff.1 this.1, this.2⟩
theorem won_ok (r : Int) (h0 : 0 ≤ r) (h1 : r < R.length) : okPart T O L R (wonOf T O L R hs) r = true := by
 unfold okPart
 simp only [Bool.and_eq_true, decide_eq_true_eq, List.all_eq_true]
 refine ⟨⟨⟨won_len hS h, h0⟩, h1⟩, fun x hx => ?_⟩
 rw [won_flat h, List.mem_flatMap] at hx
 obtain ⟨p, hp, hx⟩ := hx
 obtain ⟨g0, g1⟩ := irange_mem_iff.1 hp
 have := (single_mem hS h p g0 g1).1
 simp only [List.mem_cons, List.not_mem_nil, or_false] at hx
 rcases hx with rfl | rfl <;> omega
include hH
end
end O
end Go.Proofs.YtagkfkdoibnhfaaDoor.K
end
section
namespace Go.Proofs.YtagkfkdoibnhfaaDoor.H
open Go.RowKit Go.Proofs.YtagkfkdoibnhfaaDoorW.PrintWords Go.Proofs.YtagkfkdoibnhfaaDoorW.PrintLast Go.Proofs.YtagkfkdoibnhfaaDoorW.PrintMore
set_option linter.unusedVariables false
set_option linter.unusedSimpArgs false
def saronref00_Nth.f (l0 : List Int) (a1 : Int) : Option (Int) := if (l0.length : Int) = 0 then (some 0) else ((saronref00_Turn.f a1 (l0.length : Int)).bind fun t476 => (if 0 ≤ t476 then (if t476 < (l0.length : Int) then (some (rd l0 t476)) else (none)) else (none)))
set_option maxHeartbeats 8000000 in
set_option maxRecDepth 100000 in
theorem saronref00_Nth.calls (A0 : Option Addr) (c0 : Nat) (l0 : List Int) (a1 : Int) (r : Int) (w : World) (hr0 : Kd.C (Kd.int .i64) w A0 l0.length l0) (hc0 : l0.length ≤ c0) (h : saronref00_Nth.f l0 a1 = some r) :
  Calls Tryd.prog 47 #[.slice A0 l0.length c0, .int .i64 a1] w fun e w' => e = .returned (.int .i64 r) ∧ Drawn0 w w' := by
 have HR0 := zh hr0
 have HC0 := zh hc0
 clear hr0 hc0
 have H : (if (l0.length : Int) = 0 then (some 0) else ((saronref00_Turn.f a1 (l0.length : Int)).bind fun t476 => (if 0 ≤ t476 then (if t476 < (l0.length : Int) then (some (rd l0 t476)) else (none)) else (none)))) = some r := h
 clear h
 by_cases c3 : (l0.length : Int) = 0
 ·rw [if_pos c3] at H
  have c3b0 : ((l0.length : Int) == 0) = true := beq_iff_eq.mpr c3
  have c3b1 : ((l0.length : Int) != 0) = false := bne_eq_false_iff_eq.mpr c3
  clear c3
  obtain rfl := Option.some.inj H
  go_enter Tryd.func47, Tryd.ntmps47
  go_wp2
  go_ret
  exact ⟨ze, by repeat (first | exact Drawn0.refl _ | apply Drawn0.step)⟩
 ·rw [if_neg c3] at H
  have c3b0 : ((l0.length : Int) == 0) = false := beq_eq_false_iff_ne.mpr c3
  have c3b1 : ((l0.length : Int) != 0) = true := bne_iff_ne.mpr c3
  have c3b2 : ¬ (l0 = []) := fun h_ => c3 (by rw [h_]; rfl)
  replace H := Option.bind_eq_some_iff.mp H
  obtain ⟨t476, A40, H⟩ := H
  replace H : (if 0 ≤ t476 then (if t476 < (l0.length : Int) then (some (rd l0 t476)) else (none)) else (none)) = some r := H
  have A4 := zh A40
  clear A40
  by_cases c5 : 0 ≤ t476
  ·rw [if_pos c5] at H
   have c5b0 : decide (0 ≤ t476) = true := decide_eq_true c5
   clear c5
   by_cases c6 : t476 < (l0.length : Int)
   ·rw [if_pos c6] at H
    have c6b0 : decide (t476 < (l0.length : Int)) = true := decide_eq_true c6
    clear c6
    obtain rfl := Option.some.inj H
    go_enter Tryd.func47, Tryd.ntmps47
    go_wp2_with (first | ((with_reducible refine gate_callee (f := 42) rfl ?_); refine goesL_ (some 12) rfl rfl Tryd.func42 zk rfl #[.int .i64 a1, .int .i64 (l0.length : Int)] rfl zm ?_; (with_reducible refine (saronref00_Turn.calls a1 (l0.length : Int) t476 _ A4.out).mono ?_); rintro e w' ⟨rfl, ⟨nd, rfl⟩⟩; refine ⟨_, rfl, ?_⟩; have p477 : 0 ≤ (t476 : Int) := of_decide_eq_true zs; have q477 : t476 < (l0.length : Int) := of_decide_eq_true zs; obtain ⟨ad477, e477, hx477_0⟩ := Kd.at_int HR0.out t476 p477 q477; cases e477; replace p477 := eq_true p477; replace q477 := eq_true q477))
    go_ret
    exact ⟨ze, by repeat (first | exact Drawn0.refl _ | apply Drawn0.step)⟩
   ·rw [if_neg c6] at H
    exact absurd H (by simp)
  ·rw [if_neg c5] at H
   exact absurd H (by simp)
def saronref00_Where.l0 : Nat → List Int → Int → Int → Option (Int)
 | 0, _, _, _ => none
 | k + 1, x0, x1, x5 => if x5 < (x0.length : Int) then (if 0 ≤ x5 then (if (rd x0 x5) = x1 then (some x5) else (saronref00_Where.l0 k x0 x1 (wrap64 (x5 + 1)))) else (none)) else (some (-1))
def saronref00_Where.f (k : Nat) (l0 : List Int) (a1 : Int) : Option (Int) := saronref00_Where.l0 k l0 a1 0
set_option maxHeartbeats 8000000 in
set_option maxRecDepth 100000 in
theorem saronref00_Where.calls (k : Nat) (A0 : Option Addr) (c0 : Nat) (l0 : List Int) (a1 : Int) (r : Int) (w : World) (hr0 : Kd.C (Kd.int .i64) w A0 l0.length l0) (hc0 : l0.length ≤ c0) (h : saronref00_Where.f k l0 a1 = some r) :
  Calls Tryd.prog 43 #[.slice A0 l0.length c0, .int .i64 a1] w fun e w' => e = .returned (.int .i64 r) ∧ Drawn0 w w' := by
 have HR0 := zh hr0
 have HC0 := zh hc0
 clear hr0 hc0
 have H : (saronref00_Where.l0 k l0 a1 0) = some r := h
 clear h
 have H' := zh H
 clear H
 go_enter Tryd.func43, Tryd.ntmps43
 go_wp2
 go_loopg [5] k (fun kq v5 w' => ∃ (x5_1 : Int), v5 = .int .i64 x5_1 ∧ Aside0 (saronref00_Where.l0 kq l0 a1 x5_1 = some r) ∧ Aside0 (kq ≤ k) ∧ Drawn0 w w')
 case atStart => exact ⟨(0), ze, H', ⟨Nat.le_refl _⟩, by repeat (first | exact Drawn0.refl _ | apply Drawn0.step)⟩
 case round =>
  clear H'
  try clear p2
  obtain ⟨x5_1, rfl, HA, HK1, ⟨m1, rfl⟩⟩ := hrel
  cases gk with
  | zero => exact absurd HA.out (by simp [saronref00_Where.l0])
  | succ k1 =>
   have H := HA.out
   clear HA
   simp only [saronref00_Where.l0] at H
   by_cases c3 : x5_1 < (l0.length : Int)
   ·rw [if_pos c3] at H
    have c3b0 : decide (x5_1 < (l0.length : Int)) = true := decide_eq_true c3
    clear c3
    by_cases c4 : 0 ≤ x5_1
    ·rw [if_pos c4] at H
     have c4b0 : decide (0 ≤ x5_1) = true := decide_eq_true c4
     clear c4
     by_cases c5 : (rd l0 x5_1) = a1
     ·rw [if_pos c5] at H
      have c5b0 : ((rd l0 x5_1) == a1) = true := beq_iff_eq.mpr c5
      have c5b1 : ((rd l0 x5_1) != a1) = false := bne_eq_false_iff_eq.mpr c5
      clear c5
      obtain rfl := Option.some.inj H
      have p510 : 0 ≤ (x5_1 : Int) := of_decide_eq_true zs
      have q510 : x5_1 < (l0.length : Int) := of_decide_eq_true zs
      obtain ⟨ad510, e510, hx510_0⟩ := Kd.at_int HR0.out x5_1 p510 q510
      cases e510
      replace p510 := eq_true p510
      replace q510 := eq_true q510
      go_wp2
      go_ret
      exact ⟨ze, by repeat (first | exact Drawn0.refl _ | apply Drawn0.step)⟩
     ·rw [if_neg c5] at H
      have c5b0 : ((rd l0 x5_1) == a1) = false := beq_eq_false_iff_ne.mpr c5
      have c5b1 : ((rd l0 x5_1) != a1) = true := bne_iff_ne.mpr c5
      have H' := zh H
      clear H
      have p510 : 0 ≤ (x5_1 : Int) := of_decide_eq_true zs
      have q510 : x5_1 < (l0.length : Int) := of_decide_eq_true zs
      obtain ⟨ad510, e510, hx510_0⟩ := Kd.at_int HR0.out x5_1 p510 q510
      cases e510
      replace p510 := eq_true p510
      replace q510 := eq_true q510
      go_wp2
      go_roundg k1
      case measure => have := HK1.out; omega
      case rel => exact ⟨(wrap64 (x5_1 + 1)), ze, H', ⟨by have := HK1.out; omega⟩, by repeat (first | exact Drawn0.refl _ | apply Drawn0.step)⟩
    ·rw [if_neg c4] at H
     exact absurd H (by simp)
   ·rw [if_neg c3] at H
    have c3b0 : decide (x5_1 < (l0.length : Int)) = false := decide_eq_false c3
    clear c3
    obtain rfl := Option.some.inj H
    go_wp2
    go_ret
    exact ⟨ze, by repeat (first | exact Drawn0.refl _ | apply Drawn0.step)⟩
end Go.Proofs.YtagkfkdoibnhfaaDoor.H
end
section
namespace Go.Proofs.YtagkfkdoibnhfaaDoor.H
open Go.RowKit Go.Proofs.YtagkfkdoibnhfaaDoorW.PrintWords Go.Proofs.YtagkfkdoibnhfaaDoorW.PrintLast Go.Proofs.YtagkfkdoibnhfaaDoorW.PrintMore
attribute [local go_sem] max2_int min2_int max_two min_two max_three min_three max_four min_four   -- for this text's walks alone
set_option linter.unusedVariables false
set_option linter.unusedSimpArgs false
mutual
def saronlaw06_sound.j0 : Nat → Bool → Int → Int → Int → List (S66) → Option (Bool)
 | 0, _, _, _, _, _ => none
 | k + 1, x3, x464000, x464001, x464002, x464003 => saronlaw06_sound.l0 k x3 0 x464000 x464001 x464002 x464003
def saronlaw06_sound.l0 : Nat → Bool → Int → Int → Int → Int → List (S66) → Option (Bool)
 | 0, _, _, _, _, _, _ => none
 | k + 1, x3, x4, x464000, x464001, x464002, x464003 => if x3 = true then (saronlaw06_sound.j2 k x3 x4 (decide (x4 < (x464003.length : Int))) x464000 x464001 x464002 x464003) else (saronlaw06_sound.j2 k x3 x4 false x464000 x464001 x464002 x464003)
def saronlaw06_sound.j2 : Nat → Bool → Int → Bool → Int → Int → Int → List (S66) → Option (Bool)
 | 0, _, _, _, _, _, _, _ => none
 | k + 1, x3, x4, x43, x464000, x464001, x464002, x464003 => if x43 = true then (if 0 ≤ x4 then (if x4 < (x464003.length : Int) then ((saronref00_Sits.f ((rd_T66 x464003 x4).f0) 0 4).bind fun t471 => (if t471 = true then ((saronref00_Band.f ((rd_T66 x464003 x4).f1) ((rd_T66 x464003 x4).f2)).bind fun bt472 => ((saronref00_Good.f bt472.1 bt472.2 0 (wrap64 ((wrap64 (x464000 * x464001)) - 1))).bind fun t474 => (if t474 = true then ((saronref00_Sits.f ((rd_T66 x464003 x4).f3) (-6) 6).bind fun t475 => (saronlaw06_sound.l0 k t475 (wrap64 (x4 + 1)) x464000 x464001 x464002 x464003)) else (saronlaw06_sound.l0 k false (wrap64 (x4 + 1)) x464000 x464001 x464002 x464003)))) else (saronlaw06_sound.l0 k false (wrap64 (x4 + 1)) x464000 x464001 x464002 x464003))) else (none)) else (none)) else (some x3)
end
def saronlaw06_sound.f (k : Nat) (a0_0 : Int) (a0_1 : Int) (a0_2 : Int) (l0_3 : List (S66)) : Option (Bool) := (kernel_Check.f k a0_0 a0_1 a0_2 l0_3).bind fun t464 => (if t464 = 0 then ((saronref00_Sits.f a0_0 2 7).bind fun t465 => (if t465 = true then ((saronref00_Sits.f a0_1 1 3).bind fun t466 => (if t466 = true then ((saronref00_Sits.f a0_2 2 16).bind fun t467 => (if t467 = true then (if (Int.tmod a0_2 2) = 0 then ((saronref00_Sits.f (l0_3.length : Int) 1 5).bind fun t468 => (saronlaw06_sound.j0 k t468 a0_0 a0_1 a0_2 l0_3)) else (saronlaw06_sound.j0 k false a0_0 a0_1 a0_2 l0_3)) else (saronlaw06_sound.j0 k false a0_0 a0_1 a0_2 l0_3))) else (saronlaw06_sound.j0 k false a0_0 a0_1 a0_2 l0_3))) else (saronlaw06_sound.j0 k false a0_0 a0_1 a0_2 l0_3))) else (saronlaw06_sound.j0 k false a0_0 a0_1 a0_2 l0_3))
def saronlaw06_sound.T6 : Bool × List (List Nat × List Nat) := (true, [([], []), ([0], [0]), ([1], [1]), ([2, 2], [2]), ([3], [3]), ([4, 3], [3, 4]), ([3], [3]), ([6, 3], [3, 6]), ([5, 7, 3, 3], [3, 5, 7]), ([3], [3]), ([9, 3], [3, 9]), ([3], [3]), ([11, 3], [3, 11]), ([10, 12, 3], [3, 10, 12]), ([13, 3], [3, 13]), ([8, 14, 8, 3], [3, 8, 14]), ([3, 15], [3, 15]), ([16, 15], [16]), ([17], [17]), ([18, 17], [17, 18]), ([19, 17, 17], [17, 19]), ([17, 20], [17, 20]), ([21, 20, 0, 1, 2, 3, 4, 5, 6, 7, 8, 9, 10, 11, 12, 13, 14, 15, 16, 17, 18, 19, 20, 21], [21])])
def saronlaw06_sound.B6 : List Nat := [0, 1, 3, 7, 15, 31, 15, 79, 255, 15, 527, 15, 2063, 7695, 15887, 32767, 65535, 131071, 262143, 524287, 1048575, 2097151, 4194303]
theorem saronlaw06_sound.tab6 : rtab .any (opsOf Tryd.f39 6) = saronlaw06_sound.T6 := by kernel_rfl
theorem saronlaw06_sound.bits6 : waitsOk saronlaw06_sound.T6.2 saronlaw06_sound.B6 = true := by kernel_rfl
set_option maxHeartbeats 8000000 in
set_option maxRecDepth 100000 in
theorem saronlaw06_sound.calls (k : Nat) (a0_0 : Int) (a0_1 : Int) (a0_2 : Int) (A0_3 : Option Addr) (c0_3 : Nat) (l0_3 : List (S66)) (r : Bool) (w : World) (hr0_3 : Kd.C k66 w A0_3 l0_3.length l0_3) (hc0_3 : l0_3.length ≤ c0_3) (h : saronlaw06_sound.f k a0_0 a0_1 a0_2 l0_3 = some r) :
  Calls Tryd.prog 39 #[.agg #[.int .i64 a0_0, .int .i64 a0_1, .int .i64 a0_2, .slice A0_3 l0_3.length c0_3]] w fun e w' => e = .returned (.bool r) ∧ Below w.heap.size w w' := by
 have hu24 := Tryd.underlying24
 have hu66 := Tryd.underlying66
 have HR0_3 := zh hr0_3
 have HC0_3 := zh hc0_3
 clear hr0_3 hc0_3
 have HB := zh (Below.refl w.heap.size w)
 have H : ((kernel_Check.f k a0_0 a0_1 a0_2 l0_3).bind fun t464 => (if t464 = 0 then ((saronref00_Sits.f a0_0 2 7).bind fun t465 => (if t465 = true then ((saronref00_Sits.f a0_1 1 3).bind fun t466 => (if t466 = true then ((saronref00_Sits.f a0_2 2 16).bind fun t467 => (if t467 = true then (if (Int.tmod a0_2 2) = 0 then ((saronref00_Sits.f (l0_3.length : Int) 1 5).bind fun t468 => (saronlaw06_sound.j0 k t468 a0_0 a0_1 a0_2 l0_3)) else (saronlaw06_sound.j0 k false a0_0 a0_1 a0_2 l0_3)) else (saronlaw06_sound.j0 k false a0_0 a0_1 a0_2 l0_3))) else (saronlaw06_sound.j0 k false a0_0 a0_1 a0_2 l0_3))) else (saronlaw06_sound.j0 k false a0_0 a0_1 a0_2 l0_3))) else (saronlaw06_sound.j0 k false a0_0 a0_1 a0_2 l0_3))) = some r := h
 clear h
 have HC2 := zh H
 clear H
 go_enter Tryd.func39, Tryd.ntmps39
 go_upto_region 1 with (first | ((with_reducible refine gate_dst (N := 1) rfl ?_); (try (refine gate_guard (by rfl) ?_; dsimp only)); refine box_event ?hg (N := 1) ?hd (cs := #[.int .i64 a0_0, .int .i64 a0_1, .int .i64 a0_2, .slice A0_3 l0_3.length c0_3]) (t := 24) ?hr ?_; (case hd => rfl); (case hg => rfl); (case hr => first | (go_simp; done) | (go_simp; rfl)); intro gb463 hg w3 hbox hb; have n0_ := zh (below_step zb hb); have n1_ := zh (hbox); have n2_ := zh ((by rw [hg]; exact (below_size zb) : w.heap.size ≤ gb463)); have n3_ := zh ((by rw [hg]; exact (below_size zb) : w.heap.size ≤ gb463)); clear HB; have HB := n0_; have BK463 := n1_; have GW463 := n2_; have GE463 := n3_; clear n0_ n1_ n2_ n3_; clear hb hbox hg))
 (try simp only [Act.put, List.setIfInBounds_toArray, List.set_cons_zero, List.set_cons_succ])
 go_cut [3] (fun v3 wc => ∃ (kq : Nat) (x3_1 : Bool), v3 = .bool x3_1 ∧ Aside0 (saronlaw06_sound.j0 kq x3_1 a0_0 a0_1 a0_2 l0_3 = some r) ∧ Aside0 (kq ≤ k) ∧ Aside0 (wc.heap[gb463]? = some (.cells #[.int .i64 a0_0, .int .i64 a0_1, .int .i64 a0_2, (.slice A0_3 l0_3.length c0_3)] 24 (0, 0))) ∧ Aside0 (Below w.heap.size w wc))
 case first =>
  have H := HC2.out
  clear HC2
  replace H := Option.bind_eq_some_iff.mp H
  obtain ⟨t464, A40, H⟩ := H
  replace H : (if t464 = 0 then ((saronref00_Sits.f a0_0 2 7).bind fun t465 => (if t465 = true then ((saronref00_Sits.f a0_1 1 3).bind fun t466 => (if t466 = true then ((saronref00_Sits.f a0_2 2 16).bind fun t467 => (if t467 = true then (if (Int.tmod a0_2 2) = 0 then ((saronref00_Sits.f (l0_3.length : Int) 1 5).bind fun t468 => (saronlaw06_sound.j0 k t468 a0_0 a0_1 a0_2 l0_3)) else (saronlaw06_sound.j0 k false a0_0 a0_1 a0_2 l0_3)) else (saronlaw06_sound.j0 k false a0_0 a0_1 a0_2 l0_3))) else (saronlaw06_sound.j0 k false a0_0 a0_1 a0_2 l0_3))) else (saronlaw06_sound.j0 k false a0_0 a0_1 a0_2 l0_3))) else (saronlaw06_sound.j0 k false a0_0 a0_1 a0_2 l0_3)) = some r := H
  have A4 := zh A40
  clear A40
  by_cases c5 : t464 = 0
  ·rw [if_pos c5] at H
   have c5b0 : (t464 == 0) = true := beq_iff_eq.mpr c5
   have c5b1 : (t464 != 0) = false := bne_eq_false_iff_eq.mpr c5
   clear c5
   (first | rw [c5b0] | (simp only [i64_w, i32_w]; rw [c5b0]) | skip)
   replace H := Option.bind_eq_some_iff.mp H
   obtain ⟨t465, A60, H⟩ := H
   replace H : (if t465 = true then ((saronref00_Sits.f a0_1 1 3).bind fun t466 => (if t466 = true then ((saronref00_Sits.f a0_2 2 16).bind fun t467 => (if t467 = true then (if (Int.tmod a0_2 2) = 0 then ((saronref00_Sits.f (l0_3.length : Int) 1 5).bind fun t468 => (saronlaw06_sound.j0 k t468 a0_0 a0_1 a0_2 l0_3)) else (saronlaw06_sound.j0 k false a0_0 a0_1 a0_2 l0_3)) else (saronlaw06_sound.j0 k false a0_0 a0_1 a0_2 l0_3))) else (saronlaw06_sound.j0 k false a0_0 a0_1 a0_2 l0_3))) else (saronlaw06_sound.j0 k false a0_0 a0_1 a0_2 l0_3)) = some r := H
   have A6 := zh A60
   clear A60
   by_cases c7 : t465 = true
   ·subst c7
    have H1 : ((saronref00_Sits.f a0_1 1 3).bind fun t466 => (if t466 = true then ((saronref00_Sits.f a0_2 2 16).bind fun t467 => (if t467 = true then (if (Int.tmod a0_2 2) = 0 then ((saronref00_Sits.f (l0_3.length : Int) 1 5).bind fun t468 => (saronlaw06_sound.j0 k t468 a0_0 a0_1 a0_2 l0_3)) else (saronlaw06_sound.j0 k false a0_0 a0_1 a0_2 l0_3)) else (saronlaw06_sound.j0 k false a0_0 a0_1 a0_2 l0_3))) else (saronlaw06_sound.j0 k false a0_0 a0_1 a0_2 l0_3))) = some r := by rw [if_pos rfl] at H; exact H
    clear H
    have H := H1
    clear H1
    replace H := Option.bind_eq_some_iff.mp H
    obtain ⟨t466, A80, H⟩ := H
    replace H : (if t466 = true then ((saronref00_Sits.f a0_2 2 16).bind fun t467 => (if t467 = true then (if (Int.tmod a0_2 2) = 0 then ((saronref00_Sits.f (l0_3.length : Int) 1 5).bind fun t468 => (saronlaw06_sound.j0 k t468 a0_0 a0_1 a0_2 l0_3)) else (saronlaw06_sound.j0 k false a0_0 a0_1 a0_2 l0_3)) else (saronlaw06_sound.j0 k false a0_0 a0_1 a0_2 l0_3))) else (saronlaw06_sound.j0 k false a0_0 a0_1 a0_2 l0_3)) = some r := H
    have A8 := zh A80
    clear A80
    by_cases c9 : t466 = true
    ·subst c9
     have H1 : ((saronref00_Sits.f a0_2 2 16).bind fun t467 => (if t467 = true then (if (Int.tmod a0_2 2) = 0 then ((saronref00_Sits.f (l0_3.length : Int) 1 5).bind fun t468 => (saronlaw06_sound.j0 k t468 a0_0 a0_1 a0_2 l0_3)) else (saronlaw06_sound.j0 k false a0_0 a0_1 a0_2 l0_3)) else (saronlaw06_sound.j0 k false a0_0 a0_1 a0_2 l0_3))) = some r := by rw [if_pos rfl] at H; exact H
     clear H
     have H := H1
     clear H1
     replace H := Option.bind_eq_some_iff.mp H
     obtain ⟨t467, A100, H⟩ := H
     replace H : (if t467 = true then (if (Int.tmod a0_2 2) = 0 then ((saronref00_Sits.f (l0_3.length : Int) 1 5).bind fun t468 => (saronlaw06_sound.j0 k t468 a0_0 a0_1 a0_2 l0_3)) else (saronlaw06_sound.j0 k false a0_0 a0_1 a0_2 l0_3)) else (saronlaw06_sound.j0 k false a0_0 a0_1 a0_2 l0_3)) = some r := H
     have A10 := zh A100
     clear A100
     by_cases c11 : t467 = true
     ·subst c11
      have H1 : (if (Int.tmod a0_2 2) = 0 then ((saronref00_Sits.f (l0_3.length : Int) 1 5).bind fun t468 => (saronlaw06_sound.j0 k t468 a0_0 a0_1 a0_2 l0_3)) else (saronlaw06_sound.j0 k false a0_0 a0_1 a0_2 l0_3)) = some r := by rw [if_pos rfl] at H; exact H
      clear H
      have H := H1
      clear H1
      by_cases c12 : (Int.tmod a0_2 2) = 0
      ·rw [if_pos c12] at H
       have c12b0 : ((Int.tmod a0_2 2) == 0) = true := beq_iff_eq.mpr c12
       have c12b1 : ((Int.tmod a0_2 2) != 0) = false := bne_eq_false_iff_eq.mpr c12
       clear c12
       replace H := Option.bind_eq_some_iff.mp H
       obtain ⟨t468, A130, H⟩ := H
       replace H : (saronlaw06_sound.j0 k t468 a0_0 a0_1 a0_2 l0_3) = some r := H
       have A13 := zh A130
       clear A130
       have H' := zh H
       clear H
       have hcz14_0 : w3.cell? ⟨gb463, 0, none⟩ = some (.int .i64 a0_0) := vb BK463 0
       have hcz14_1 : w3.cell? ⟨gb463, 1, none⟩ = some (.int .i64 a0_1) := vb BK463 1
       have hcz14_2 : w3.cell? ⟨gb463, 2, none⟩ = some (.int .i64 a0_2) := vb BK463 2
       have hcz14_3 : w3.cell? ⟨gb463, 3, none⟩ = some (.slice A0_3 l0_3.length c0_3) := vb BK463 3
       have hfz14_0 := blk_frozen BK463.out 0
       have hfz14_1 := blk_frozen BK463.out 1
       have hfz14_2 := blk_frozen BK463.out 2
       have hfz14_3 := blk_frozen BK463.out 3
       go_wp2_with (first | ((with_reducible refine gate_callee (f := 19) rfl ?_); refine goesL_ (some 7) rfl rfl Tryd.func19 zk rfl #[.agg #[.int .i64 a0_0, .int .i64 a0_1, .int .i64 a0_2, .slice A0_3 l0_3.length c0_3]] rfl zm ?_; (with_reducible refine (kernel_Check.calls k a0_0 a0_1 a0_2 _ _ l0_3 t464 _ ?side1 ?side2 A4.out).mono ?_); (case side1 => repeat (first | exact (Kd.C_below HR0_3.out HB.out) | (with_reducible refine Kd.C_alloc ?_ _) | (with_reducible refine Kd.C_drewN ?_ _) | (with_reducible refine Kd.C_drew ?_))); (case side2 => exact HC0_3.out); rintro e w15 ⟨rfl, hb⟩; refine ⟨_, rfl, ?_⟩; have n0_ := zh (blk_below (g := gb463) (o := .cells #[.int .i64 a0_0, .int .i64 a0_1, .int .i64 a0_2, .slice A0_3 l0_3.length c0_3] 24 (0, 0)) (zc BK463) hb); have n1_ := zh (below_step zb hb); clear BK463; clear HB; have BK463 := n0_; have HB := n1_; clear n0_ n1_; (try clear hb); (try clear hb2); (try clear hk); (try clear hi); have hcz16_0 : w15.cell? ⟨gb463, 0, none⟩ = some (.int .i64 a0_0) := vb BK463 0; have hcz16_1 : w15.cell? ⟨gb463, 1, none⟩ = some (.int .i64 a0_1) := vb BK463 1; have hcz16_2 : w15.cell? ⟨gb463, 2, none⟩ = some (.int .i64 a0_2) := vb BK463 2; have hcz16_3 : w15.cell? ⟨gb463, 3, none⟩ = some (.slice A0_3 l0_3.length c0_3) := vb BK463 3; have hfz16_0 := blk_frozen BK463.out 0; have hfz16_1 := blk_frozen BK463.out 1; have hfz16_2 := blk_frozen BK463.out 2; have hfz16_3 := blk_frozen BK463.out 3) | (go_at_call 45; (with_reducible refine (saronref00_Sits.calls a0_0 2 7 true _ A6.out).mono ?_); rintro e w' ⟨rfl, ⟨nd, rfl⟩⟩) | (go_at_call 45; (with_reducible refine (saronref00_Sits.calls a0_1 1 3 true _ A8.out).mono ?_); rintro e w' ⟨rfl, ⟨nd, rfl⟩⟩) | (go_at_call 45; (with_reducible refine (saronref00_Sits.calls a0_2 2 16 true _ A10.out).mono ?_); rintro e w' ⟨rfl, ⟨nd, rfl⟩⟩) | (go_at_call 45; (with_reducible refine (saronref00_Sits.calls (l0_3.length : Int) 1 5 t468 _ A13.out).mono ?_); rintro e w' ⟨rfl, ⟨nd, rfl⟩⟩))
       go_meet
       case rel => exact ⟨_, (t468), ze, H', ⟨zo1⟩, ⟨zc BK463⟩, ⟨zb⟩⟩
      ·rw [if_neg c12] at H
       have c12b0 : ((Int.tmod a0_2 2) == 0) = false := beq_eq_false_iff_ne.mpr c12
       have c12b1 : ((Int.tmod a0_2 2) != 0) = true := bne_iff_ne.mpr c12
       have H' := zh H
       clear H
       have hcz17_0 : w3.cell? ⟨gb463, 0, none⟩ = some (.int .i64 a0_0) := vb BK463 0
       have hcz17_1 : w3.cell? ⟨gb463, 1, none⟩ = some (.int .i64 a0_1) := vb BK463 1
       have hcz17_2 : w3.cell? ⟨gb463, 2, none⟩ = some (.int .i64 a0_2) := vb BK463 2
       have hcz17_3 : w3.cell? ⟨gb463, 3, none⟩ = some (.slice A0_3 l0_3.length c0_3) := vb BK463 3
       have hfz17_0 := blk_frozen BK463.out 0
       have hfz17_1 := blk_frozen BK463.out 1
       have hfz17_2 := blk_frozen BK463.out 2
       have hfz17_3 := blk_frozen BK463.out 3
       go_wp2_with (first | ((with_reducible refine gate_callee (f := 19) rfl ?_); refine goesL_ (some 7) rfl rfl Tryd.func19 zk rfl #[.agg #[.int .i64 a0_0, .int .i64 a0_1, .int .i64 a0_2, .slice A0_3 l0_3.length c0_3]] rfl zm ?_; (with_reducible refine (kernel_Check.calls k a0_0 a0_1 a0_2 _ _ l0_3 t464 _ ?side1 ?side2 A4.out).mono ?_); (case side1 => repeat (first | exact (Kd.C_below HR0_3.out HB.out) | (with_reducible refine Kd.C_alloc ?_ _) | (with_reducible refine Kd.C_drewN ?_ _) | (with_reducible refine Kd.C_drew ?_))); (case side2 => exact HC0_3.out); rintro e w18 ⟨rfl, hb⟩; refine ⟨_, rfl, ?_⟩; have n0_ := zh (blk_below (g := gb463) (o := .cells #[.int .i64 a0_0, .int .i64 a0_1, .int .i64 a0_2, .slice A0_3 l0_3.length c0_3] 24 (0, 0)) (zc BK463) hb); have n1_ := zh (below_step zb hb); clear BK463; clear HB; have BK463 := n0_; have HB := n1_; clear n0_ n1_; (try clear hb); (try clear hb2); (try clear hk); (try clear hi); have hcz19_0 : w18.cell? ⟨gb463, 0, none⟩ = some (.int .i64 a0_0) := vb BK463 0; have hcz19_1 : w18.cell? ⟨gb463, 1, none⟩ = some (.int .i64 a0_1) := vb BK463 1; have hcz19_2 : w18.cell? ⟨gb463, 2, none⟩ = some (.int .i64 a0_2) := vb BK463 2; have hcz19_3 : w18.cell? ⟨gb463, 3, none⟩ = some (.slice A0_3 l0_3.length c0_3) := vb BK463 3; have hfz19_0 := blk_frozen BK463.out 0; have hfz19_1 := blk_frozen BK463.out 1; have hfz19_2 := blk_frozen BK463.out 2; have hfz19_3 := blk_frozen BK463.out 3) | (go_at_call 45; (with_reducible refine (saronref00_Sits.calls a0_0 2 7 true _ A6.out).mono ?_); rintro e w' ⟨rfl, ⟨nd, rfl⟩⟩) | (go_at_call 45; (with_reducible refine (saronref00_Sits.calls a0_1 1 3 true _ A8.out).mono ?_); rintro e w' ⟨rfl, ⟨nd, rfl⟩⟩) | (go_at_call 45; (with_reducible refine (saronref00_Sits.calls a0_2 2 16 true _ A10.out).mono ?_); rintro e w' ⟨rfl, ⟨nd, rfl⟩⟩))
       go_meet
       case rel => exact ⟨_, (false), ze, H', ⟨zo1⟩, ⟨zc BK463⟩, ⟨zb⟩⟩
     ·replace c11 := Bool.eq_false_iff.mpr c11
      subst c11
      have H1 : (saronlaw06_sound.j0 k false a0_0 a0_1 a0_2 l0_3) = some r := by rw [if_neg (show ¬ (false = true) by decide)] at H; exact H
      clear H
      have H := H1
      clear H1
      have H' := zh H
      clear H
      have hcz20_0 : w3.cell? ⟨gb463, 0, none⟩ = some (.int .i64 a0_0) := vb BK463 0
      have hcz20_1 : w3.cell? ⟨gb463, 1, none⟩ = some (.int .i64 a0_1) := vb BK463 1
      have hcz20_2 : w3.cell? ⟨gb463, 2, none⟩ = some (.int .i64 a0_2) := vb BK463 2
      have hcz20_3 : w3.cell? ⟨gb463, 3, none⟩ = some (.slice A0_3 l0_3.length c0_3) := vb BK463 3
      have hfz20_0 := blk_frozen BK463.out 0
      have hfz20_1 := blk_frozen BK463.out 1
      have hfz20_2 := blk_frozen BK463.out 2
      have hfz20_3 := blk_frozen BK463.out 3
      go_wp2_with (first | ((with_reducible refine gate_callee (f := 19) rfl ?_); refine goesL_ (some 7) rfl rfl Tryd.func19 zk rfl #[.agg #[.int .i64 a0_0, .int .i64 a0_1, .int .i64 a0_2, .slice A0_3 l0_3.length c0_3]] rfl zm ?_; (with_reducible refine (kernel_Check.calls k a0_0 a0_1 a0_2 _ _ l0_3 t464 _ ?side1 ?side2 A4.out).mono ?_); (case side1 => repeat (first | exact (Kd.C_below HR0_3.out HB.out) | (with_reducible refine Kd.C_alloc ?_ _) | (with_reducible refine Kd.C_drewN ?_ _) | (with_reducible refine Kd.C_drew ?_))); (case side2 => exact HC0_3.out); rintro e w21 ⟨rfl, hb⟩; refine ⟨_, rfl, ?_⟩; have n0_ := zh (blk_below (g := gb463) (o := .cells #[.int .i64 a0_0, .int .i64 a0_1, .int .i64 a0_2, .slice A0_3 l0_3.length c0_3] 24 (0, 0)) (zc BK463) hb); have n1_ := zh (below_step zb hb); clear BK463; clear HB; have BK463 := n0_; have HB := n1_; clear n0_ n1_; (try clear hb); (try clear hb2); (try clear hk); (try clear hi); have hcz22_0 : w21.cell? ⟨gb463, 0, none⟩ = some (.int .i64 a0_0) := vb BK463 0; have hcz22_1 : w21.cell? ⟨gb463, 1, none⟩ = some (.int .i64 a0_1) := vb BK463 1; have hcz22_2 : w21.cell? ⟨gb463, 2, none⟩ = some (.int .i64 a0_2) := vb BK463 2; have hcz22_3 : w21.cell? ⟨gb463, 3, none⟩ = some (.slice A0_3 l0_3.length c0_3) := vb BK463 3; have hfz22_0 := blk_frozen BK463.out 0; have hfz22_1 := blk_frozen BK463.out 1; have hfz22_2 := blk_frozen BK463.out 2; have hfz22_3 := blk_frozen BK463.out 3) | (go_at_call 45; (with_reducible refine (saronref00_Sits.calls a0_0 2 7 true _ A6.out).mono ?_); rintro e w' ⟨rfl, ⟨nd, rfl⟩⟩) | (go_at_call 45; (with_reducible refine (saronref00_Sits.calls a0_1 1 3 true _ A8.out).mono ?_); rintro e w' ⟨rfl, ⟨nd, rfl⟩⟩) | (go_at_call 45; (with_reducible refine (saronref00_Sits.calls a0_2 2 16 false _ A10.out).mono ?_); rintro e w' ⟨rfl, ⟨nd, rfl⟩⟩))
      go_meet
      case rel => exact ⟨_, (false), ze, H', ⟨zo1⟩, ⟨zc BK463⟩, ⟨zb⟩⟩
    ·replace c9 := Bool.eq_false_iff.mpr c9
     subst c9
     have H1 : (saronlaw06_sound.j0 k false a0_0 a0_1 a0_2 l0_3) = some r := by rw [if_neg (show ¬ (false = true) by decide)] at H; exact H
     clear H
     have H := H1
     clear H1
     have H' := zh H
     clear H
     have hcz23_0 : w3.cell? ⟨gb463, 0, none⟩ = some (.int .i64 a0_0) := vb BK463 0
     have hcz23_1 : w3.cell? ⟨gb463, 1, none⟩ = some (.int .i64 a0_1) := vb BK463 1
     have hcz23_2 : w3.cell? ⟨gb463, 2, none⟩ = some (.int .i64 a0_2) := vb BK463 2
     have hcz23_3 : w3.cell? ⟨gb463, 3, none⟩ = some (.slice A0_3 l0_3.length c0_3) := vb BK463 3
     have hfz23_0 := blk_frozen BK463.out 0
     have hfz23_1 := blk_frozen BK463.out 1
     have hfz23_2 := blk_frozen BK463.out 2
     have hfz23_3 := blk_frozen BK463.out 3
     go_wp2_with (first | ((with_reducible refine gate_callee (f := 19) rfl ?_); refine goesL_ (some 7) rfl rfl Tryd.func19 zk rfl #[.agg #[.int .i64 a0_0, .int .i64 a0_1, .int .i64 a0_2, .slice A0_3 l0_3.length c0_3]] rfl zm ?_; (with_reducible refine (kernel_Check.calls k a0_0 a0_1 a0_2 _ _ l0_3 t464 _ ?side1 ?side2 A4.out).mono ?_); (case side1 => repeat (first | exact (Kd.C_below HR0_3.out HB.out) | (with_reducible refine Kd.C_alloc ?_ _) | (with_reducible refine Kd.C_drewN ?_ _) | (with_reducible refine Kd.C_drew ?_))); (case side2 => exact HC0_3.out); rintro e w24 ⟨rfl, hb⟩; refine ⟨_, rfl, ?_⟩; have n0_ := zh (blk_below (g := gb463) (o := .cells #[.int .i64 a0_0, .int .i64 a0_1, .int .i64 a0_2, .slice A0_3 l0_3.length c0_3] 24 (0, 0)) (zc BK463) hb); have n1_ := zh (below_step zb hb); clear BK463; clear HB; have BK463 := n0_; have HB := n1_; clear n0_ n1_; (try clear hb); (try clear hb2); (try clear hk); (try clear hi); have hcz25_0 : w24.cell? ⟨gb463, 0, none⟩ = some (.int .i64 a0_0) := vb BK463 0; have hcz25_1 : w24.cell? ⟨gb463, 1, none⟩ = some (.int .i64 a0_1) := vb BK463 1; have hcz25_2 : w24.cell? ⟨gb463, 2, none⟩ = some (.int .i64 a0_2) := vb BK463 2; have hcz25_3 : w24.cell? ⟨gb463, 3, none⟩ = some (.slice A0_3 l0_3.length c0_3) := vb BK463 3; have hfz25_0 := blk_frozen BK463.out 0; have hfz25_1 := blk_frozen BK463.out 1; have hfz25_2 := blk_frozen BK463.out 2; have hfz25_3 := blk_frozen BK463.out 3) | (go_at_call 45; (with_reducible refine (saronref00_Sits.calls a0_0 2 7 true _ A6.out).mono ?_); rintro e w' ⟨rfl, ⟨nd, rfl⟩⟩) | (go_at_call 45; (with_reducible refine (saronref00_Sits.calls a0_1 1 3 false _ A8.out).mono ?_); rintro e w' ⟨rfl, ⟨nd, rfl⟩⟩))
     go_meet
     case rel => exact ⟨_, (false), ze, H', ⟨zo1⟩, ⟨zc BK463⟩, ⟨zb⟩⟩
   ·replace c7 := Bool.eq_false_iff.mpr c7
    subst c7
    have H1 : (saronlaw06_sound.j0 k false a0_0 a0_1 a0_2 l0_3) = some r := by rw [if_neg (show ¬ (false = true) by decide)] at H; exact H
    clear H
    have H := H1
    clear H1
    have H' := zh H
    clear H
    have hcz26_0 : w3.cell? ⟨gb463, 0, none⟩ = some (.int .i64 a0_0) := vb BK463 0
    have hcz26_1 : w3.cell? ⟨gb463, 1, none⟩ = some (.int .i64 a0_1) := vb BK463 1
    have hcz26_2 : w3.cell? ⟨gb463, 2, none⟩ = some (.int .i64 a0_2) := vb BK463 2
    have hcz26_3 : w3.cell? ⟨gb463, 3, none⟩ = some (.slice A0_3 l0_3.length c0_3) := vb BK463 3
    have hfz26_0 := blk_frozen BK463.out 0
    have hfz26_1 := blk_frozen BK463.out 1
    have hfz26_2 := blk_frozen BK463.out 2
    have hfz26_3 := blk_frozen BK463.out 3
    go_wp2_with (first | ((with_reducible refine gate_callee (f := 19) rfl ?_); refine goesL_ (some 7) rfl rfl Tryd.func19 zk rfl #[.agg #[.int .i64 a0_0, .int .i64 a0_1, .int .i64 a0_2, .slice A0_3 l0_3.length c0_3]] rfl zm ?_; (with_reducible refine (kernel_Check.calls k a0_0 a0_1 a0_2 _ _ l0_3 t464 _ ?side1 ?side2 A4.out).mono ?_); (case side1 => repeat (first | exact (Kd.C_below HR0_3.out HB.out) | (with_reducible refine Kd.C_alloc ?_ _) | (with_reducible refine Kd.C_drewN ?_ _) | (with_reducible refine Kd.C_drew ?_))); (case side2 => exact HC0_3.out); rintro e w27 ⟨rfl, hb⟩; refine ⟨_, rfl, ?_⟩; have n0_ := zh (blk_below (g := gb463) (o := .cells #[.int .i64 a0_0, .int .i64 a0_1, .int .i64 a0_2, .slice A0_3 l0_3.length c0_3] 24 (0, 0)) (zc BK463) hb); have n1_ := zh (below_step zb hb); clear BK463; clear HB; have BK463 := n0_; have HB := n1_; clear n0_ n1_; (try clear hb); (try clear hb2); (try clear hk); (try clear hi); have hcz28_0 : w27.cell? ⟨gb463, 0, none⟩ = some (.int .i64 a0_0) := vb BK463 0; have hcz28_1 : w27.cell? ⟨gb463, 1, none⟩ = some (.int .i64 a0_1) := vb BK463 1; have hcz28_2 : w27.cell? ⟨gb463, 2, none⟩ = some (.int .i64 a0_2) := vb BK463 2; have hcz28_3 : w27.cell? ⟨gb463, 3, none⟩ = some (.slice A0_3 l0_3.length c0_3) := vb BK463 3; have hfz28_0 := blk_frozen BK463.out 0; have hfz28_1 := blk_frozen BK463.out 1; have hfz28_2 := blk_frozen BK463.out 2; have hfz28_3 := blk_frozen BK463.out 3) | (go_at_call 45; (with_reducible refine (saronref00_Sits.calls a0_0 2 7 false _ A6.out).mono ?_); rintro e w' ⟨rfl, ⟨nd, rfl⟩⟩))
    go_meet
    case rel => exact ⟨_, (false), ze, H', ⟨zo1⟩, ⟨zc BK463⟩, ⟨zb⟩⟩
  ·rw [if_neg c5] at H
   have c5b0 : (t464 == 0) = false := beq_eq_false_iff_ne.mpr c5
   have c5b1 : (t464 != 0) = true := bne_iff_ne.mpr c5
   (first | rw [c5b0] | (simp only [i64_w, i32_w]; rw [c5b0]) | skip)
   have H' := zh H
   clear H
   have hcz29_0 : w3.cell? ⟨gb463, 0, none⟩ = some (.int .i64 a0_0) := vb BK463 0
   have hcz29_1 : w3.cell? ⟨gb463, 1, none⟩ = some (.int .i64 a0_1) := vb BK463 1
   have hcz29_2 : w3.cell? ⟨gb463, 2, none⟩ = some (.int .i64 a0_2) := vb BK463 2
   have hcz29_3 : w3.cell? ⟨gb463, 3, none⟩ = some (.slice A0_3 l0_3.length c0_3) := vb BK463 3
   have hfz29_0 := blk_frozen BK463.out 0
   have hfz29_1 := blk_frozen BK463.out 1
   have hfz29_2 := blk_frozen BK463.out 2
   have hfz29_3 := blk_frozen BK463.out 3
   go_wp2_with (first | ((with_reducible refine gate_callee (f := 19) rfl ?_); refine goesL_ (some 7) rfl rfl Tryd.func19 zk rfl #[.agg #[.int .i64 a0_0, .int .i64 a0_1, .int .i64 a0_2, .slice A0_3 l0_3.length c0_3]] rfl zm ?_; (with_reducible refine (kernel_Check.calls k a0_0 a0_1 a0_2 _ _ l0_3 t464 _ ?side1 ?side2 A4.out).mono ?_); (case side1 => repeat (first | exact (Kd.C_below HR0_3.out HB.out) | (with_reducible refine Kd.C_alloc ?_ _) | (with_reducible refine Kd.C_drewN ?_ _) | (with_reducible refine Kd.C_drew ?_))); (case side2 => exact HC0_3.out); rintro e w30 ⟨rfl, hb⟩; refine ⟨_, rfl, ?_⟩; have n0_ := zh (blk_below (g := gb463) (o := .cells #[.int .i64 a0_0, .int .i64 a0_1, .int .i64 a0_2, .slice A0_3 l0_3.length c0_3] 24 (0, 0)) (zc BK463) hb); have n1_ := zh (below_step zb hb); clear BK463; clear HB; have BK463 := n0_; have HB := n1_; clear n0_ n1_; (try clear hb); (try clear hb2); (try clear hk); (try clear hi)))
   go_meet
   case rel => exact ⟨_, (false), ze, H', ⟨zo1⟩, ⟨zc BK463⟩, ⟨zb⟩⟩
 case rest =>
  clear HC2
  try clear c1
  try clear p2
  try clear c3
  try clear c5
  try clear c5b0
  try clear c5b1
  try clear c7
  try clear c9
  try clear c11
  try clear c12
  try clear c12b0
  try clear c12b1
  try clear c19
  try clear hcz14_0
  try clear hcz14_1
  try clear hcz14_2
  try clear hcz14_3
  try clear hcz16_0
  try clear hcz16_1
  try clear hcz16_2
  try clear hcz16_3
  try clear hcz17_0
  try clear hcz17_1
  try clear hcz17_2
  try clear hcz17_3
  try clear hcz19_0
  try clear hcz19_1
  try clear hcz19_2
  try clear hcz19_3
  try clear hcz20_0
  try clear hcz20_1
  try clear hcz20_2
  try clear hcz20_3
  try clear hcz22_0
  try clear hcz22_1
  try clear hcz22_2
  try clear hcz22_3
  try clear hcz23_0
  try clear hcz23_1
  try clear hcz23_2
  try clear hcz23_3
  try clear hcz25_0
  try clear hcz25_1
  try clear hcz25_2
  try clear hcz25_3
  try clear hcz26_0
  try clear hcz26_1
  try clear hcz26_2
  try clear hcz26_3
  try clear hcz28_0
  try clear hcz28_1
  try clear hcz28_2
  try clear hcz28_3
  try clear hcz29_0
  try clear hcz29_1
  try clear hcz29_2
  try clear hcz29_3
  try clear hfz14_0
  try clear hfz14_1
  try clear hfz14_2
  try clear hfz14_3
  try clear hfz16_0
  try clear hfz16_1
  try clear hfz16_2
  try clear hfz16_3
  try clear hfz17_0
  try clear hfz17_1
  try clear hfz17_2
  try clear hfz17_3
  try clear hfz19_0
  try clear hfz19_1
  try clear hfz19_2
  try clear hfz19_3
  try clear hfz20_0
  try clear hfz20_1
  try clear hfz20_2
  try clear hfz20_3
  try clear hfz22_0
  try clear hfz22_1
  try clear hfz22_2
  try clear hfz22_3
  try clear hfz23_0
  try clear hfz23_1
  try clear hfz23_2
  try clear hfz23_3
  try clear hfz25_0
  try clear hfz25_1
  try clear hfz25_2
  try clear hfz25_3
  try clear hfz26_0
  try clear hfz26_1
  try clear hfz26_2
  try clear hfz26_3
  try clear hfz28_0
  try clear hfz28_1
  try clear hfz28_2
  try clear hfz28_3
  try clear hfz29_0
  try clear hfz29_1
  try clear hfz29_2
  try clear hfz29_3
  obtain ⟨kq, x3_1, rfl, HA, HJ1, BK463, HB⟩ := hcut
  cases kq with
  | zero => exact absurd HA.out (by simp [saronlaw06_sound.j0])
  | succ kj1 =>
   have H := HA.out
   clear HA
   simp only [saronlaw06_sound.j0] at H
   have H' := zh H
   clear H
   go_wp2
   go_loopg [3, 4] kj1 (fun kq v3 v4 w' => ∃ (x3_2 : Bool) (x4_2 : Int), v3 = .bool x3_2 ∧ v4 = .int .i64 x4_2 ∧ Aside0 (saronlaw06_sound.l0 kq x3_2 x4_2 a0_0 a0_1 a0_2 l0_3 = some r) ∧ Aside0 (kq ≤ kj1) ∧ Aside0 (w'.heap[gb463]? = some (.cells #[.int .i64 a0_0, .int .i64 a0_1, .int .i64 a0_2, (.slice A0_3 l0_3.length c0_3)] 24 (0, 0))) ∧ Aside0 (Below w.heap.size w w'))
   case atStart => exact ⟨(x3_1), (0), ze, ze, H', ⟨Nat.le_refl _⟩, ⟨zc BK463⟩, ⟨zb⟩⟩
   case round =>
    clear H'
    try clear c1
    try clear p2
    try clear c3
    try clear c5
    try clear c5b0
    try clear c5b1
    try clear c7
    try clear c9
    try clear c11
    try clear c12
    try clear c12b0
    try clear c12b1
    try clear c19
    try clear hcz14_0
    try clear hcz14_1
    try clear hcz14_2
    try clear hcz14_3
    try clear hcz16_0
    try clear hcz16_1
    try clear hcz16_2
    try clear hcz16_3
    try clear hcz17_0
    try clear hcz17_1
    try clear hcz17_2
    try clear hcz17_3
    try clear hcz19_0
    try clear hcz19_1
    try clear hcz19_2
    try clear hcz19_3
    try clear hcz20_0
    try clear hcz20_1
    try clear hcz20_2
    try clear hcz20_3
    try clear hcz22_0
    try clear hcz22_1
    try clear hcz22_2
    try clear hcz22_3
    try clear hcz23_0
    try clear hcz23_1
    try clear hcz23_2
    try clear hcz23_3
    try clear hcz25_0
    try clear hcz25_1
    try clear hcz25_2
    try clear hcz25_3
    try clear hcz26_0
    try clear hcz26_1
    try clear hcz26_2
    try clear hcz26_3
    try clear hcz28_0
    try clear hcz28_1
    try clear hcz28_2
    try clear hcz28_3
    try clear hcz29_0
    try clear hcz29_1
    try clear hcz29_2
    try clear hcz29_3
    try clear hfz14_0
    try clear hfz14_1
    try clear hfz14_2
    try clear hfz14_3
    try clear hfz16_0
    try clear hfz16_1
    try clear hfz16_2
    try clear hfz16_3
    try clear hfz17_0
    try clear hfz17_1
    try clear hfz17_2
    try clear hfz17_3
    try clear hfz19_0
    try clear hfz19_1
    try clear hfz19_2
    try clear hfz19_3
    try clear hfz20_0
    try clear hfz20_1
    try clear hfz20_2
    try clear hfz20_3
    try clear hfz22_0
    try clear hfz22_1
    try clear hfz22_2
    try clear hfz22_3
    try clear hfz23_0
    try clear hfz23_1
    try clear hfz23_2
    try clear hfz23_3
    try clear hfz25_0
    try clear hfz25_1
    try clear hfz25_2
    try clear hfz25_3
    try clear hfz26_0
    try clear hfz26_1
    try clear hfz26_2
    try clear hfz26_3
    try clear hfz28_0
    try clear hfz28_1
    try clear hfz28_2
    try clear hfz28_3
    try clear hfz29_0
    try clear hfz29_1
    try clear hfz29_2
    try clear hfz29_3
    try clear p2
    obtain ⟨x3_2, x4_2, rfl, rfl, HA, HK2, BK463, HB⟩ := hrel
    cases gk with
    | zero => exact absurd HA.out (by simp [saronlaw06_sound.l0])
    | succ k2 =>
     have H := HA.out
     clear HA
     simp only [saronlaw06_sound.l0] at H
     have HC31 := zh H
     clear H
     go_upto_region 3 with (fail)
     go_cut [43] (fun v43 wc => ∃ (kq : Nat) (x43_30 : Bool), v43 = .bool x43_30 ∧ Aside0 (saronlaw06_sound.j2 kq x3_2 x4_2 x43_30 a0_0 a0_1 a0_2 l0_3 = some r) ∧ Aside0 (kq ≤ k2) ∧ Aside0 (wc.heap[gb463]? = some (.cells #[.int .i64 a0_0, .int .i64 a0_1, .int .i64 a0_2, (.slice A0_3 l0_3.length c0_3)] 24 (0, 0))) ∧ Aside0 (Below w.heap.size w wc))
     case first =>
      have H := HC31.out
      clear HC31
      by_cases c32 : x3_2 = true
      ·subst c32
       have H1 : (saronlaw06_sound.j2 k2 true x4_2 (decide (x4_2 < (l0_3.length : Int))) a0_0 a0_1 a0_2 l0_3) = some r := by rw [if_pos rfl] at H; exact H
       clear H
       have H := H1
       clear H1
       have H' := zh H
       clear H
       have hcz33_0 : wr.cell? ⟨gb463, 0, none⟩ = some (.int .i64 a0_0) := vb BK463 0
       have hcz33_1 : wr.cell? ⟨gb463, 1, none⟩ = some (.int .i64 a0_1) := vb BK463 1
       have hcz33_2 : wr.cell? ⟨gb463, 2, none⟩ = some (.int .i64 a0_2) := vb BK463 2
       have hcz33_3 : wr.cell? ⟨gb463, 3, none⟩ = some (.slice A0_3 l0_3.length c0_3) := vb BK463 3
       have hfz33_0 := blk_frozen BK463.out 0
       have hfz33_1 := blk_frozen BK463.out 1
       have hfz33_2 := blk_frozen BK463.out 2
       have hfz33_3 := blk_frozen BK463.out 3
       go_wp2
       go_meet
       case rel => exact ⟨_, (decide (x4_2 < (l0_3.length : Int))), ze, H', ⟨by have := HJ1.out; have := HK2.out; first | omega | exact Nat.le_refl _⟩, ⟨zc BK463⟩, ⟨zb⟩⟩
      ·replace c32 := Bool.eq_false_iff.mpr c32
       subst c32
       have H1 : (saronlaw06_sound.j2 k2 false x4_2 false a0_0 a0_1 a0_2 l0_3) = some r := by rw [if_neg (show ¬ (false = true) by decide)] at H; exact H
       clear H
       have H := H1
       clear H1
       have H' := zh H
       clear H
       go_wp2
       go_meet
       case rel => exact ⟨_, (false), ze, H', ⟨by have := HJ1.out; have := HK2.out; first | omega | exact Nat.le_refl _⟩, ⟨zc BK463⟩, ⟨zb⟩⟩
     case rest =>
      clear HC31
      try clear c1
      try clear p2
      try clear c3
      try clear c5
      try clear c5b0
      try clear c5b1
      try clear c7
      try clear c9
      try clear c11
      try clear c12
      try clear c12b0
      try clear c12b1
      try clear c19
      try clear c32
      try clear hcz14_0
      try clear hcz14_1
      try clear hcz14_2
      try clear hcz14_3
      try clear hcz16_0
      try clear hcz16_1
      try clear hcz16_2
      try clear hcz16_3
      try clear hcz17_0
      try clear hcz17_1
      try clear hcz17_2
      try clear hcz17_3
      try clear hcz19_0
      try clear hcz19_1
      try clear hcz19_2
      try clear hcz19_3
      try clear hcz20_0
      try clear hcz20_1
      try clear hcz20_2
      try clear hcz20_3
      try clear hcz22_0
      try clear hcz22_1
      try clear hcz22_2
      try clear hcz22_3
      try clear hcz23_0
      try clear hcz23_1
      try clear hcz23_2
      try clear hcz23_3
      try clear hcz25_0
      try clear hcz25_1
      try clear hcz25_2
      try clear hcz25_3
      try clear hcz26_0
      try clear hcz26_1
      try clear hcz26_2
      try clear hcz26_3
      try clear hcz28_0
      try clear hcz28_1
      try clear hcz28_2
      try clear hcz28_3
      try clear hcz29_0
      try clear hcz29_1
      try clear hcz29_2
      try clear hcz29_3
      try clear hcz33_0
      try clear hcz33_1
      try clear hcz33_2
      try clear hcz33_3
      try clear hfz14_0
      try clear hfz14_1
      try clear hfz14_2
      try clear hfz14_3
      try clear hfz16_0
      try clear hfz16_1
      try clear hfz16_2
      try clear hfz16_3
      try clear hfz17_0
      try clear hfz17_1
      try clear hfz17_2
      try clear hfz17_3
      try clear hfz19_0
      try clear hfz19_1
      try clear hfz19_2
      try clear hfz19_3
      try clear hfz20_0
      try clear hfz20_1
      try clear hfz20_2
      try clear hfz20_3
      try clear hfz22_0
      try clear hfz22_1
      try clear hfz22_2
      try clear hfz22_3
      try clear hfz23_0
      try clear hfz23_1
      try clear hfz23_2
      try clear hfz23_3
      try clear hfz25_0
      try clear hfz25_1
      try clear hfz25_2
      try clear hfz25_3
      try clear hfz26_0
      try clear hfz26_1
      try clear hfz26_2
      try clear hfz26_3
      try clear hfz28_0
      try clear hfz28_1
      try clear hfz28_2
      try clear hfz28_3
      try clear hfz29_0
      try clear hfz29_1
      try clear hfz29_2
      try clear hfz29_3
      try clear hfz33_0
      try clear hfz33_1
      try clear hfz33_2
      try clear hfz33_3
      try clear p2
      obtain ⟨kq, x43_30, rfl, HA, HJ30, BK463, HB⟩ := hcut
      cases kq with
      | zero => exact absurd HA.out (by simp [saronlaw06_sound.j2])
      | succ kj30 =>
       have H := HA.out
       clear HA
       simp only [saronlaw06_sound.j2] at H
       by_cases c34 : x43_30 = true
       ·subst c34
        have H1 : (if 0 ≤ x4_2 then (if x4_2 < (l0_3.length : Int) then ((saronref00_Sits.f ((rd_T66 l0_3 x4_2).f0) 0 4).bind fun t471 => (if t471 = true then ((saronref00_Band.f ((rd_T66 l0_3 x4_2).f1) ((rd_T66 l0_3 x4_2).f2)).bind fun bt472 => ((saronref00_Good.f bt472.1 bt472.2 0 (wrap64 ((wrap64 (a0_0 * a0_1)) - 1))).bind fun t474 => (if t474 = true then ((saronref00_Sits.f ((rd_T66 l0_3 x4_2).f3) (-6) 6).bind fun t475 => (saronlaw06_sound.l0 kj30 t475 (wrap64 (x4_2 + 1)) a0_0 a0_1 a0_2 l0_3)) else (saronlaw06_sound.l0 kj30 false (wrap64 (x4_2 + 1)) a0_0 a0_1 a0_2 l0_3)))) else (saronlaw06_sound.l0 kj30 false (wrap64 (x4_2 + 1)) a0_0 a0_1 a0_2 l0_3))) else (none)) else (none)) = some r := by rw [if_pos rfl] at H; exact H
        clear H
        have H := H1
        clear H1
        by_cases c35 : 0 ≤ x4_2
        ·rw [if_pos c35] at H
         have c35b0 : decide (0 ≤ x4_2) = true := decide_eq_true c35
         clear c35
         by_cases c36 : x4_2 < (l0_3.length : Int)
         ·rw [if_pos c36] at H
          have c36b0 : decide (x4_2 < (l0_3.length : Int)) = true := decide_eq_true c36
          clear c36
          replace H := Option.bind_eq_some_iff.mp H
          obtain ⟨t471, A370, H⟩ := H
          replace H : (if t471 = true then ((saronref00_Band.f ((rd_T66 l0_3 x4_2).f1) ((rd_T66 l0_3 x4_2).f2)).bind fun bt472 => ((saronref00_Good.f bt472.1 bt472.2 0 (wrap64 ((wrap64 (a0_0 * a0_1)) - 1))).bind fun t474 => (if t474 = true then ((saronref00_Sits.f ((rd_T66 l0_3 x4_2).f3) (-6) 6).bind fun t475 => (saronlaw06_sound.l0 kj30 t475 (wrap64 (x4_2 + 1)) a0_0 a0_1 a0_2 l0_3)) else (saronlaw06_sound.l0 kj30 false (wrap64 (x4_2 + 1)) a0_0 a0_1 a0_2 l0_3)))) else (saronlaw06_sound.l0 kj30 false (wrap64 (x4_2 + 1)) a0_0 a0_1 a0_2 l0_3)) = some r := H
          have A37 := zh A370
          clear A370
          by_cases c38 : t471 = true
          ·subst c38
           have H1 : ((saronref00_Band.f ((rd_T66 l0_3 x4_2).f1) ((rd_T66 l0_3 x4_2).f2)).bind fun bt472 => ((saronref00_Good.f bt472.1 bt472.2 0 (wrap64 ((wrap64 (a0_0 * a0_1)) - 1))).bind fun t474 => (if t474 = true then ((saronref00_Sits.f ((rd_T66 l0_3 x4_2).f3) (-6) 6).bind fun t475 => (saronlaw06_sound.l0 kj30 t475 (wrap64 (x4_2 + 1)) a0_0 a0_1 a0_2 l0_3)) else (saronlaw06_sound.l0 kj30 false (wrap64 (x4_2 + 1)) a0_0 a0_1 a0_2 l0_3)))) = some r := by rw [if_pos rfl] at H; exact H
           clear H
           have H := H1
           clear H1
           replace H := Option.bind_eq_some_iff.mp H
           obtain ⟨⟨t472, t473⟩, A390, H⟩ := H
           replace H : ((saronref00_Good.f t472 t473 0 (wrap64 ((wrap64 (a0_0 * a0_1)) - 1))).bind fun t474 => (if t474 = true then ((saronref00_Sits.f ((rd_T66 l0_3 x4_2).f3) (-6) 6).bind fun t475 => (saronlaw06_sound.l0 kj30 t475 (wrap64 (x4_2 + 1)) a0_0 a0_1 a0_2 l0_3)) else (saronlaw06_sound.l0 kj30 false (wrap64 (x4_2 + 1)) a0_0 a0_1 a0_2 l0_3))) = some r := H
           have A39 := zh A390
           clear A390
           replace H := Option.bind_eq_some_iff.mp H
           obtain ⟨t474, A400, H⟩ := H
           replace H : (if t474 = true then ((saronref00_Sits.f ((rd_T66 l0_3 x4_2).f3) (-6) 6).bind fun t475 => (saronlaw06_sound.l0 kj30 t475 (wrap64 (x4_2 + 1)) a0_0 a0_1 a0_2 l0_3)) else (saronlaw06_sound.l0 kj30 false (wrap64 (x4_2 + 1)) a0_0 a0_1 a0_2 l0_3)) = some r := H
           have A40 := zh A400
           clear A400
           by_cases c41 : t474 = true
           ·subst c41
            have H1 : ((saronref00_Sits.f ((rd_T66 l0_3 x4_2).f3) (-6) 6).bind fun t475 => (saronlaw06_sound.l0 kj30 t475 (wrap64 (x4_2 + 1)) a0_0 a0_1 a0_2 l0_3)) = some r := by rw [if_pos rfl] at H; exact H
            clear H
            have H := H1
            clear H1
            replace H := Option.bind_eq_some_iff.mp H
            obtain ⟨t475, A420, H⟩ := H
            replace H : (saronlaw06_sound.l0 kj30 t475 (wrap64 (x4_2 + 1)) a0_0 a0_1 a0_2 l0_3) = some r := H
            have A42 := zh A420
            clear A420
            have H' := zh H
            clear H
            have hcz43_0 : wc.cell? ⟨gb463, 0, none⟩ = some (.int .i64 a0_0) := vb BK463 0
            have hcz43_1 : wc.cell? ⟨gb463, 1, none⟩ = some (.int .i64 a0_1) := vb BK463 1
            have hcz43_2 : wc.cell? ⟨gb463, 2, none⟩ = some (.int .i64 a0_2) := vb BK463 2
            have hcz43_3 : wc.cell? ⟨gb463, 3, none⟩ = some (.slice A0_3 l0_3.length c0_3) := vb BK463 3
            have hfz43_0 := blk_frozen BK463.out 0
            have hfz43_1 := blk_frozen BK463.out 1
            have hfz43_2 := blk_frozen BK463.out 2
            have hfz43_3 := blk_frozen BK463.out 3
            have p469 : 0 ≤ (x4_2 : Int) := of_decide_eq_true zs
            have q469 : x4_2 < (l0_3.length : Int) := of_decide_eq_true zs
            obtain ⟨ad469, e469, hx469_0, hx469_1, hx469_2, hx469_3⟩ := at_T66 HR0_3.out x4_2 p469 q469
            cases e469
            replace hx469_0 := ve HB.out hx469_0
            replace hx469_1 := ve HB.out hx469_1
            replace hx469_2 := ve HB.out hx469_2
            replace hx469_3 := ve HB.out hx469_3
            replace p469 := eq_true p469
            replace q469 := eq_true q469
            try go_wp2_with (first | ((with_reducible refine gate_dst (N := 5) rfl ?_); (try (refine gate_guard (by rfl) ?_; dsimp only)); refine box_event ?hg (N := 5) ?hd (cs := #[.int .i64 0, .int .i64 0, .int .i64 0, .int .i64 0]) (t := 66) ?hr ?_; (case hd => rfl); (case hg => rfl); (case hr => first | (go_simp; done) | (go_simp; rfl)); intro gb470 hg w44 hbox hb; have n0_ := zh (blk_below (g := gb463) (o := .cells #[.int .i64 a0_0, .int .i64 a0_1, .int .i64 a0_2, .slice (some ad469) l0_3.length c0_3] 24 (0, 0)) (zc BK463) hb); have n1_ := zh (below_step zb hb); have n2_ := zh (hbox); have n3_ := zh ((by rw [hg]; exact (below_size zb) : w.heap.size ≤ gb470)); have n4_ := zh ((by rw [hg]; exact (below_size zb) : w.heap.size ≤ gb470)); have n5_ := zh ((by rw [hg]; exact Nat.ne_of_lt (blk_lt (g := gb463) (o := .cells #[.int .i64 a0_0, .int .i64 a0_1, .int .i64 a0_2, .slice (some ad469) l0_3.length c0_3] 24 (0, 0)) (zc BK463)) : gb463 ≠ gb470)); have n6_ := zh ((by rw [hg]; exact Nat.ne_of_gt (blk_lt (g := gb463) (o := .cells #[.int .i64 a0_0, .int .i64 a0_1, .int .i64 a0_2, .slice (some ad469) l0_3.length c0_3] 24 (0, 0)) (zc BK463)) : gb470 ≠ gb463)); clear BK463; clear HB; have BK463 := n0_; have HB := n1_; have BK470 := n2_; have GW470 := n3_; have GE470 := n4_; have NB463_470 := n5_; have NB470_463 := n6_; clear n0_ n1_ n2_ n3_ n4_ n5_ n6_; clear hb hbox hg; have hnb45 := NB470_463.out; have hnc45 := NB463_470.out; have hcz46_0 : w44.cell? ⟨gb470, 0, none⟩ = some (.int .i64 0) := vb BK470 0; have hcz46_1 : w44.cell? ⟨gb470, 1, none⟩ = some (.int .i64 0) := vb BK470 1; have hcz46_2 : w44.cell? ⟨gb470, 2, none⟩ = some (.int .i64 0) := vb BK470 2; have hcz46_3 : w44.cell? ⟨gb470, 3, none⟩ = some (.int .i64 0) := vb BK470 3; have hfz46_0 := blk_frozen BK470.out 0; have hfz46_1 := blk_frozen BK470.out 1; have hfz46_2 := blk_frozen BK470.out 2; have hfz46_3 := blk_frozen BK470.out 3))
            have n0_ : Aside0 (((((w44.setCell ⟨gb470, 0, none⟩ (.int .i64 ((rd_T66 l0_3 x4_2).f0))).setCell ⟨gb470, 1, none⟩ (.int .i64 ((rd_T66 l0_3 x4_2).f1))).setCell ⟨gb470, 2, none⟩ (.int .i64 ((rd_T66 l0_3 x4_2).f2))).setCell ⟨gb470, 3, none⟩ (.int .i64 ((rd_T66 l0_3 x4_2).f3))).heap[gb463]? = some (.cells #[.int .i64 a0_0, .int .i64 a0_1, .int .i64 a0_2, .slice (some ad469) l0_3.length c0_3] 24 (0, 0))) := ⟨by (with_reducible repeat (first | refine blk_drewN ?_ _ | refine blk_drew ?_ | refine blk_alloc ?_ _)); refine blk_far ?_ NB463_470.out _; (with_reducible repeat (first | refine blk_drewN ?_ _ | refine blk_drew ?_ | refine blk_alloc ?_ _)); refine blk_far ?_ NB463_470.out _; (with_reducible repeat (first | refine blk_drewN ?_ _ | refine blk_drew ?_ | refine blk_alloc ?_ _)); refine blk_far ?_ NB463_470.out _; (with_reducible repeat (first | refine blk_drewN ?_ _ | refine blk_drew ?_ | refine blk_alloc ?_ _)); refine blk_far ?_ NB463_470.out _; (with_reducible repeat (first | refine blk_drewN ?_ _ | refine blk_drew ?_ | refine blk_alloc ?_ _)); exact BK463.out⟩
            have n1_ : Aside0 (((((w44.setCell ⟨gb470, 0, none⟩ (.int .i64 ((rd_T66 l0_3 x4_2).f0))).setCell ⟨gb470, 1, none⟩ (.int .i64 ((rd_T66 l0_3 x4_2).f1))).setCell ⟨gb470, 2, none⟩ (.int .i64 ((rd_T66 l0_3 x4_2).f2))).setCell ⟨gb470, 3, none⟩ (.int .i64 ((rd_T66 l0_3 x4_2).f3))).heap[gb470]? = some (.cells #[.int .i64 ((rd_T66 l0_3 x4_2).f0), .int .i64 ((rd_T66 l0_3 x4_2).f1), .int .i64 ((rd_T66 l0_3 x4_2).f2), .int .i64 ((rd_T66 l0_3 x4_2).f3)] 66 (0, 0))) := ⟨by (with_reducible repeat (first | refine blk_drewN ?_ _ | refine blk_drew ?_ | refine blk_alloc ?_ _)); refine blk_put (cs := #[.int .i64 ((rd_T66 l0_3 x4_2).f0), .int .i64 ((rd_T66 l0_3 x4_2).f1), .int .i64 ((rd_T66 l0_3 x4_2).f2), .int .i64 0]) ?_ 3 _ rfl; (with_reducible repeat (first | refine blk_drewN ?_ _ | refine blk_drew ?_ | refine blk_alloc ?_ _)); refine blk_put (cs := #[.int .i64 ((rd_T66 l0_3 x4_2).f0), .int .i64 ((rd_T66 l0_3 x4_2).f1), .int .i64 0, .int .i64 0]) ?_ 2 _ rfl; (with_reducible repeat (first | refine blk_drewN ?_ _ | refine blk_drew ?_ | refine blk_alloc ?_ _)); refine blk_put (cs := #[.int .i64 ((rd_T66 l0_3 x4_2).f0), .int .i64 0, .int .i64 0, .int .i64 0]) ?_ 1 _ rfl; (with_reducible repeat (first | refine blk_drewN ?_ _ | refine blk_drew ?_ | refine blk_alloc ?_ _)); refine blk_put (cs := #[.int .i64 0, .int .i64 0, .int .i64 0, .int .i64 0]) ?_ 0 _ rfl; (with_reducible repeat (first | refine blk_drewN ?_ _ | refine blk_drew ?_ | refine blk_alloc ?_ _)); exact BK470.out⟩
            have n2_ : Aside0 (Below w.heap.size w ((((w44.setCell ⟨gb470, 0, none⟩ (.int .i64 ((rd_T66 l0_3 x4_2).f0))).setCell ⟨gb470, 1, none⟩ (.int .i64 ((rd_T66 l0_3 x4_2).f1))).setCell ⟨gb470, 2, none⟩ (.int .i64 ((rd_T66 l0_3 x4_2).f2))).setCell ⟨gb470, 3, none⟩ (.int .i64 ((rd_T66 l0_3 x4_2).f3)))) := ⟨zb⟩
            (try clear BK463)
            (try clear BK470)
            (try clear HB)
            generalize ((((w44.setCell ⟨gb470, 0, none⟩ (.int .i64 ((rd_T66 l0_3 x4_2).f0))).setCell ⟨gb470, 1, none⟩ (.int .i64 ((rd_T66 l0_3 x4_2).f1))).setCell ⟨gb470, 2, none⟩ (.int .i64 ((rd_T66 l0_3 x4_2).f2))).setCell ⟨gb470, 3, none⟩ (.int .i64 ((rd_T66 l0_3 x4_2).f3))) = w47 at n0_ n1_ n2_ ⊢
            have BK463 := n0_
            have BK470 := n1_
            have HB := n2_
            clear n0_ n1_ n2_
            replace BK463 := zh (blk_drew BK463.out)
            replace BK470 := zh (blk_drew BK470.out)
            replace HB := zh (below_drew1 HB.out)
            refine start_ (n := 23) (S := fun w' => w'.cell? ⟨gb470, 0, none⟩ = some (.int .i64 ((rd_T66 l0_3 x4_2).f0)) ∧ w'.cell? ⟨gb470, 1, none⟩ = some (.int .i64 ((rd_T66 l0_3 x4_2).f1)) ∧ w'.cell? ⟨gb470, 2, none⟩ = some (.int .i64 ((rd_T66 l0_3 x4_2).f2)) ∧ w'.cell? ⟨gb470, 3, none⟩ = some (.int .i64 ((rd_T66 l0_3 x4_2).f3)) ∧ w'.cell? ⟨gb463, 0, none⟩ = some (.int .i64 a0_0) ∧ w'.cell? ⟨gb463, 1, none⟩ = some (.int .i64 a0_1) ∧ w'.cell? ⟨gb463, 2, none⟩ = some (.int .i64 a0_2) ∧ w'.cell? ⟨gb463, 3, none⟩ = some (.slice (some ad469) l0_3.length c0_3)) (ds := []) (Array.replicate 23 false) zk rfl rfl ⟨vb BK470 0, vb BK470 1, vb BK470 2, vb BK470 3, vb BK463 0, vb BK463 1, vb BK463 2, vb BK463 3⟩ (fun hHeld => ?_); refine with_tabW saronlaw06_sound.tab6 saronlaw06_sound.bits6 (fun HT_ HW_ => ?_)
            generalize w47.drew = w48 at BK463 BK470 HB hHeld ⊢
            refine zu 0 ?_
            refine zt 1 ?_
            refine zo 2 (fun K hK => ?_)
            refine goes_ Tryd.func45 zk rfl #[.int .i64 ((rd_T66 l0_3 x4_2).f0), .int .i64 0, .int .i64 4] (by rfl) rfl rfl zm ?_
            with_reducible refine (saronref00_Sits.calls ((rd_T66 l0_3 x4_2).f0) 0 4 true _ A37.out).mono ?_
            rintro e w' ⟨rfl, ⟨nd, rfl⟩⟩
            refine ⟨_, rfl, ?_⟩
            refine hK.out _ _ ⟨vb BK470 0, vb BK470 1, vb BK470 2, vb BK470 3, vb BK463 0, vb BK463 1, vb BK463 2, vb BK463 3⟩ (fun hHeld => ?_)
            clear hK K
            refine zr 53 _ ?_
            refine zu 3 ?_
            refine zu 4 ?_
            refine zu 6 ?_
            refine zu 9 ?_
            refine zu 11 ?_
            refine zt 5 ?_
            refine zt 7 ?_
            refine zt 10 ?_
            refine zt 12 ?_
            refine zu 13 ?_
            refine zu 14 ?_
            refine zo 8 (fun K hK => ?_)
            refine goes_ Tryd.func61 zk rfl #[.int .i64 ((rd_T66 l0_3 x4_2).f1), .int .i64 ((rd_T66 l0_3 x4_2).f2)] (by rfl) rfl rfl zm ?_
            with_reducible refine (saronref00_Band.calls ((rd_T66 l0_3 x4_2).f1) ((rd_T66 l0_3 x4_2).f2) t472 t473 _ A39.out).mono ?_
            rintro e w49 ⟨rfl, hb⟩
            refine ⟨_, rfl, ?_⟩
            replace BK463 := zh (blk_below (g := gb463) (o := .cells #[.int .i64 a0_0, .int .i64 a0_1, .int .i64 a0_2, .slice (some ad469) l0_3.length c0_3] 24 (0, 0)) (zc BK463) hb)
            replace BK470 := zh (blk_below (g := gb470) (o := .cells #[.int .i64 ((rd_T66 l0_3 x4_2).f0), .int .i64 ((rd_T66 l0_3 x4_2).f1), .int .i64 ((rd_T66 l0_3 x4_2).f2), .int .i64 ((rd_T66 l0_3 x4_2).f3)] 66 (0, 0)) (zc BK470) hb)
            replace HB := zh (below_step zb hb)
            (try clear hb)
            (try clear hb2)
            (try clear hk)
            (try clear hi)
            refine hK.out _ _ ⟨vb BK470 0, vb BK470 1, vb BK470 2, vb BK470 3, vb BK463 0, vb BK463 1, vb BK463 2, vb BK463 3⟩ (fun hHeld => ?_)
            clear hK K
            refine zr 59 _ ?_
            refine zo 15 (fun K hK => ?_)
            refine goes_ Tryd.func60 zk rfl #[.agg #[.int .i64 t472, .int .i64 t473], .int .i64 0, .int .i64 (wrap64 ((wrap64 (a0_0 * a0_1)) - 1))] (by rfl) rfl rfl zm ?_
            with_reducible refine (saronref00_Good.calls t472 t473 0 (wrap64 ((wrap64 (a0_0 * a0_1)) - 1)) true _ A40.out).mono ?_
            rintro e w50 ⟨rfl, hb⟩
            refine ⟨_, rfl, ?_⟩
            replace BK463 := zh (blk_below (g := gb463) (o := .cells #[.int .i64 a0_0, .int .i64 a0_1, .int .i64 a0_2, .slice (some ad469) l0_3.length c0_3] 24 (0, 0)) (zc BK463) hb)
            replace BK470 := zh (blk_below (g := gb470) (o := .cells #[.int .i64 ((rd_T66 l0_3 x4_2).f0), .int .i64 ((rd_T66 l0_3 x4_2).f1), .int .i64 ((rd_T66 l0_3 x4_2).f2), .int .i64 ((rd_T66 l0_3 x4_2).f3)] 66 (0, 0)) (zc BK470) hb)
            replace HB := zh (below_step zb hb)
            (try clear hb)
            (try clear hb2)
            (try clear hk)
            (try clear hi)
            refine hK.out _ _ ⟨vb BK470 0, vb BK470 1, vb BK470 2, vb BK470 3, vb BK463 0, vb BK463 1, vb BK463 2, vb BK463 3⟩ (fun hHeld => ?_)
            clear hK K
            refine zr 66 _ ?_
            refine zu 16 ?_
            refine zu 17 ?_
            refine zu 18 ?_
            refine zt 19 ?_
            refine zo 20 (fun K hK => ?_)
            refine goes_ Tryd.func45 zk rfl #[.int .i64 ((rd_T66 l0_3 x4_2).f3), .int .i64 (-6), .int .i64 6] (by rfl) rfl rfl zm ?_
            with_reducible refine (saronref00_Sits.calls ((rd_T66 l0_3 x4_2).f3) (-6) 6 t475 _ A42.out).mono ?_
            rintro e w' ⟨rfl, ⟨nd, rfl⟩⟩
            refine ⟨_, rfl, ?_⟩
            refine hK.out _ _ ⟨vb BK470 0, vb BK470 1, vb BK470 2, vb BK470 3, vb BK463 0, vb BK463 1, vb BK463 2, vb BK463 3⟩ (fun hHeld => ?_)
            clear hK K
            refine zr 71 _ ?_
            refine zu 21 ?_
            refine zu 22 ?_
            refine zd ?_
            try go_wp2
            go_roundg kj30
            case measure => have := HJ1.out; have := HK2.out; have := HJ30.out; omega
            case rel => exact ⟨(t475), (wrap64 (x4_2 + 1)), ze, ze, H', ⟨by have := HJ1.out; have := HK2.out; have := HJ30.out; omega⟩, ⟨zc BK463⟩, ⟨zb⟩⟩
           ·replace c41 := Bool.eq_false_iff.mpr c41
            subst c41
            have H1 : (saronlaw06_sound.l0 kj30 false (wrap64 (x4_2 + 1)) a0_0 a0_1 a0_2 l0_3) = some r := by rw [if_neg (show ¬ (false = true) by decide)] at H; exact H
            clear H
            have H := H1
            clear H1
            have H' := zh H
            clear H
            have hcz51_0 : wc.cell? ⟨gb463, 0, none⟩ = some (.int .i64 a0_0) := vb BK463 0
            have hcz51_1 : wc.cell? ⟨gb463, 1, none⟩ = some (.int .i64 a0_1) := vb BK463 1
            have hcz51_2 : wc.cell? ⟨gb463, 2, none⟩ = some (.int .i64 a0_2) := vb BK463 2
            have hcz51_3 : wc.cell? ⟨gb463, 3, none⟩ = some (.slice A0_3 l0_3.length c0_3) := vb BK463 3
            have hfz51_0 := blk_frozen BK463.out 0
            have hfz51_1 := blk_frozen BK463.out 1
            have hfz51_2 := blk_frozen BK463.out 2
            have hfz51_3 := blk_frozen BK463.out 3
            have p469 : 0 ≤ (x4_2 : Int) := of_decide_eq_true zs
            have q469 : x4_2 < (l0_3.length : Int) := of_decide_eq_true zs
            obtain ⟨ad469, e469, hx469_0, hx469_1, hx469_2, hx469_3⟩ := at_T66 HR0_3.out x4_2 p469 q469
            cases e469
            replace hx469_0 := ve HB.out hx469_0
            replace hx469_1 := ve HB.out hx469_1
            replace hx469_2 := ve HB.out hx469_2
            replace hx469_3 := ve HB.out hx469_3
            replace p469 := eq_true p469
            replace q469 := eq_true q469
            try go_wp2_with (first | ((with_reducible refine gate_dst (N := 5) rfl ?_); (try (refine gate_guard (by rfl) ?_; dsimp only)); refine box_event ?hg (N := 5) ?hd (cs := #[.int .i64 0, .int .i64 0, .int .i64 0, .int .i64 0]) (t := 66) ?hr ?_; (case hd => rfl); (case hg => rfl); (case hr => first | (go_simp; done) | (go_simp; rfl)); intro gb470 hg w52 hbox hb; have n0_ := zh (blk_below (g := gb463) (o := .cells #[.int .i64 a0_0, .int .i64 a0_1, .int .i64 a0_2, .slice (some ad469) l0_3.length c0_3] 24 (0, 0)) (zc BK463) hb); have n1_ := zh (below_step zb hb); have n2_ := zh (hbox); have n3_ := zh ((by rw [hg]; exact (below_size zb) : w.heap.size ≤ gb470)); have n4_ := zh ((by rw [hg]; exact (below_size zb) : w.heap.size ≤ gb470)); have n5_ := zh ((by rw [hg]; exact Nat.ne_of_lt (blk_lt (g := gb463) (o := .cells #[.int .i64 a0_0, .int .i64 a0_1, .int .i64 a0_2, .slice (some ad469) l0_3.length c0_3] 24 (0, 0)) (zc BK463)) : gb463 ≠ gb470)); have n6_ := zh ((by rw [hg]; exact Nat.ne_of_gt (blk_lt (g := gb463) (o := .cells #[.int .i64 a0_0, .int .i64 a0_1, .int .i64 a0_2, .slice (some ad469) l0_3.length c0_3] 24 (0, 0)) (zc BK463)) : gb470 ≠ gb463)); clear BK463; clear HB; have BK463 := n0_; have HB := n1_; have BK470 := n2_; have GW470 := n3_; have GE470 := n4_; have NB463_470 := n5_; have NB470_463 := n6_; clear n0_ n1_ n2_ n3_ n4_ n5_ n6_; clear hb hbox hg; have hnb53 := NB470_463.out; have hnc53 := NB463_470.out; have hcz54_0 : w52.cell? ⟨gb470, 0, none⟩ = some (.int .i64 0) := vb BK470 0; have hcz54_1 : w52.cell? ⟨gb470, 1, none⟩ = some (.int .i64 0) := vb BK470 1; have hcz54_2 : w52.cell? ⟨gb470, 2, none⟩ = some (.int .i64 0) := vb BK470 2; have hcz54_3 : w52.cell? ⟨gb470, 3, none⟩ = some (.int .i64 0) := vb BK470 3; have hfz54_0 := blk_frozen BK470.out 0; have hfz54_1 := blk_frozen BK470.out 1; have hfz54_2 := blk_frozen BK470.out 2; have hfz54_3 := blk_frozen BK470.out 3))
            have n0_ : Aside0 (((((w52.setCell ⟨gb470, 0, none⟩ (.int .i64 ((rd_T66 l0_3 x4_2).f0))).setCell ⟨gb470, 1, none⟩ (.int .i64 ((rd_T66 l0_3 x4_2).f1))).setCell ⟨gb470, 2, none⟩ (.int .i64 ((rd_T66 l0_3 x4_2).f2))).setCell ⟨gb470, 3, none⟩ (.int .i64 ((rd_T66 l0_3 x4_2).f3))).heap[gb463]? = some (.cells #[.int .i64 a0_0, .int .i64 a0_1, .int .i64 a0_2, .slice (some ad469) l0_3.length c0_3] 24 (0, 0))) := ⟨by (with_reducible repeat (first | refine blk_drewN ?_ _ | refine blk_drew ?_ | refine blk_alloc ?_ _)); refine blk_far ?_ NB463_470.out _; (with_reducible repeat (first | refine blk_drewN ?_ _ | refine blk_drew ?_ | refine blk_alloc ?_ _)); refine blk_far ?_ NB463_470.out _; (with_reducible repeat (first | refine blk_drewN ?_ _ | refine blk_drew ?_ | refine blk_alloc ?_ _)); refine blk_far ?_ NB463_470.out _; (with_reducible repeat (first | refine blk_drewN ?_ _ | refine blk_drew ?_ | refine blk_alloc ?_ _)); refine blk_far ?_ NB463_470.out _; (with_reducible repeat (first | refine blk_drewN ?_ _ | refine blk_drew ?_ | refine blk_alloc ?_ _)); exact BK463.out⟩
            have n1_ : Aside0 (((((w52.setCell ⟨gb470, 0, none⟩ (.int .i64 ((rd_T66 l0_3 x4_2).f0))).setCell ⟨gb470, 1, none⟩ (.int .i64 ((rd_T66 l0_3 x4_2).f1))).setCell ⟨gb470, 2, none⟩ (.int .i64 ((rd_T66 l0_3 x4_2).f2))).setCell ⟨gb470, 3, none⟩ (.int .i64 ((rd_T66 l0_3 x4_2).f3))).heap[gb470]? = some (.cells #[.int .i64 ((rd_T66 l0_3 x4_2).f0), .int .i64 ((rd_T66 l0_3 x4_2).f1), .int .i64 ((rd_T66 l0_3 x4_2).f2), .int .i64 ((rd_T66 l0_3 x4_2).f3)] 66 (0, 0))) := ⟨by (with_reducible repeat (first | refine blk_drewN ?_ _ | refine blk_drew ?_ | refine blk_alloc ?_ _)); refine blk_put (cs := #[.int .i64 ((rd_T66 l0_3 x4_2).f0), .int .i64 ((rd_T66 l0_3 x4_2).f1), .int .i64 ((rd_T66 l0_3 x4_2).f2), .int .i64 0]) ?_ 3 _ rfl; (with_reducible repeat (first | refine blk_drewN ?_ _ | refine blk_drew ?_ | refine blk_alloc ?_ _)); refine blk_put (cs := #[.int .i64 ((rd_T66 l0_3 x4_2).f0), .int .i64 ((rd_T66 l0_3 x4_2).f1), .int .i64 0, .int .i64 0]) ?_ 2 _ rfl; (with_reducible repeat (first | refine blk_drewN ?_ _ | refine blk_drew ?_ | refine blk_alloc ?_ _)); refine blk_put (cs := #[.int .i64 ((rd_T66 l0_3 x4_2).f0), .int .i64 0, .int .i64 0, .int .i64 0]) ?_ 1 _ rfl; (with_reducible repeat (first | refine blk_drewN ?_ _ | refine blk_drew ?_ | refine blk_alloc ?_ _)); refine blk_put (cs := #[.int .i64 0, .int .i64 0, .int .i64 0, .int .i64 0]) ?_ 0 _ rfl; (with_reducible repeat (first | refine blk_drewN ?_ _ | refine blk_drew ?_ | refine blk_alloc ?_ _)); exact BK470.out⟩
            have n2_ : Aside0 (Below w.heap.size w ((((w52.setCell ⟨gb470, 0, none⟩ (.int .i64 ((rd_T66 l0_3 x4_2).f0))).setCell ⟨gb470, 1, none⟩ (.int .i64 ((rd_T66 l0_3 x4_2).f1))).setCell ⟨gb470, 2, none⟩ (.int .i64 ((rd_T66 l0_3 x4_2).f2))).setCell ⟨gb470, 3, none⟩ (.int .i64 ((rd_T66 l0_3 x4_2).f3)))) := ⟨zb⟩
            (try clear BK463)
            (try clear BK470)
            (try clear HB)
            generalize ((((w52.setCell ⟨gb470, 0, none⟩ (.int .i64 ((rd_T66 l0_3 x4_2).f0))).setCell ⟨gb470, 1, none⟩ (.int .i64 ((rd_T66 l0_3 x4_2).f1))).setCell ⟨gb470, 2, none⟩ (.int .i64 ((rd_T66 l0_3 x4_2).f2))).setCell ⟨gb470, 3, none⟩ (.int .i64 ((rd_T66 l0_3 x4_2).f3))) = w55 at n0_ n1_ n2_ ⊢
            have BK463 := n0_
            have BK470 := n1_
            have HB := n2_
            clear n0_ n1_ n2_
            replace BK463 := zh (blk_drew BK463.out)
            replace BK470 := zh (blk_drew BK470.out)
            replace HB := zh (below_drew1 HB.out)
            refine start_ (n := 23) (S := fun w' => w'.cell? ⟨gb470, 0, none⟩ = some (.int .i64 ((rd_T66 l0_3 x4_2).f0)) ∧ w'.cell? ⟨gb470, 1, none⟩ = some (.int .i64 ((rd_T66 l0_3 x4_2).f1)) ∧ w'.cell? ⟨gb470, 2, none⟩ = some (.int .i64 ((rd_T66 l0_3 x4_2).f2)) ∧ w'.cell? ⟨gb470, 3, none⟩ = some (.int .i64 ((rd_T66 l0_3 x4_2).f3)) ∧ w'.cell? ⟨gb463, 0, none⟩ = some (.int .i64 a0_0) ∧ w'.cell? ⟨gb463, 1, none⟩ = some (.int .i64 a0_1) ∧ w'.cell? ⟨gb463, 2, none⟩ = some (.int .i64 a0_2) ∧ w'.cell? ⟨gb463, 3, none⟩ = some (.slice (some ad469) l0_3.length c0_3)) (ds := []) (Array.replicate 23 false) zk rfl rfl ⟨vb BK470 0, vb BK470 1, vb BK470 2, vb BK470 3, vb BK463 0, vb BK463 1, vb BK463 2, vb BK463 3⟩ (fun hHeld => ?_); refine with_tabW saronlaw06_sound.tab6 saronlaw06_sound.bits6 (fun HT_ HW_ => ?_)
            generalize w55.drew = w56 at BK463 BK470 HB hHeld ⊢
            refine zu 0 ?_
            refine zt 1 ?_
            refine zo 2 (fun K hK => ?_)
            refine goes_ Tryd.func45 zk rfl #[.int .i64 ((rd_T66 l0_3 x4_2).f0), .int .i64 0, .int .i64 4] (by rfl) rfl rfl zm ?_
            with_reducible refine (saronref00_Sits.calls ((rd_T66 l0_3 x4_2).f0) 0 4 true _ A37.out).mono ?_
            rintro e w' ⟨rfl, ⟨nd, rfl⟩⟩
            refine ⟨_, rfl, ?_⟩
            refine hK.out _ _ ⟨vb BK470 0, vb BK470 1, vb BK470 2, vb BK470 3, vb BK463 0, vb BK463 1, vb BK463 2, vb BK463 3⟩ (fun hHeld => ?_)
            clear hK K
            refine zr 53 _ ?_
            refine zu 3 ?_
            refine zu 4 ?_
            refine zu 6 ?_
            refine zu 9 ?_
            refine zu 11 ?_
            refine zt 5 ?_
            refine zt 7 ?_
            refine zt 10 ?_
            refine zt 12 ?_
            refine zu 13 ?_
            refine zu 14 ?_
            refine zo 8 (fun K hK => ?_)
            refine goes_ Tryd.func61 zk rfl #[.int .i64 ((rd_T66 l0_3 x4_2).f1), .int .i64 ((rd_T66 l0_3 x4_2).f2)] (by rfl) rfl rfl zm ?_
            with_reducible refine (saronref00_Band.calls ((rd_T66 l0_3 x4_2).f1) ((rd_T66 l0_3 x4_2).f2) t472 t473 _ A39.out).mono ?_
            rintro e w57 ⟨rfl, hb⟩
            refine ⟨_, rfl, ?_⟩
            replace BK463 := zh (blk_below (g := gb463) (o := .cells #[.int .i64 a0_0, .int .i64 a0_1, .int .i64 a0_2, .slice (some ad469) l0_3.length c0_3] 24 (0, 0)) (zc BK463) hb)
            replace BK470 := zh (blk_below (g := gb470) (o := .cells #[.int .i64 ((rd_T66 l0_3 x4_2).f0), .int .i64 ((rd_T66 l0_3 x4_2).f1), .int .i64 ((rd_T66 l0_3 x4_2).f2), .int .i64 ((rd_T66 l0_3 x4_2).f3)] 66 (0, 0)) (zc BK470) hb)
            replace HB := zh (below_step zb hb)
            (try clear hb)
            (try clear hb2)
            (try clear hk)
            (try clear hi)
            refine hK.out _ _ ⟨vb BK470 0, vb BK470 1, vb BK470 2, vb BK470 3, vb BK463 0, vb BK463 1, vb BK463 2, vb BK463 3⟩ (fun hHeld => ?_)
            clear hK K
            refine zr 59 _ ?_
            refine zo 15 (fun K hK => ?_)
            refine goes_ Tryd.func60 zk rfl #[.agg #[.int .i64 t472, .int .i64 t473], .int .i64 0, .int .i64 (wrap64 ((wrap64 (a0_0 * a0_1)) - 1))] (by rfl) rfl rfl zm ?_
            with_reducible refine (saronref00_Good.calls t472 t473 0 (wrap64 ((wrap64 (a0_0 * a0_1)) - 1)) false _ A40.out).mono ?_
            rintro e w58 ⟨rfl, hb⟩
            refine ⟨_, rfl, ?_⟩
            replace BK463 := zh (blk_below (g := gb463) (o := .cells #[.int .i64 a0_0, .int .i64 a0_1, .int .i64 a0_2, .slice (some ad469) l0_3.length c0_3] 24 (0, 0)) (zc BK463) hb)
            replace BK470 := zh (blk_below (g := gb470) (o := .cells #[.int .i64 ((rd_T66 l0_3 x4_2).f0), .int .i64 ((rd_T66 l0_3 x4_2).f1), .int .i64 ((rd_T66 l0_3 x4_2).f2), .int .i64 ((rd_T66 l0_3 x4_2).f3)] 66 (0, 0)) (zc BK470) hb)
            replace HB := zh (below_step zb hb)
            (try clear hb)
            (try clear hb2)
            (try clear hk)
            (try clear hi)
            refine hK.out _ _ ⟨vb BK470 0, vb BK470 1, vb BK470 2, vb BK470 3, vb BK463 0, vb BK463 1, vb BK463 2, vb BK463 3⟩ (fun hHeld => ?_)
            clear hK K
            refine zr 66 _ ?_
            refine zu 16 ?_
            refine zu 17 ?_
            refine zn 18 ?_
            refine zn 19 ?_
            refine zn 20 ?_
            refine zu 21 ?_
            refine zu 22 ?_
            refine zd ?_
            try go_wp2
            go_roundg kj30
            case measure => have := HJ1.out; have := HK2.out; have := HJ30.out; omega
            case rel => exact ⟨(false), (wrap64 (x4_2 + 1)), ze, ze, H', ⟨by have := HJ1.out; have := HK2.out; have := HJ30.out; omega⟩, ⟨zc BK463⟩, ⟨zb⟩⟩
          ·replace c38 := Bool.eq_false_iff.mpr c38
           subst c38
           have H1 : (saronlaw06_sound.l0 kj30 false (wrap64 (x4_2 + 1)) a0_0 a0_1 a0_2 l0_3) = some r := by rw [if_neg (show ¬ (false = true) by decide)] at H; exact H
           clear H
           have H := H1
           clear H1
           have H' := zh H
           clear H
           have hcz59_0 : wc.cell? ⟨gb463, 0, none⟩ = some (.int .i64 a0_0) := vb BK463 0
           have hcz59_1 : wc.cell? ⟨gb463, 1, none⟩ = some (.int .i64 a0_1) := vb BK463 1
           have hcz59_2 : wc.cell? ⟨gb463, 2, none⟩ = some (.int .i64 a0_2) := vb BK463 2
           have hcz59_3 : wc.cell? ⟨gb463, 3, none⟩ = some (.slice A0_3 l0_3.length c0_3) := vb BK463 3
           have hfz59_0 := blk_frozen BK463.out 0
           have hfz59_1 := blk_frozen BK463.out 1
           have hfz59_2 := blk_frozen BK463.out 2
           have hfz59_3 := blk_frozen BK463.out 3
           have p469 : 0 ≤ (x4_2 : Int) := of_decide_eq_true zs
           have q469 : x4_2 < (l0_3.length : Int) := of_decide_eq_true zs
           obtain ⟨ad469, e469, hx469_0, hx469_1, hx469_2, hx469_3⟩ := at_T66 HR0_3.out x4_2 p469 q469
           cases e469
           replace hx469_0 := ve HB.out hx469_0
           replace hx469_1 := ve HB.out hx469_1
           replace hx469_2 := ve HB.out hx469_2
           replace hx469_3 := ve HB.out hx469_3
           replace p469 := eq_true p469
           replace q469 := eq_true q469
           try go_wp2_with (first | ((with_reducible refine gate_dst (N := 5) rfl ?_); (try (refine gate_guard (by rfl) ?_; dsimp only)); refine box_event ?hg (N := 5) ?hd (cs := #[.int .i64 0, .int .i64 0, .int .i64 0, .int .i64 0]) (t := 66) ?hr ?_; (case hd => rfl); (case hg => rfl); (case hr => first | (go_simp; done) | (go_simp; rfl)); intro gb470 hg w60 hbox hb; have n0_ := zh (blk_below (g := gb463) (o := .cells #[.int .i64 a0_0, .int .i64 a0_1, .int .i64 a0_2, .slice (some ad469) l0_3.length c0_3] 24 (0, 0)) (zc BK463) hb); have n1_ := zh (below_step zb hb); have n2_ := zh (hbox); have n3_ := zh ((by rw [hg]; exact (below_size zb) : w.heap.size ≤ gb470)); have n4_ := zh ((by rw [hg]; exact (below_size zb) : w.heap.size ≤ gb470)); have n5_ := zh ((by rw [hg]; exact Nat.ne_of_lt (blk_lt (g := gb463) (o := .cells #[.int .i64 a0_0, .int .i64 a0_1, .int .i64 a0_2, .slice (some ad469) l0_3.length c0_3] 24 (0, 0)) (zc BK463)) : gb463 ≠ gb470)); have n6_ := zh ((by rw [hg]; exact Nat.ne_of_gt (blk_lt (g := gb463) (o := .cells #[.int .i64 a0_0, .int .i64 a0_1, .int .i64 a0_2, .slice (some ad469) l0_3.length c0_3] 24 (0, 0)) (zc BK463)) : gb470 ≠ gb463)); clear BK463; clear HB; have BK463 := n0_; have HB := n1_; have BK470 := n2_; have GW470 := n3_; have GE470 := n4_; have NB463_470 := n5_; have NB470_463 := n6_; clear n0_ n1_ n2_ n3_ n4_ n5_ n6_; clear hb hbox hg; have hnb61 := NB470_463.out; have hnc61 := NB463_470.out; have hcz62_0 : w60.cell? ⟨gb470, 0, none⟩ = some (.int .i64 0) := vb BK470 0; have hcz62_1 : w60.cell? ⟨gb470, 1, none⟩ = some (.int .i64 0) := vb BK470 1; have hcz62_2 : w60.cell? ⟨gb470, 2, none⟩ = some (.int .i64 0) := vb BK470 2; have hcz62_3 : w60.cell? ⟨gb470, 3, none⟩ = some (.int .i64 0) := vb BK470 3; have hfz62_0 := blk_frozen BK470.out 0; have hfz62_1 := blk_frozen BK470.out 1; have hfz62_2 := blk_frozen BK470.out 2; have hfz62_3 := blk_frozen BK470.out 3))
           have n0_ : Aside0 (((((w60.setCell ⟨gb470, 0, none⟩ (.int .i64 ((rd_T66 l0_3 x4_2).f0))).setCell ⟨gb470, 1, none⟩ (.int .i64 ((rd_T66 l0_3 x4_2).f1))).setCell ⟨gb470, 2, none⟩ (.int .i64 ((rd_T66 l0_3 x4_2).f2))).setCell ⟨gb470, 3, none⟩ (.int .i64 ((rd_T66 l0_3 x4_2).f3))).heap[gb463]? = some (.cells #[.int .i64 a0_0, .int .i64 a0_1, .int .i64 a0_2, .slice (some ad469) l0_3.length c0_3] 24 (0, 0))) := ⟨by (with_reducible repeat (first | refine blk_drewN ?_ _ | refine blk_drew ?_ | refine blk_alloc ?_ _)); refine blk_far ?_ NB463_470.out _; (with_reducible repeat (first | refine blk_drewN ?_ _ | refine blk_drew ?_ | refine blk_alloc ?_ _)); refine blk_far ?_ NB463_470.out _; (with_reducible repeat (first | refine blk_drewN ?_ _ | refine blk_drew ?_ | refine blk_alloc ?_ _)); refine blk_far ?_ NB463_470.out _; (with_reducible repeat (first | refine blk_drewN ?_ _ | refine blk_drew ?_ | refine blk_alloc ?_ _)); refine blk_far ?_ NB463_470.out _; (with_reducible repeat (first | refine blk_drewN ?_ _ | refine blk_drew ?_ | refine blk_alloc ?_ _)); exact BK463.out⟩
           have n1_ : Aside0 (((((w60.setCell ⟨gb470, 0, none⟩ (.int .i64 ((rd_T66 l0_3 x4_2).f0))).setCell ⟨gb470, 1, none⟩ (.int .i64 ((rd_T66 l0_3 x4_2).f1))).setCell ⟨gb470, 2, none⟩ (.int .i64 ((rd_T66 l0_3 x4_2).f2))).setCell ⟨gb470, 3, none⟩ (.int .i64 ((rd_T66 l0_3 x4_2).f3))).heap[gb470]? = some (.cells #[.int .i64 ((rd_T66 l0_3 x4_2).f0), .int .i64 ((rd_T66 l0_3 x4_2).f1), .int .i64 ((rd_T66 l0_3 x4_2).f2), .int .i64 ((rd_T66 l0_3 x4_2).f3)] 66 (0, 0))) := ⟨by (with_reducible repeat (first | refine blk_drewN ?_ _ | refine blk_drew ?_ | refine blk_alloc ?_ _)); refine blk_put (cs := #[.int .i64 ((rd_T66 l0_3 x4_2).f0), .int .i64 ((rd_T66 l0_3 x4_2).f1), .int .i64 ((rd_T66 l0_3 x4_2).f2), .int .i64 0]) ?_ 3 _ rfl; (with_reducible repeat (first | refine blk_drewN ?_ _ | refine blk_drew ?_ | refine blk_alloc ?_ _)); refine blk_put (cs := #[.int .i64 ((rd_T66 l0_3 x4_2).f0), .int .i64 ((rd_T66 l0_3 x4_2).f1), .int .i64 0, .int .i64 0]) ?_ 2 _ rfl; (with_reducible repeat (first | refine blk_drewN ?_ _ | refine blk_drew ?_ | refine blk_alloc ?_ _)); refine blk_put (cs := #[.int .i64 ((rd_T66 l0_3 x4_2).f0), .int .i64 0, .int .i64 0, .int .i64 0]) ?_ 1 _ rfl; (with_reducible repeat (first | refine blk_drewN ?_ _ | refine blk_drew ?_ | refine blk_alloc ?_ _)); refine blk_put (cs := #[.int .i64 0, .int .i64 0, .int .i64 0, .int .i64 0]) ?_ 0 _ rfl; (with_reducible repeat (first | refine blk_drewN ?_ _ | refine blk_drew ?_ | refine blk_alloc ?_ _)); exact BK470.out⟩
           have n2_ : Aside0 (Below w.heap.size w ((((w60.setCell ⟨gb470, 0, none⟩ (.int .i64 ((rd_T66 l0_3 x4_2).f0))).setCell ⟨gb470, 1, none⟩ (.int .i64 ((rd_T66 l0_3 x4_2).f1))).setCell ⟨gb470, 2, none⟩ (.int .i64 ((rd_T66 l0_3 x4_2).f2))).setCell ⟨gb470, 3, none⟩ (.int .i64 ((rd_T66 l0_3 x4_2).f3)))) := ⟨zb⟩
           (try clear BK463)
           (try clear BK470)
           (try clear HB)
           generalize ((((w60.setCell ⟨gb470, 0, none⟩ (.int .i64 ((rd_T66 l0_3 x4_2).f0))).setCell ⟨gb470, 1, none⟩ (.int .i64 ((rd_T66 l0_3 x4_2).f1))).setCell ⟨gb470, 2, none⟩ (.int .i64 ((rd_T66 l0_3 x4_2).f2))).setCell ⟨gb470, 3, none⟩ (.int .i64 ((rd_T66 l0_3 x4_2).f3))) = w63 at n0_ n1_ n2_ ⊢
           have BK463 := n0_
           have BK470 := n1_
           have HB := n2_
           clear n0_ n1_ n2_
           replace BK463 := zh (blk_drew BK463.out)
           replace BK470 := zh (blk_drew BK470.out)
           replace HB := zh (below_drew1 HB.out)
           refine start_ (n := 23) (S := fun w' => w'.cell? ⟨gb470, 0, none⟩ = some (.int .i64 ((rd_T66 l0_3 x4_2).f0)) ∧ w'.cell? ⟨gb470, 1, none⟩ = some (.int .i64 ((rd_T66 l0_3 x4_2).f1)) ∧ w'.cell? ⟨gb470, 2, none⟩ = some (.int .i64 ((rd_T66 l0_3 x4_2).f2)) ∧ w'.cell? ⟨gb470, 3, none⟩ = some (.int .i64 ((rd_T66 l0_3 x4_2).f3))) (ds := []) (Array.replicate 23 false) zk rfl rfl ⟨vb BK470 0, vb BK470 1, vb BK470 2, vb BK470 3⟩ (fun hHeld => ?_); refine with_tabW saronlaw06_sound.tab6 saronlaw06_sound.bits6 (fun HT_ HW_ => ?_)
           generalize w63.drew = w64 at BK463 BK470 HB hHeld ⊢
           refine zu 0 ?_
           refine zt 1 ?_
           refine zo 2 (fun K hK => ?_)
           refine goes_ Tryd.func45 zk rfl #[.int .i64 ((rd_T66 l0_3 x4_2).f0), .int .i64 0, .int .i64 4] (by rfl) rfl rfl zm ?_
           with_reducible refine (saronref00_Sits.calls ((rd_T66 l0_3 x4_2).f0) 0 4 false _ A37.out).mono ?_
           rintro e w' ⟨rfl, ⟨nd, rfl⟩⟩
           refine ⟨_, rfl, ?_⟩
           refine hK.out _ _ ⟨vb BK470 0, vb BK470 1, vb BK470 2, vb BK470 3⟩ (fun hHeld => ?_)
           clear hK K
           refine zr 53 _ ?_
           refine zu 3 ?_
           refine zn 4 ?_
           refine zn 5 ?_
           refine zn 6 ?_
           refine zn 7 ?_
           refine zn 8 ?_
           refine zn 9 ?_
           refine zn 10 ?_
           refine zn 11 ?_
           refine zn 12 ?_
           refine zn 13 ?_
           refine zn 14 ?_
           refine zn 15 ?_
           refine zu 16 ?_
           refine zu 17 ?_
           refine zn 18 ?_
           refine zn 19 ?_
           refine zn 20 ?_
           refine zu 21 ?_
           refine zu 22 ?_
           refine zd ?_
           try go_wp2
           go_roundg kj30
           case measure => have := HJ1.out; have := HK2.out; have := HJ30.out; omega
           case rel => exact ⟨(false), (wrap64 (x4_2 + 1)), ze, ze, H', ⟨by have := HJ1.out; have := HK2.out; have := HJ30.out; omega⟩, ⟨zc BK463⟩, ⟨zb⟩⟩
         ·rw [if_neg c36] at H
          exact absurd H (by simp)
        ·rw [if_neg c35] at H
         exact absurd H (by simp)
       ·replace c34 := Bool.eq_false_iff.mpr c34
        subst c34
        have H1 : (some x3_2) = some r := by rw [if_neg (show ¬ (false = true) by decide)] at H; exact H
        clear H
        have H := H1
        clear H1
        obtain rfl := Option.some.inj H
        go_wp2
        go_ret
        exact ⟨zf, zb⟩
end Go.Proofs.YtagkfkdoibnhfaaDoor.H
end
section
namespace Go.Proofs.YtagkfkdoibnhfaaDoor.K
open Go.RowKit Go.Proofs.YtagkfkdoibnhfaaDoorW.PrintWords Go.Proofs.YtagkfkdoibnhfaaDoorW.PrintMore Go.Proofs.YtagkfkdoibnhfaaDoor.H
namespace O
theorem sits_f (a b c : Int) : saronref00_Sits.f a b c = some (decide (b ≤ a) && decide (a ≤ c)) := by
 unfold saronref00_Sits.f
 by_cases h : b ≤ a <;> simp [h]
theorem good_f (x y a b : Int) : saronref00_Good.f x y a b = some (decide (a ≤ x) && decide (x ≤ y) && decide (y ≤ b)) := by
 unfold saronref00_Good.f
 by_cases h : a ≤ x <;> by_cases h' : x ≤ y <;> simp [h, h']
theorem turn_f (a b : Int) (hb : 1 ≤ b) (hb' : b ≤ 1000) : saronref00_Turn.f a b = some (a % b) := by
 unfold saronref00_Turn.f
 rw [if_neg (by omega), if_neg (by omega)]
 have h := Int.tmod_eq_emod (a := a) (b := b)
 have h1 := Int.emod_nonneg a (by omega : b ≠ 0)
 have h2 := Int.emod_lt_of_pos a (by omega : 0 < b)
 have hn : (b.natAbs : Int) = b := by omega
 split at h
 ·rw [if_neg (by omega), h]; simp
 ·rw [if_pos (by omega), w64 (by omega) (by omega)]
  congr 1
  omega
theorem up1 (i : Nat) (h : (i : Int) < 9223372036854775807) : wrap64 ((i : Int) + 1) = ((i + 1 : Nat) : Int) := by rw [w64 (by omega) (by omega)]; simp
theorem okScale_get {T O L : Int} {R : List S66} (h : okScale T O L R = true) (i : Nat) (hi : i < R.length) : okReg (T * O) R[i] = true := by
 unfold okScale at h
 simp only [Bool.and_eq_true, List.all_eq_true] at h
 exact h.2 _ (List.getElem_mem hi)
theorem sound_false (T O L : Int) (R : List S66) (k : Nat) (i : Int) (hk : 2 ≤ k) : saronlaw06_sound.l0 k false i T O L R = some false := by
 obtain ⟨k, rfl⟩ : ∃ z, k = z + 2 := ⟨k - 2, by omega⟩
 simp [saronlaw06_sound.l0, saronlaw06_sound.j2]
theorem sound_l0 (T O L : Int) (R : List S66) (hS : okScale T O L R = true) (d : Nat) : ∀ (k i : Nat), R.length - i = d → i ≤ R.length → 2 * d + 2 ≤ k → saronlaw06_sound.l0 k true (i : Int) T O L R = some true := by
 obtain ⟨t1, t2, t3, t4, t5, t6, t7, t8, t9, hok⟩ := okScale_regs hS
 have mr := mul_range t1 t2 t3 t4
 induction d with
 | zero =>
  intro k i hd hi hk
  obtain ⟨k, rfl⟩ : ∃ z, k = z + 2 := ⟨k - 2, by omega⟩
  have hdec : decide ((i : Int) < (R.length : Int)) = false := decide_eq_false (by omega)
  simp only [saronlaw06_sound.l0, saronlaw06_sound.j2, hdec, if_true]
  rw [if_neg (by simp)]
 | succ d ih =>
  intro k i hd hi hk
  obtain ⟨k, rfl⟩ : ∃ z, k = z + 2 := ⟨k - 2, by omega⟩
  have hlt : i < R.length := by omega
  have hdec : decide ((i : Int) < (R.length : Int)) = true := decide_eq_true (by omega)
  have e : regAt R (i : Int) = R[i] := by unfold regAt; simp [hlt]
  have hr := okScale_get hS i hlt
  simp only [okReg, Bool.and_eq_true, decide_eq_true_eq] at hr
  obtain ⟨⟨⟨⟨⟨⟨⟨r1, r2⟩, r3⟩, r4⟩, r5⟩, r6⟩, r7⟩, r8⟩ := hr
  simp only [saronlaw06_sound.l0, saronlaw06_sound.j2, hdec, if_true]
  rw [if_pos (by omega), if_pos (by omega), rd66 R i hlt, sits_f, Option.bind_some, if_pos (by rw [decide_eq_true r1, decide_eq_true r2]; rfl)]
  simp only [saronref00_Band.f, Option.bind_some]
  rw [good_f, Option.bind_some, w64 (n := T * O) (by omega) (by omega), w64 (by omega) (by omega), if_pos (by rw [decide_eq_true r3, decide_eq_true r4, decide_eq_true r6]; rfl), sits_f, Option.bind_some, decide_eq_true r7, decide_eq_true r8, up1 i (by omega)]
  exact ih k (i + 1) (by omega) (by omega) (by omega)
theorem sound_f (T O L : Int) (R : List S66) (hR : R.length ≤ 9223372036854775807) (k : Nat) (hk : 2 * R.length + 10 ≤ k) : saronlaw06_sound.f k T O L R = some (okScale T O L R) := by
 unfold saronlaw06_sound.f
 rw [check_f T O L R hR k (by omega), Option.bind_some]
 obtain ⟨k, rfl⟩ : ∃ z, k = z + 1 := ⟨k - 1, by omega⟩
 cases hS : okScale T O L R
 ·rw [if_neg (by simp)]
  simp only [saronlaw06_sound.j0]
  exact sound_false _ _ _ _ _ _ (by omega)
 ·obtain ⟨t1, t2, t3, t4, t5, t6, t7, t8, t9, hok⟩ := okScale_regs hS
  rw [if_pos rfl, if_pos rfl, sits_f, Option.bind_some, if_pos (by rw [decide_eq_true t1, decide_eq_true t2]; rfl), sits_f, Option.bind_some, if_pos (by rw [decide_eq_true t3, decide_eq_true t4]; rfl), sits_f, Option.bind_some, if_pos (by rw [decide_eq_true t5, decide_eq_true t6]; rfl), if_pos ((tmod_zero _ _).2 t7), sits_f, Option.bind_some, decide_eq_true (by omega : (1 : Int) ≤ (R.length : Int)), decide_eq_true (by omega : (R.length : Int) ≤ 5)]
  simp only [saronlaw06_sound.j0]
  exact sound_l0 T O L R hS R.length k 0 (Nat.sub_zero _) (Nat.zero_le _) (by omega)
end O
end Go.Proofs.YtagkfkdoibnhfaaDoor.K
end
section
namespace Go.Proofs.YtagkfkdoibnhfaaDoor.H
open Go.RowKit Go.Proofs.YtagkfkdoibnhfaaDoorW.PrintWords Go.Proofs.YtagkfkdoibnhfaaDoorW.PrintLast Go.Proofs.YtagkfkdoibnhfaaDoorW.PrintMore
attribute [local go_sem] max2_int min2_int max_two min_two max_three min_three max_four min_four   -- for this text's walks alone
set_option linter.unusedVariables false
set_option linter.unusedSimpArgs false
open Go.Proofs.YtagkfkdoibnhfaaDoor.K
end Go.Proofs.YtagkfkdoibnhfaaDoor.H
end
section
namespace Go.Proofs.YtagkfkdoibnhfaaDoor.K
open Go.RowKit Go.Proofs.YtagkfkdoibnhfaaDoorW.PrintWords Go.Proofs.YtagkfkdoibnhfaaDoorW.PrintMore Go.Proofs.YtagkfkdoibnhfaaDoor.H
namespace O
theorem equal_self_l0 (l : List Int) (hl : l.length ≤ 9223372036854775807) : ∀ (d k i : Nat), l.length - i = d → i ≤ l.length → d + 1 ≤ k → saronref00_Equal.l0 k l l true (i : Int) = some true
 | 0, k, i, hd, hi, hk => by
  obtain ⟨k, rfl⟩ : ∃ m, k = m + 1 := ⟨k - 1, by omega⟩
  simp only [saronref00_Equal.l0, if_true]
  rw [if_neg (by omega)]
 | d + 1, k, i, hd, hi, hk => by
  obtain ⟨k, rfl⟩ : ∃ m, k = m + 1 := ⟨k - 1, by omega⟩
  simp only [saronref00_Equal.l0, if_true]
  rw [if_pos (by omega), if_pos (by omega), if_pos (by omega), up1 i (by omega), beq_self_eq_true]
  exact equal_self_l0 l hl d k (i + 1) (by omega) (by omega) (by omega)
theorem equal_self' (l : List Int) (hl : l.length ≤ 9223372036854775807) (k : Nat) (hk : l.length + 1 ≤ k) : saronref00_Equal.f k l l = some true := by
 unfold saronref00_Equal.f
 rw [beq_self_eq_true]
 exact equal_self_l0 l hl l.length k 0 rfl (by omega) (by omega)
theorem min_mul (n l : Int) (hn : 1 ≤ n) (hl : 1 ≤ l) : 1 ≤ min 1000000 (n * l) ∧ (1 < min 1000000 (n * l) ↔ 1 < n ∨ 1 < l) := by
 by_cases h : l = 1
 ·subst h
  rw [Int.mul_one]
  omega
 ·have h1 : 1 * 2 ≤ n * l := Int.mul_le_mul hn (by omega) (by omega) (by omega)
  omega
theorem many_fold (f : Int → Nat) : ∀ (ps : List Int) (n : Int), 1 ≤ n → (∀ p ∈ ps, 1 ≤ f p) → 1 ≤ ps.foldl (fun n p => min 1000000 (n * (f p : Int))) n ∧ (1 < ps.foldl (fun n p => min 1000000 (n * (f p : Int))) n ↔ 1 < n ∨ (ps.any fun p => decide (1 < f p)) = true)
 | [], n, hn, h => by simp [hn]
 | p :: ps, n, hn, h => by
  have h1 := h p (by simp)
  obtain ⟨a, b⟩ := min_mul n (f p : Int) hn (by omega)
  obtain ⟨c, d⟩ := many_fold f ps _ a (fun q hq => h q (by simp [hq]))
  rw [List.foldl_cons]
  refine ⟨c, d.trans ?_⟩
  rw [b, List.any_cons, Bool.or_eq_true, decide_eq_true_eq, or_assoc]
  have : (1 : Int) < (f p : Int) ↔ 1 < f p := by omega
  rw [this]
def several (T O L : Int) (R : List S66) (hs : List S60) : Bool := (irange 0 (L / 2 - 1)).any (severalAt T O R hs)
theorem many_one {T O L : Int} {R : List S66} {hs : List S60} (h : canAll T O L R hs = true) : 1 ≤ manyOf T O L R hs ∧ (1 < manyOf T O L R hs ↔ several T O L R hs = true) := by
 obtain ⟨a, b⟩ := many_fold (fun p => (choices T O R hs p).length) (irange 0 (L / 2 - 1)) 1 (Int.le_refl _) (fun p hp => by
  obtain ⟨h0, h1⟩ := irange_mem_iff.1 hp
  obtain ⟨q, hq⟩ := canAll_pos h p h0 h1
  exact List.length_pos_of_mem hq)
 refine ⟨a, b.trans ?_⟩
 rw [show ((1 : Int) < 1) = False from by simp, false_or]
 rfl
theorem choices_nodup (T O : Int) (R : List S66) (hs : List S60) (p : Int) : (choices T O R hs p).Nodup := by
 unfold choices
 exact (pairs_nodup _).filter _
theorem single_of {T O L : Int} {R : List S66} {hs : List S60} (h : canAll T O L R hs = true) (h1 : several T O L R hs = false) : Single T O L R hs (fun p => ((choices T O R hs p).head?).getD (0, 0)) := by
 intro p hp0 hp1
 obtain ⟨q, hq⟩ := canAll_pos h p hp0 hp1
 have hl : ¬ 1 < (choices T O R hs p).length := by
  intro hl
  have : several T O L R hs = true := by
   unfold several
   rw [List.any_eq_true]
   exact ⟨p, irange_mem_iff.2 ⟨hp0, hp1⟩, by unfold severalAt; exact decide_eq_true hl⟩
  rw [this] at h1
  cases h1
 match hc : choices T O R hs p, hl, hq with
 | [], _, hq => simp at hq
 | [x], _, _ => show [x] = [((choices T O R hs p).head?).getD (0, 0)]; rw [hc]; rfl
 | _ :: _ :: _, hl, _ => simp at hl
theorem Can_ok {T O L : Int} {R : List S66} {hs : List S60} (hS : okScale T O L R = true) (hH : okHeard L R hs = true) (hC : canAll T O L R hs = true) (i : Int) (h0 : 0 ≤ i) (h1 : i < L) : Can T O L R hs i = (canOf T O R hs i, 0) := by
 unfold Can askedErr
 rw [if_pos hS, if_pos hH, if_pos hC, decide_eq_true h0, decide_eq_true h1]
 rfl
section
variable (T O L : Int) (R : List S66) (hs : List S60) (hS : okScale T O L R = true) (hH : okHeard L R hs = true) (hC : canAll T O L R hs = true)
include hS hH hC
end
end O
end Go.Proofs.YtagkfkdoibnhfaaDoor.K
end
section
namespace Go.Proofs.YtagkfkdoibnhfaaDoor.K
open Go.RowKit Go.Proofs.YtagkfkdoibnhfaaDoorW.PrintWords Go.Proofs.YtagkfkdoibnhfaaDoorW.PrintMore Go.Proofs.YtagkfkdoibnhfaaDoor.H
namespace O
theorem part_length (T : Int) (R : List S66) (r : Int) : ∀ (n : Nat) (t : List Int), t.length = 2 * n → (partOf T R r t).length = n * width (regAt R r)
 | 0, t, h => by
  match t, h with
  | [], _ => simp [partOf]
 | n + 1, t, h => by
  match t, h with
  | a :: b :: rest, h =>
   have ih := part_length T R r n rest (by simp at h; omega)
   rw [partOf, List.length_append, strokes_width, ih, Nat.add_mul, Nat.one_mul, Nat.add_comm]
theorem part_getD (T : Int) (R : List S66) (r : Int) : ∀ (t : List Int) (p k : Nat), 2 * p + 1 < t.length → k < width (regAt R r) → (partOf T R r t).getD (p * width (regAt R r) + k) 0 = (strokes T R r (t.getD (2 * p) 0) (t.getD (2 * p + 1) 0)).getD k 0
 | a :: b :: rest, 0, k, h, hk => by
  rw [partOf, List.getD_eq_getElem?_getD, Nat.zero_mul, Nat.zero_add, List.getElem?_append_left (by rw [strokes_width]; exact hk), ← List.getD_eq_getElem?_getD]
  rfl
 | a :: b :: rest, p + 1, k, h, hk => by
  have ih := part_getD T R r rest p k (by simp at h; omega) hk
  rw [partOf, List.getD_eq_getElem?_getD, List.getElem?_append_right (by rw [strokes_width, Nat.add_mul]; omega), ← List.getD_eq_getElem?_getD, strokes_width]
  rw [show (p + 1) * width (regAt R r) + k - width (regAt R r) = p * width (regAt R r) + k by rw [Nat.add_mul]; omega, ih]
  rfl
 | [a], p, k, h, hk => by simp at h
 | [], p, k, h, hk => by simp at h
theorem plays_range {m T : Int} {x : S66} (h : okReg m x = true) (n : Int) : -1 ≤ plays T x n ∧ plays T x n ≤ m - 1 := by
 unfold okReg at h
 simp only [Bool.and_eq_true, decide_eq_true_eq] at h
 unfold plays
 split
 ·omega
 ·cases hf : (irange x.f1 x.f2).find? (fun t => decide ((t - n) % T = 0)) with
  | none => simp; omega
  | some v =>
   have := irange_mem_iff.1 (List.mem_of_find?_eq_some hf)
   simp; omega
def True1 (T : Int) (R : List S66) (t : List Int) (x : S60) : Prop :=
 0 ≤ x.f0 ∧ x.f0 < R.length ∧ x.f1.length = (partOf T R x.f0 t).length ∧ ∀ k, k < x.f1.length → x.f1.getD k 0 = -2 ∨ x.f1.getD k 0 = (partOf T R x.f0 t).getD k 0
section
variable {T O L : Int} {R : List S66} {hs : List S60} {t : List Int} (hS : okScale T O L R = true) (hL : (t.length : Int) = L) (ht : ∀ x ∈ t, 0 ≤ x ∧ x < T * O) (hT : ∀ x ∈ hs, True1 T R t x)
def pairAt (t : List Int) (p : Int) : Int × Int := (t.getD (2 * p.toNat) 0, t.getD (2 * p.toNat + 1) 0)
include hS hL
theorem true_len (r : Int) : (partOf T R r t).length = (L / 2).toNat * width (regAt R r) := by
 obtain ⟨t1, t2, t3, t4, t5, t6, t7, t8, t9, hok⟩ := okScale_regs hS
 exact part_length T R r _ t (by omega)
include ht
theorem true_pair (p : Int) (h0 : 0 ≤ p) (h1 : p ≤ L / 2 - 1) : pairAt t p ∈ pairsOf (T * O) := by
 obtain ⟨t1, t2, t3, t4, t5, t6, t7, t8, t9, hok⟩ := okScale_regs hS
 have g : ∀ i, i < t.length → 0 ≤ t.getD i 0 ∧ t.getD i 0 ≤ T * O - 1 := fun i hi => by
  rw [List.getD_eq_getElem?_getD, List.getElem?_eq_getElem hi]
  have := ht t[i] (List.getElem_mem hi)
  simp only [Option.getD_some]
  omega
 exact pairs_mem_iff.2 ⟨g _ (by omega), g _ (by omega)⟩
omit ht
include hT
theorem true_miss (p : Int) (h0 : 0 ≤ p) (h1 : p ≤ L / 2 - 1) : miss T R hs p (pairAt t p).1 (pairAt t p).2 = 0 := by
 obtain ⟨t1, t2, t3, t4, t5, t6, t7, t8, t9, hok⟩ := okScale_regs hS
 unfold miss
 have : ∀ l : List S60, (∀ x ∈ l, x ∈ hs) → (l.map fun h => missOf (h.f1.drop (p.toNat * width (regAt R h.f0))) (strokes T R h.f0 (pairAt t p).1 (pairAt t p).2)).sum = 0 := by
  intro l
  induction l with
  | nil => intro _; rfl
  | cons x l ih =>
   intro hl
   rw [List.map_cons, List.sum_cons, ih (fun y hy => hl y (by simp [hy])), Nat.add_zero]
   obtain ⟨g1, g2, g3, g4⟩ := hT x (hl x (by simp))
   have hlen := true_len (t := t) hS hL x.f0
   unfold missOf
   rw [List.countP_eq_zero]
   intro k hk
   rw [List.mem_range, strokes_width] at hk
   have hx : p.toNat * width (regAt R x.f0) + k < x.f1.length := by
    rw [g3, hlen]
    have h2 : p.toNat * width (regAt R x.f0) + width (regAt R x.f0) ≤ (L / 2).toNat * width (regAt R x.f0) := by
     have := Nat.mul_le_mul_right (width (regAt R x.f0)) (show p.toNat + 1 ≤ (L / 2).toNat by omega)
     rw [Nat.add_mul, Nat.one_mul] at this
     exact this
    omega
   have h4 := g4 _ hx
   rw [part_getD T R x.f0 t p.toNat k (by omega) hk] at h4
   have e : (x.f1.drop (p.toNat * width (regAt R x.f0))).getD k 0 = x.f1.getD (p.toNat * width (regAt R x.f0) + k) 0 := by
    rw [List.getD_eq_getElem?_getD, List.getElem?_drop, ← List.getD_eq_getElem?_getD]
   rw [e]
   simp only [Bool.and_eq_true, decide_eq_true_eq, ne_eq, not_and, Decidable.not_not]
   intro h5
   rcases h4 with h4 | h4
   ·exact absurd h4 h5
   ·exact h4
 exact this hs (fun _ h => h)
include ht
theorem true_choice (p : Int) (h0 : 0 ≤ p) (h1 : p ≤ L / 2 - 1) : pairAt t p ∈ choices T O R hs p :=
 choices_mem'.2 ⟨true_pair hS hL ht p h0 h1, true_miss hS hL hT p h0 h1⟩
theorem true_canAll : canAll T O L R hs = true := by
 unfold canAll
 rw [List.all_eq_true]
 intro p hp
 obtain ⟨h0, h1⟩ := irange_mem_iff.1 hp
 have := true_choice hS hL ht hT p h0 h1
 cases hc : choices T O R hs p with
 | nil => rw [hc] at this; simp at this
 | cons => rfl
theorem true_can (i : Nat) (hi : (i : Int) < L) : t.getD i 0 ∈ canOf T O R hs (i : Int) := by
 obtain ⟨t1, t2, t3, t4, t5, t6, t7, t8, t9, hok⟩ := okScale_regs hS
 refine canOf_mem.2 ⟨_, true_choice hS hL ht hT ((i : Int) / 2) (by omega) (by omega), ?_⟩
 unfold side pairAt
 split
 ·rw [show 2 * ((i : Int) / 2).toNat = i by omega]
 ·rw [show 2 * ((i : Int) / 2).toNat + 1 = i by omega]
omit ht
theorem true_heard (h1 : 1 ≤ hs.length) (h5 : hs.length ≤ 5) : okHeard L R hs = true := by
 obtain ⟨t1, t2, t3, t4, t5, t6, t7, t8, t9, hok⟩ := okScale_regs hS
 unfold okHeard
 simp only [Bool.and_eq_true, decide_eq_true_eq, List.all_eq_true]
 refine ⟨⟨h1, h5⟩, fun x hx => ?_⟩
 obtain ⟨g1, g2, g3, g4⟩ := hT x hx
 have hlen := true_len (t := t) hS hL x.f0
 have hreg : okReg (T * O) (regAt R x.f0) = true := by
  unfold okScale at hS
  simp only [Bool.and_eq_true, List.all_eq_true] at hS
  refine hS.2 _ ?_
  unfold regAt
  rw [List.getD_eq_getElem?_getD, List.getElem?_eq_getElem (by omega)]
  exact List.getElem_mem _
 have hTO : T * O ≤ 21 := Int.mul_le_mul (c := 7) (d := 3) t2 t4 (by omega) (by omega)
 unfold okHeard1
 simp only [Bool.and_eq_true, decide_eq_true_eq, List.all_eq_true]
 refine ⟨⟨⟨g1, g2⟩, ?_⟩, fun n hn => ?_⟩
 ·rw [g3, hlen, Int.natCast_mul, Int.toNat_of_nonneg (by omega)]
 ·obtain ⟨k, hk, rfl⟩ := List.getElem_of_mem hn
  have h4 := g4 k hk
  rw [List.getD_eq_getElem?_getD, List.getElem?_eq_getElem hk, Option.getD_some] at h4
  rcases h4 with h4 | h4
  ·omega
  ·have hk2 : k < (partOf T R x.f0 t).length := by omega
   rw [List.getD_eq_getElem?_getD, List.getElem?_eq_getElem hk2, Option.getD_some] at h4
   have hm : (partOf T R x.f0 t)[k] ∈ partOf T R x.f0 t := List.getElem_mem hk2
   have : ∀ (m : Nat) (l : List Int), l.length ≤ m → ∀ y ∈ partOf T R x.f0 l, -1 ≤ y ∧ y ≤ T * O - 1 := by
    intro m
    induction m with
    | zero => intro l hl y hy; match l, hl with | [], _ => simp [partOf] at hy
    | succ m ih =>
     intro l hl y hy
     match l, hl, hy with
     | [], _, hy => simp [partOf] at hy
     | [_], _, hy => simp [partOf] at hy
     | a :: b :: rest, hl, hy =>
      rw [partOf, List.mem_append] at hy
      rcases hy with hy | hy
      ·unfold strokes at hy
       obtain ⟨z, _, rfl⟩ := List.mem_map.1 hy
       exact plays_range hreg z
      ·exact ih rest (by simp at hl; omega) y hy
   have := this t.length t (Nat.le_refl _) _ hm
   omega
include ht
theorem true_least : leastOf T O L R hs = 0 := by
 have hmin : ∀ (l : List (Int × Int)) (f : Int × Int → Nat) (n : Int), 0 ≤ n → (n = 0 ∨ ∃ p ∈ l, f p = 0) → l.foldl (fun n p => min n (f p : Int)) n = 0 := by
  intro l f
  induction l with
  | nil =>
   intro n hn h
   rcases h with h | ⟨p, hp, _⟩
   ·exact h
   ·simp at hp
  | cons x l ih =>
   intro n hn h
   rw [List.foldl_cons]
   refine ih _ (by omega) ?_
   rcases h with h | ⟨p, hp, h⟩
   ·left; omega
   ·rcases List.mem_cons.1 hp with rfl | hp
    ·left; omega
    ·exact .inr ⟨p, hp, h⟩
 unfold leastOf
 have : ∀ l : List Int, (∀ p ∈ l, leastAt T O R hs p = 0) → (l.map (leastAt T O R hs)).sum = 0 := by
  intro l
  induction l with
  | nil => intro _; rfl
  | cons x l ih =>
   intro h
   rw [List.map_cons, List.sum_cons, ih (fun y hy => h y (by simp [hy])), h x (by simp)]
   rfl
 refine this _ fun p hp => ?_
 obtain ⟨h0, h1⟩ := irange_mem_iff.1 hp
 unfold leastAt
 exact hmin _ (fun q => miss T R hs p q.1 q.2) _ (Int.natCast_nonneg _) (.inr ⟨_, true_pair hS hL ht p h0 h1, true_miss hS hL hT p h0 h1⟩)
theorem true_fill (x : S60) (hx : x ∈ hs) (k : Nat) (hk : k < x.f1.length) : (fillOf T O R hs x).getD k 0 = (partOf T R x.f0 t).getD k 0 ∨ ((fillOf T O R hs x).getD k 0 = -2 ∧ x.f1.getD k 0 = -2) := by
 obtain ⟨t1, t2, t3, t4, t5, t6, t7, t8, t9, hok⟩ := okScale_regs hS
 obtain ⟨g1, g2, g3, g4⟩ := hT x hx
 have hlen := true_len (t := t) hS hL x.f0
 have hwp := width_pos (regAt R x.f0)
 have hf : (fillOf T O R hs x).getD k 0 = if x.f1.getD k 0 = -2 then (known T R x.f0 (choices T O R hs ((k / width (regAt R x.f0) : Nat) : Int)) (k % width (regAt R x.f0))).getD (-2) else x.f1.getD k 0 := by
  unfold fillOf
  rw [List.getD_eq_getElem?_getD, List.getElem?_map, List.getElem?_range hk]
  rfl
 rw [hf]
 split
 ·rename_i h2
  generalize hW : width (regAt R x.f0) = W at *
  have hpn : k / W < (L / 2).toNat := by rw [Nat.div_lt_iff_lt_mul (by omega), ← hlen, ← g3]; exact hk
  have hkn : k % W < W := Nat.mod_lt _ (by omega)
  have e : k / W * W + k % W = k := by rw [Nat.mul_comm]; exact Nat.div_add_mod k W
  have hp := part_getD T R x.f0 t (k / W) (k % W) (by omega) (by rw [hW]; exact hkn)
  rw [hW, e] at hp
  have hc := true_choice hS hL ht hT ((k / W : Nat) : Int) (Int.natCast_nonneg _) (by omega)
  have hpair : pairAt t ((k / W : Nat) : Int) = (t.getD (2 * (k / W)) 0, t.getD (2 * (k / W) + 1) 0) := by
   unfold pairAt
   rw [Int.toNat_natCast]
  rw [hpair] at hc
  generalize hcc : choices T O R hs ((k / W : Nat) : Int) = c at *
  match c, hc with
  | p :: rest, hc =>
   unfold known
   simp only []
   split
   ·rename_i hall
    left
    rw [Option.getD_some, hp]
    rcases List.mem_cons.1 hc with h | h
    ·rw [← h]
    ·have := List.all_eq_true.1 hall _ h
     exact (of_decide_eq_true this).symm
   ·exact .inr ⟨rfl, h2⟩
 ·rename_i h2
  rcases g4 k hk with h4 | h4
  ·exact absurd h4 h2
  ·exact .inl h4
theorem true_won {q : Int → Int × Int} (h : Single T O L R hs q) : wonOf T O L R hs = t := by
 obtain ⟨t1, t2, t3, t4, t5, t6, t7, t8, t9, hok⟩ := okScale_regs hS
 have hwl := won_len hS h
 apply List.ext_getElem (by omega)
 intro i h1 h2
 have hw := won_get hS h i (by omega)
 have hc := true_choice hS hL ht hT ((i : Int) / 2) (by omega) (by omega)
 rw [h ((i : Int) / 2) (by omega) (by omega), List.mem_singleton] at hc
 rw [← hc, List.getD_eq_getElem?_getD, List.getElem?_eq_getElem h1, Option.getD_some] at hw
 rw [hw]
 have e : ∀ j, j = i → t.getD j 0 = t[i] := fun j hj => by rw [hj, List.getD_eq_getElem?_getD, List.getElem?_eq_getElem h2, Option.getD_some]
 unfold side pairAt
 split
 ·exact e _ (by omega)
 ·exact e _ (by omega)
end
end O
end Go.Proofs.YtagkfkdoibnhfaaDoor.K
end
section
namespace Go.Proofs.YtagkfkdoibnhfaaDoor.H
open Go.RowKit Go.Proofs.YtagkfkdoibnhfaaDoorW.PrintWords Go.Proofs.YtagkfkdoibnhfaaDoorW.PrintLast Go.Proofs.YtagkfkdoibnhfaaDoorW.PrintMore
attribute [local go_sem] max2_int min2_int max_two min_two max_three min_three max_four min_four   -- for this text's walks alone
set_option linter.unusedVariables false
set_option linter.unusedSimpArgs false
open Go.Proofs.YtagkfkdoibnhfaaDoor.K
mutual
def saronlaw06_listened.l0 : Nat → List Int → List Int → Int → List (S60) → List (List Int) → Int → Int → Int → Int → List (S66) → Option ((List (S60)) × (List (List Int)) × Bool)
 | 0, _, _, _, _, _, _, _, _, _, _ => none
 | k + 1, x1, x2, x3, x11, x12, x13, x485000, x485001, x485002, x485003 => if x13 < x3 then ((saronref00_Nth.f x2 (wrap64 (x13 + 1))).bind fun t485 => ((saronref00_Turn.f t485 (x485003.length : Int)).bind fun t486 => ((kernel_Part.f x485000 x485001 x485002 x485003 x1 t486).bind fun bt487 => (if bt487.2 = 0 then ((some (([] : List Int) : List Int)).bind fun y491 => (if y491.length + bt487.1.length < 17592186044416 then (saronlaw06_listened.l1 k x1 x2 x3 x11 x12 x13 t486 bt487.1 (y491 ++ bt487.1) 0 x485000 x485001 x485002 x485003) else (none))) else (some (([] : List (S60)), ([] : List (List Int)), false)))))) else (some (x11, x12, true))
def saronlaw06_listened.l1 : Nat → List Int → List Int → Int → List (S60) → List (List Int) → Int → Int → List Int → List Int → Int → Int → Int → Int → List (S66) → Option ((List (S60)) × (List (List Int)) × Bool)
 | 0, _, _, _, _, _, _, _, _, _, _, _, _, _, _ => none
 | k + 1, x1, x2, x3, x11, x12, x13, x14, x15, x17, x18, x485000, x485001, x485002, x485003 => if x18 < (x17.length : Int) then ((saronref00_Nth.f x2 (wrap64 ((wrap64 (3 * x13)) + x18))).bind fun t507 => ((saronref00_Turn.f (wrap64 (t507 + x18)) 4).bind fun t508 => (if t508 = 0 then (if 0 ≤ x18 then (saronlaw06_listened.l1 k x1 x2 x3 x11 x12 x13 x14 x15 (x17.set (x18 : Int).toNat (-2)) (wrap64 (x18 + 1)) x485000 x485001 x485002 x485003) else (none)) else (saronlaw06_listened.l1 k x1 x2 x3 x11 x12 x13 x14 x15 x17 (wrap64 (x18 + 1)) x485000 x485001 x485002 x485003)))) else ((saronlaw06_of.f x14 x17).bind fun bt497 => (if x11.length < 4398046511104 then (if x12.length < 5864062014805 then (saronlaw06_listened.l0 k x1 x2 x3 (x11 ++ [(⟨bt497.1, bt497.2⟩ : S60)]) (x12 ++ [x15]) (wrap64 (x13 + 1)) x485000 x485001 x485002 x485003) else (none)) else (none)))
end
def saronlaw06_listened.f (k : Nat) (a0_0 : Int) (a0_1 : Int) (a0_2 : Int) (l0_3 : List (S66)) (l1 : List Int) (l2 : List Int) (a3 : Int) : Option ((List (S60)) × (List (List Int)) × Bool) := saronlaw06_listened.l0 k l1 l2 a3 ([] : List (S60)) ([] : List (List Int)) 0 a0_0 a0_1 a0_2 l0_3
set_option maxHeartbeats 8000000 in
set_option maxRecDepth 100000 in
theorem saronlaw06_listened.calls (k : Nat) (a0_0 : Int) (a0_1 : Int) (a0_2 : Int) (A0_3 : Option Addr) (c0_3 : Nat) (l0_3 : List (S66)) (A1 : Option Addr) (c1 : Nat) (l1 : List Int) (A2 : Option Addr) (c2 : Nat) (l2 : List Int) (a3 : Int) (r1 : List (S60)) (r2 : List (List Int)) (r3 : Bool) (w : World) (hr0_3 : Kd.C k66 w A0_3 l0_3.length l0_3) (hc0_3 : l0_3.length ≤ c0_3) (hr1 : Kd.C (Kd.int .i64) w A1 l1.length l1) (hc1 : l1.length ≤ c1) (hr2 : Kd.C (Kd.int .i64) w A2 l2.length l2) (hc2 : l2.length ≤ c2) (hG : Glob w) (h : saronlaw06_listened.f k a0_0 a0_1 a0_2 l0_3 l1 l2 a3 = some (r1, r2, r3)) :
  Calls Tryd.prog 41 #[.agg #[.int .i64 a0_0, .int .i64 a0_1, .int .i64 a0_2, .slice A0_3 l0_3.length c0_3], .slice A1 l1.length c1, .slice A2 l2.length c2, .int .i64 a3] w fun e w' => ∃ v0_ v1_ : Value, e = .returned (.tuple #[v0_, v1_, .bool r3]) ∧ Kd.N k60 60 w' w.heap.size (fun k_ => (w.heap.size ≤ k_) ∧ some k_ ≠ (v1_ : Value).ownBlock) v0_ r1 ∧ Kd.N (Kd.slice 3 (Kd.int .i64)) 25 w' w.heap.size (fun k_ => (w.heap.size ≤ k_) ∧ some k_ ≠ (v0_ : Value).ownBlock) v1_ r2 ∧ Below w.heap.size w w' := by
 have hu24 := Tryd.underlying24
 have HG := zh hG
 clear hG
 have HR0_3 := zh hr0_3
 have HC0_3 := zh hc0_3
 clear hr0_3 hc0_3
 have HR1 := zh hr1
 have HC1 := zh hc1
 clear hr1 hc1
 have HR2 := zh hr2
 have HC2 := zh hc2
 clear hr2 hc2
 have HB := zh (Below.refl w.heap.size w)
 have H : (saronlaw06_listened.l0 k l1 l2 a3 ([] : List (S60)) ([] : List (List Int)) 0 a0_0 a0_1 a0_2 l0_3) = some (r1, r2, r3) := h
 clear h
 have H' := zh H
 clear H
 go_enter Tryd.func41, Tryd.ntmps41
 go_wp2_with (first | ((with_reducible refine gate_dst (N := 4) rfl ?_); refine box_event ?hg (N := 4) ?hd (cs := #[.int .i64 a0_0, .int .i64 a0_1, .int .i64 a0_2, .slice A0_3 l0_3.length c0_3]) (t := 24) ?hr ?_; (case hd => rfl); (case hg => rfl); (case hr => first | (go_simp; done) | (go_simp; rfl)); intro gb484 hg w5 hbox hb; have n0_ := zh (below_step zb hb); have n1_ := zh (hbox); have n2_ := zh ((by rw [hg]; exact (below_size zb) : w.heap.size ≤ gb484)); have n3_ := zh ((by rw [hg]; exact (below_size zb) : w.heap.size ≤ gb484)); clear HB; have HB := n0_; have BK484 := n1_; have GW484 := n2_; have GE484 := n3_; clear n0_ n1_ n2_ n3_; clear hb hbox hg))
 repeat (go_quiet (first | ((with_reducible refine gate_dst (N := 4) rfl ?_); refine box_event ?hg (N := 4) ?hd (cs := #[.int .i64 a0_0, .int .i64 a0_1, .int .i64 a0_2, .slice A0_3 l0_3.length c0_3]) (t := 24) ?hr ?_; (case hd => rfl); (case hg => rfl); (case hr => first | (go_simp; done) | (go_simp; rfl)); intro gb484 hg w5 hbox hb; have n0_ := zh (below_step zb hb); have n1_ := zh (hbox); have n2_ := zh ((by rw [hg]; exact (below_size zb) : w.heap.size ≤ gb484)); have n3_ := zh ((by rw [hg]; exact (below_size zb) : w.heap.size ≤ gb484)); clear HB; have HB := n0_; have BK484 := n1_; have GW484 := n2_; have GE484 := n3_; clear n0_ n1_ n2_ n3_; clear hb hbox hg)); try go_wp2_with (first | ((with_reducible refine gate_dst (N := 4) rfl ?_); refine box_event ?hg (N := 4) ?hd (cs := #[.int .i64 a0_0, .int .i64 a0_1, .int .i64 a0_2, .slice A0_3 l0_3.length c0_3]) (t := 24) ?hr ?_; (case hd => rfl); (case hg => rfl); (case hr => first | (go_simp; done) | (go_simp; rfl)); intro gb484 hg w5 hbox hb; have n0_ := zh (below_step zb hb); have n1_ := zh (hbox); have n2_ := zh ((by rw [hg]; exact (below_size zb) : w.heap.size ≤ gb484)); have n3_ := zh ((by rw [hg]; exact (below_size zb) : w.heap.size ≤ gb484)); clear HB; have HB := n0_; have BK484 := n1_; have GW484 := n2_; have GE484 := n3_; clear n0_ n1_ n2_ n3_; clear hb hbox hg)))
 go_loopg [11, 12, 13] k (fun kq v11 v12 v13 w' => ∃ (x11_1 : List (S60)) (x12_1 : List (List Int)) (x13_1 : Int), v13 = .int .i64 x13_1 ∧ Aside0 (saronlaw06_listened.l0 kq l1 l2 a3 x11_1 x12_1 x13_1 a0_0 a0_1 a0_2 l0_3 = some (r1, r2, r3)) ∧ Aside0 (kq ≤ k) ∧ Aside0 (Kd.N k60 60 w' w.heap.size (fun k_ => (w.heap.size ≤ k_) ∧ some k_ ≠ (v12 : Value).ownBlock ∧ k_ ≠ gb484) v11 x11_1) ∧ Aside0 (Kd.N (Kd.slice 3 (Kd.int .i64)) 25 w' w.heap.size (fun k_ => (w.heap.size ≤ k_) ∧ some k_ ≠ (v11 : Value).ownBlock ∧ k_ ≠ gb484) v12 x12_1) ∧ Aside0 (w'.heap[gb484]? = some (.cells #[.int .i64 a0_0, .int .i64 a0_1, .int .i64 a0_2, (.slice A0_3 l0_3.length c0_3)] 24 (0, 0))) ∧ Aside0 (Below w.heap.size w w'))
 case atStart => exact ⟨(([] : List (S60))), (([] : List (List Int))), (0), ze, H', ⟨Nat.le_refl _⟩, ⟨by first | exact Kd.S_nil _ _ _ _ _ | exact Kd.N_nil _ _ _ _ _ | exact Kd.V_nil _ _ _ _ _ | exact Kd.Q_nil _ _ _ _ _ | exact Kd.R_nil _ _ _ _ _⟩, ⟨by first | exact Kd.S_nil _ _ _ _ _ | exact Kd.N_nil _ _ _ _ _ | exact Kd.V_nil _ _ _ _ _ | exact Kd.Q_nil _ _ _ _ _ | exact Kd.R_nil _ _ _ _ _⟩, ⟨zc BK484⟩, ⟨zb⟩⟩
 case round =>
  clear H'
  try clear c1
  try clear c2
  try clear p2
  try clear c4
  obtain ⟨x11_1, x12_1, x13_1, rfl, HA, HK1, HO_11, HO_12, BK484, HB⟩ := hrel
  cases gk with
  | zero => exact absurd HA.out (by simp [saronlaw06_listened.l0])
  | succ k1 =>
   have H := HA.out
   clear HA
   simp only [saronlaw06_listened.l0] at H
   by_cases c6 : x13_1 < a3
   ·rw [if_pos c6] at H
    have c6b0 : decide (x13_1 < a3) = true := decide_eq_true c6
    clear c6
    replace H := Option.bind_eq_some_iff.mp H
    obtain ⟨t485, A70, H⟩ := H
    replace H : ((saronref00_Turn.f t485 (l0_3.length : Int)).bind fun t486 => ((kernel_Part.f a0_0 a0_1 a0_2 l0_3 l1 t486).bind fun bt487 => (if bt487.2 = 0 then ((some (([] : List Int) : List Int)).bind fun y491 => (if y491.length + bt487.1.length < 17592186044416 then (saronlaw06_listened.l1 k1 l1 l2 a3 x11_1 x12_1 x13_1 t486 bt487.1 (y491 ++ bt487.1) 0 a0_0 a0_1 a0_2 l0_3) else (none))) else (some (([] : List (S60)), ([] : List (List Int)), false))))) = some (r1, r2, r3) := H
    have A7 := zh A70
    clear A70
    replace H := Option.bind_eq_some_iff.mp H
    obtain ⟨t486, A80, H⟩ := H
    replace H : ((kernel_Part.f a0_0 a0_1 a0_2 l0_3 l1 t486).bind fun bt487 => (if bt487.2 = 0 then ((some (([] : List Int) : List Int)).bind fun y491 => (if y491.length + bt487.1.length < 17592186044416 then (saronlaw06_listened.l1 k1 l1 l2 a3 x11_1 x12_1 x13_1 t486 bt487.1 (y491 ++ bt487.1) 0 a0_0 a0_1 a0_2 l0_3) else (none))) else (some (([] : List (S60)), ([] : List (List Int)), false)))) = some (r1, r2, r3) := H
    have A8 := zh A80
    clear A80
    replace H := Option.bind_eq_some_iff.mp H
    obtain ⟨⟨t487, t490⟩, A90, H⟩ := H
    replace H : (if t490 = 0 then ((some (([] : List Int) : List Int)).bind fun y491 => (if y491.length + t487.length < 17592186044416 then (saronlaw06_listened.l1 k1 l1 l2 a3 x11_1 x12_1 x13_1 t486 t487 (y491 ++ t487) 0 a0_0 a0_1 a0_2 l0_3) else (none))) else (some (([] : List (S60)), ([] : List (List Int)), false))) = some (r1, r2, r3) := H
    have A9 := zh A90
    clear A90
    by_cases c10 : t490 = 0
    ·rw [if_pos c10] at H
     have c10b0 : (t490 == 0) = true := beq_iff_eq.mpr c10
     have c10b1 : (t490 != 0) = false := bne_eq_false_iff_eq.mpr c10
     clear c10
     obtain ⟨y491, hy491⟩ : ∃ y_ : List Int, y_ = (([] : List Int)) := ⟨_, rfl⟩
     replace H : (if y491.length + t487.length < 17592186044416 then (saronlaw06_listened.l1 k1 l1 l2 a3 x11_1 x12_1 x13_1 t486 t487 (y491 ++ t487) 0 a0_0 a0_1 a0_2 l0_3) else (none)) = some (r1, r2, r3) := by first | (rw [hy491]; with_reducible exact H) | (have H2_ := (Option.bind_some _ _).symm.trans H; rw [hy491]; with_reducible exact H2_) | (have H2_ := (Option.bind_some _ _).symm.trans H; with_reducible exact H2_) | with_reducible exact H | (rw [hy491]; exact H) | exact H
     have Ny491 := zh hy491
     clear hy491
     by_cases c11 : y491.length + t487.length < 17592186044416
     ·rw [if_pos c11] at H
      have LMc11 := zh c11
      clear c11
      obtain ⟨y494, hy494⟩ : ∃ y_ : List Int, y_ = (y491 ++ t487) := ⟨_, rfl⟩
      replace H : (saronlaw06_listened.l1 k1 l1 l2 a3 x11_1 x12_1 x13_1 t486 t487 y494 0 a0_0 a0_1 a0_2 l0_3) = some (r1, r2, r3) := by first | (rw [hy494]; with_reducible exact H) | (have H2_ := (Option.bind_some _ _).symm.trans H; rw [hy494]; with_reducible exact H2_) | (have H2_ := (Option.bind_some _ _).symm.trans H; with_reducible exact H2_) | with_reducible exact H | (rw [hy494]; exact H) | exact H
      have Ny494 := zh hy494
      clear hy494
      have H' := zh H
      clear H
      go_wp2_with (first | (go_at_call 47; (with_reducible refine (saronref00_Nth.calls _ _ l2 (wrap64 (x13_1 + 1)) t485 _ ?side1 ?side2 A7.out).mono ?_); (case side1 => repeat (first | exact (Kd.C_below HR2.out HB.out) | (with_reducible refine Kd.C_alloc ?_ _) | (with_reducible refine Kd.C_drewN ?_ _) | (with_reducible refine Kd.C_drew ?_))); (case side2 => exact HC2.out); rintro e w' ⟨rfl, ⟨nd, rfl⟩⟩; (try first | exact ⟨rfl, _, World.drewN_drewN _ _ _⟩ | exact ⟨rfl, _, Eq.trans (World.drewN_drewN _ _ _) (congrArg (World.drewN _) (Nat.add_assoc _ _ _))⟩); (try have hcz12_0 : wr.cell? ⟨gb484, 0, none⟩ = some (.int .i64 a0_0) := vb BK484 0); (try have hcz12_1 : wr.cell? ⟨gb484, 1, none⟩ = some (.int .i64 a0_1) := vb BK484 1); (try have hcz12_2 : wr.cell? ⟨gb484, 2, none⟩ = some (.int .i64 a0_2) := vb BK484 2); (try have hcz12_3 : wr.cell? ⟨gb484, 3, none⟩ = some (.slice A0_3 l0_3.length c0_3) := vb BK484 3); (try have hfz12_0 := blk_frozen BK484.out 0); (try have hfz12_1 := blk_frozen BK484.out 1); (try have hfz12_2 := blk_frozen BK484.out 2); (try have hfz12_3 := blk_frozen BK484.out 3)) | (go_at_call 42; (with_reducible refine (saronref00_Turn.calls t485 (l0_3.length : Int) t486 _ A8.out).mono ?_); rintro e w' ⟨rfl, ⟨nd, rfl⟩⟩; (try first | exact ⟨rfl, _, World.drewN_drewN _ _ _⟩ | exact ⟨rfl, _, Eq.trans (World.drewN_drewN _ _ _) (congrArg (World.drewN _) (Nat.add_assoc _ _ _))⟩)) | (go_at_call 16; (with_reducible refine (kernel_Part.calls a0_0 a0_1 a0_2 _ _ l0_3 _ _ l1 t486 t487 t490 _ ?side1 ?side2 ?side3 ?side4 ?side5 A9.out).mono ?_); (case side1 => repeat (first | exact (Kd.C_below HR0_3.out zb) | (with_reducible refine Kd.C_alloc ?_ _) | (with_reducible refine Kd.C_drewN ?_ _) | (with_reducible refine Kd.C_drew ?_))); (case side2 => exact HC0_3.out); (case side3 => repeat (first | exact (Kd.C_below HR1.out zb) | (with_reducible refine Kd.C_alloc ?_ _) | (with_reducible refine Kd.C_drewN ?_ _) | (with_reducible refine Kd.C_drew ?_))); (case side4 => exact HC1.out); (case side5 => exact Glob.below HG.out zb); rintro e w13 ⟨v488, rfl, ho0, hb⟩; have n0_ := zh (Kd.N_below (zN HO_11) hb); have n1_ := zh (Kd.N_below (zN HO_12) hb); have n2_ := zh (Kd.V_lower (Kd.V_mono (ok' := fun k_ => (w.heap.size ≤ k_) ∧ some k_ ≠ (u11 : Value).ownBlock ∧ some k_ ≠ (u12 : Value).ownBlock ∧ k_ ≠ gb484) ho0 (fun k_ hk_ => ⟨(Nat.le_trans (below_size zb) hk_), (Kd.fresh' (Kd.N_lt (zN HO_11)) k_ hk_), (Kd.fresh' (Kd.N_lt (zN HO_12)) k_ hk_), (Kd.freshB (g := gb484) (o := .cells #[.int .i64 a0_0, .int .i64 a0_1, .int .i64 a0_2, .slice A0_3 l0_3.length c0_3] 24 (0, 0)) (zc BK484) k_ hk_)⟩)) (below_size zb)); have n3_ := zh (blk_below (g := gb484) (o := .cells #[.int .i64 a0_0, .int .i64 a0_1, .int .i64 a0_2, .slice A0_3 l0_3.length c0_3] 24 (0, 0)) (zc BK484) hb); have n4_ := zh (below_step zb hb); clear HO_11; clear HO_12; clear BK484; clear HB; have HO_11 := n0_; have HO_12 := n1_; have HO489 := n2_; have BK484 := n3_; have HB := n4_; clear n0_ n1_ n2_ n3_ n4_; (try clear hb); (try clear hb2); (try clear hk); (try clear hi); (try clear ho0)) | ((with_reducible refine gate_dst (N := 41) rfl ?_); refine Kd.R_lit (Kd.int .i64) _ 3 ?hg (N := 41) ?hd (xs := ([] : List Int)) (inner := []) (ok := fun _ => True) (okp := fun _ => True) ?hr ?hp (fun _ hk => hk) trivial (Below.refl _ _) (Nat.le_refl _) (by simp) ?_; (case hd => rfl); (case hg => rfl); (case hr => first | (go_simp; done) | (go_simp; rfl)); (case hp => exact (Reps.none _ _)); intro v492 w14 ho15 hb hg_ hnew_; clear hg_ hnew_; (first | rw [← Ny491.out] at ho15 | (simp only [Int.reduceToNat] at ho15; rw [← Ny491.out] at ho15)); have n0_ := zh (Kd.N_elder' (zN HO_11) (Kd.R_base ho15) hb); have n1_ := zh (Kd.N_elder' (zN HO_12) (Kd.R_base ho15) hb); have n2_ := zh (Kd.V_elder' (zV HO489) (Kd.R_base ho15) hb); have n3_ := zh (Kd.R_lower (Kd.R_newM (M := fun k_ => (w.heap.size ≤ k_)) ho15 (below_size zb) (fun k_ h_ => h_)) (below_size zb)); have n4_ := zh (blk_below (g := gb484) (o := .cells #[.int .i64 a0_0, .int .i64 a0_1, .int .i64 a0_2, .slice A0_3 l0_3.length c0_3] 24 (0, 0)) (zc BK484) hb); have n5_ := zh (below_step zb hb); clear HO_11; clear HO_12; clear HO489; clear BK484; clear HB; have HO_11 := n0_; have HO_12 := n1_; have HO489 := n2_; have HO493 := n3_; have BK484 := n4_; have HB := n5_; clear n0_ n1_ n2_ n3_ n4_ n5_; clear hb ho15; obtain ⟨Ao17, co17, eo17⟩ := Kd.V_slice HO489.out; subst eo17) | ((with_reducible refine gate_builtin (b := .append) (xs := #[.tmp 41, .tmp 42]) rfl ?_); at_builtin; refine Kd.R_append_rows (Kd.int .i64) (w0 := w) w.heap.size rfl (.tmp 41) (.tmp 42) 25 3 (.int .i64 0) 8 rfl Tryd.underlying25 info3 rfl (by decide) (by omega) v492 y491 t487 _ _ _ (fun k_ => (w.heap.size ≤ k_)) (fun _ => False) rfl rfl ?aO ?aR (fun _ _ h => h) (fun _ h => h.elim) ?aF ?aB ?aS ?aL ?_; (case aR => repeat (first | exact (Kd.V_reads' HO489.out).2.2 | (with_reducible refine Kd.C_alloc ?_ _) | (with_reducible refine Kd.C_drewN ?_ _) | (with_reducible refine Kd.C_drew ?_))); (case aB => exact zb); (case aF => exact (fun k_ hk => (Nat.le_trans (below_size zb) hk))); (case aO => exact dTr16); (case aS => exact (below_size zb)); (case aL => have := LMc11.out; omega); intro v495 w16 ho hb hg hat; rw [← Ny494.out] at ho; have n0_ := zh (Kd.N_afterv (ok := (fun k_ => (w.heap.size ≤ k_) ∧ some k_ ≠ (u12 : Value).ownBlock ∧ k_ ≠ gb484)) (zN HO_11) hg hat); have n1_ := zh (Kd.N_afterv (ok := (fun k_ => (w.heap.size ≤ k_) ∧ some k_ ≠ (u11 : Value).ownBlock ∧ k_ ≠ gb484)) (zN HO_12) hg hat); have n2_ := zh (blk_grown (g := gb484) (o := .cells #[.int .i64 a0_0, .int .i64 a0_1, .int .i64 a0_2, .slice A0_3 l0_3.length c0_3] 24 (0, 0)) (zc BK484) hg (Kd.R_ne HO493.out BK484.out (by decide))); have n3_ := zh (Kd.V_afterv (ok := (fun k_ => (w.heap.size ≤ k_) ∧ some k_ ≠ (u11 : Value).ownBlock ∧ some k_ ≠ (u12 : Value).ownBlock ∧ k_ ≠ gb484)) (zV HO489) hg hat); have n4_ := zh (hb); have n5_ := zh (ho); clear HO_11; clear HO_12; clear BK484; clear HO489; clear HB; clear HO493; have HO_11 := n0_; have HO_12 := n1_; have BK484 := n2_; have HO489 := n3_; have HB := n4_; have HO496 := n5_; clear n0_ n1_ n2_ n3_ n4_ n5_; clear ho hb hg hat))
      repeat (go_quiet (first | (go_at_call 47; (try simp only [i64_w, i32_w]); (with_reducible refine (saronref00_Nth.calls _ _ l2 (wrap64 (x13_1 + 1)) t485 _ ?side1 ?side2 A7.out).mono ?_); (case side1 => repeat (first | exact (Kd.C_below HR2.out HB.out) | (with_reducible refine Kd.C_alloc ?_ _) | (with_reducible refine Kd.C_drewN ?_ _) | (with_reducible refine Kd.C_drew ?_))); (case side2 => exact HC2.out); rintro e w' ⟨rfl, ⟨nd, rfl⟩⟩; (try first | exact ⟨rfl, _, World.drewN_drewN _ _ _⟩ | exact ⟨rfl, _, Eq.trans (World.drewN_drewN _ _ _) (congrArg (World.drewN _) (Nat.add_assoc _ _ _))⟩); (try have hcz12_0 : wr.cell? ⟨gb484, 0, none⟩ = some (.int .i64 a0_0) := vb BK484 0); (try have hcz12_1 : wr.cell? ⟨gb484, 1, none⟩ = some (.int .i64 a0_1) := vb BK484 1); (try have hcz12_2 : wr.cell? ⟨gb484, 2, none⟩ = some (.int .i64 a0_2) := vb BK484 2); (try have hcz12_3 : wr.cell? ⟨gb484, 3, none⟩ = some (.slice A0_3 l0_3.length c0_3) := vb BK484 3); (try have hfz12_0 := blk_frozen BK484.out 0); (try have hfz12_1 := blk_frozen BK484.out 1); (try have hfz12_2 := blk_frozen BK484.out 2); (try have hfz12_3 := blk_frozen BK484.out 3)) | (go_at_call 42; (try simp only [i64_w, i32_w]); (with_reducible refine (saronref00_Turn.calls t485 (l0_3.length : Int) t486 _ A8.out).mono ?_); rintro e w' ⟨rfl, ⟨nd, rfl⟩⟩; (try first | exact ⟨rfl, _, World.drewN_drewN _ _ _⟩ | exact ⟨rfl, _, Eq.trans (World.drewN_drewN _ _ _) (congrArg (World.drewN _) (Nat.add_assoc _ _ _))⟩)) | (go_at_call 16; (try simp only [i64_w, i32_w]); (with_reducible refine (kernel_Part.calls a0_0 a0_1 a0_2 _ _ l0_3 _ _ l1 t486 t487 t490 _ ?side1 ?side2 ?side3 ?side4 ?side5 A9.out).mono ?_); (case side1 => repeat (first | exact (Kd.C_below HR0_3.out zb) | (with_reducible refine Kd.C_alloc ?_ _) | (with_reducible refine Kd.C_drewN ?_ _) | (with_reducible refine Kd.C_drew ?_))); (case side2 => exact HC0_3.out); (case side3 => repeat (first | exact (Kd.C_below HR1.out zb) | (with_reducible refine Kd.C_alloc ?_ _) | (with_reducible refine Kd.C_drewN ?_ _) | (with_reducible refine Kd.C_drew ?_))); (case side4 => exact HC1.out); (case side5 => exact Glob.below HG.out zb); rintro e w13 ⟨v488, rfl, ho0, hb⟩; have n0_ := zh (Kd.N_below (zN HO_11) hb); have n1_ := zh (Kd.N_below (zN HO_12) hb); have n2_ := zh (Kd.V_lower (Kd.V_mono (ok' := fun k_ => (w.heap.size ≤ k_) ∧ some k_ ≠ (u11 : Value).ownBlock ∧ some k_ ≠ (u12 : Value).ownBlock ∧ k_ ≠ gb484) ho0 (fun k_ hk_ => ⟨(Nat.le_trans (below_size zb) hk_), (Kd.fresh' (Kd.N_lt (zN HO_11)) k_ hk_), (Kd.fresh' (Kd.N_lt (zN HO_12)) k_ hk_), (Kd.freshB (g := gb484) (o := .cells #[.int .i64 a0_0, .int .i64 a0_1, .int .i64 a0_2, .slice A0_3 l0_3.length c0_3] 24 (0, 0)) (zc BK484) k_ hk_)⟩)) (below_size zb)); have n3_ := zh (blk_below (g := gb484) (o := .cells #[.int .i64 a0_0, .int .i64 a0_1, .int .i64 a0_2, .slice A0_3 l0_3.length c0_3] 24 (0, 0)) (zc BK484) hb); have n4_ := zh (below_step zb hb); clear HO_11; clear HO_12; clear BK484; clear HB; have HO_11 := n0_; have HO_12 := n1_; have HO489 := n2_; have BK484 := n3_; have HB := n4_; clear n0_ n1_ n2_ n3_ n4_; (try clear hb); (try clear hb2); (try clear hk); (try clear hi); (try clear ho0)) | ((with_reducible refine gate_dst (N := 41) rfl ?_); refine Kd.R_lit (Kd.int .i64) _ 3 ?hg (N := 41) ?hd (xs := ([] : List Int)) (inner := []) (ok := fun _ => True) (okp := fun _ => True) ?hr ?hp (fun _ hk => hk) trivial (Below.refl _ _) (Nat.le_refl _) (by simp) ?_; (case hd => rfl); (case hg => rfl); (case hr => first | (go_simp; done) | (go_simp; rfl)); (case hp => exact (Reps.none _ _)); intro v492 w14 ho15 hb hg_ hnew_; clear hg_ hnew_; (first | rw [← Ny491.out] at ho15 | (simp only [Int.reduceToNat] at ho15; rw [← Ny491.out] at ho15)); have n0_ := zh (Kd.N_elder' (zN HO_11) (Kd.R_base ho15) hb); have n1_ := zh (Kd.N_elder' (zN HO_12) (Kd.R_base ho15) hb); have n2_ := zh (Kd.V_elder' (zV HO489) (Kd.R_base ho15) hb); have n3_ := zh (Kd.R_lower (Kd.R_newM (M := fun k_ => (w.heap.size ≤ k_)) ho15 (below_size zb) (fun k_ h_ => h_)) (below_size zb)); have n4_ := zh (blk_below (g := gb484) (o := .cells #[.int .i64 a0_0, .int .i64 a0_1, .int .i64 a0_2, .slice A0_3 l0_3.length c0_3] 24 (0, 0)) (zc BK484) hb); have n5_ := zh (below_step zb hb); clear HO_11; clear HO_12; clear HO489; clear BK484; clear HB; have HO_11 := n0_; have HO_12 := n1_; have HO489 := n2_; have HO493 := n3_; have BK484 := n4_; have HB := n5_; clear n0_ n1_ n2_ n3_ n4_ n5_; clear hb ho15; obtain ⟨Ao17, co17, eo17⟩ := Kd.V_slice HO489.out; subst eo17) | ((with_reducible refine gate_builtin (b := .append) (xs := #[.tmp 41, .tmp 42]) rfl ?_); at_builtin; refine Kd.R_append_rows (Kd.int .i64) (w0 := w) w.heap.size rfl (.tmp 41) (.tmp 42) 25 3 (.int .i64 0) 8 rfl Tryd.underlying25 info3 rfl (by decide) (by omega) v492 y491 t487 _ _ _ (fun k_ => (w.heap.size ≤ k_)) (fun _ => False) rfl rfl ?aO ?aR (fun _ _ h => h) (fun _ h => h.elim) ?aF ?aB ?aS ?aL ?_; (case aR => repeat (first | exact (Kd.V_reads' HO489.out).2.2 | (with_reducible refine Kd.C_alloc ?_ _) | (with_reducible refine Kd.C_drewN ?_ _) | (with_reducible refine Kd.C_drew ?_))); (case aB => exact zb); (case aF => exact (fun k_ hk => (Nat.le_trans (below_size zb) hk))); (case aO => exact dTr16); (case aS => exact (below_size zb)); (case aL => have := LMc11.out; omega); intro v495 w16 ho hb hg hat; rw [← Ny494.out] at ho; have n0_ := zh (Kd.N_afterv (ok := (fun k_ => (w.heap.size ≤ k_) ∧ some k_ ≠ (u12 : Value).ownBlock ∧ k_ ≠ gb484)) (zN HO_11) hg hat); have n1_ := zh (Kd.N_afterv (ok := (fun k_ => (w.heap.size ≤ k_) ∧ some k_ ≠ (u11 : Value).ownBlock ∧ k_ ≠ gb484)) (zN HO_12) hg hat); have n2_ := zh (blk_grown (g := gb484) (o := .cells #[.int .i64 a0_0, .int .i64 a0_1, .int .i64 a0_2, .slice A0_3 l0_3.length c0_3] 24 (0, 0)) (zc BK484) hg (Kd.R_ne HO493.out BK484.out (by decide))); have n3_ := zh (Kd.V_afterv (ok := (fun k_ => (w.heap.size ≤ k_) ∧ some k_ ≠ (u11 : Value).ownBlock ∧ some k_ ≠ (u12 : Value).ownBlock ∧ k_ ≠ gb484)) (zV HO489) hg hat); have n4_ := zh (hb); have n5_ := zh (ho); clear HO_11; clear HO_12; clear BK484; clear HO489; clear HB; clear HO493; have HO_11 := n0_; have HO_12 := n1_; have BK484 := n2_; have HO489 := n3_; have HB := n4_; have HO496 := n5_; clear n0_ n1_ n2_ n3_ n4_ n5_; clear ho hb hg hat)); try go_wp2_with (first | (go_at_call 47; (try simp only [i64_w, i32_w]); (with_reducible refine (saronref00_Nth.calls _ _ l2 (wrap64 (x13_1 + 1)) t485 _ ?side1 ?side2 A7.out).mono ?_); (case side1 => repeat (first | exact (Kd.C_below HR2.out HB.out) | (with_reducible refine Kd.C_alloc ?_ _) | (with_reducible refine Kd.C_drewN ?_ _) | (with_reducible refine Kd.C_drew ?_))); (case side2 => exact HC2.out); rintro e w' ⟨rfl, ⟨nd, rfl⟩⟩; (try first | exact ⟨rfl, _, World.drewN_drewN _ _ _⟩ | exact ⟨rfl, _, Eq.trans (World.drewN_drewN _ _ _) (congrArg (World.drewN _) (Nat.add_assoc _ _ _))⟩); (try have hcz12_0 : wr.cell? ⟨gb484, 0, none⟩ = some (.int .i64 a0_0) := vb BK484 0); (try have hcz12_1 : wr.cell? ⟨gb484, 1, none⟩ = some (.int .i64 a0_1) := vb BK484 1); (try have hcz12_2 : wr.cell? ⟨gb484, 2, none⟩ = some (.int .i64 a0_2) := vb BK484 2); (try have hcz12_3 : wr.cell? ⟨gb484, 3, none⟩ = some (.slice A0_3 l0_3.length c0_3) := vb BK484 3); (try have hfz12_0 := blk_frozen BK484.out 0); (try have hfz12_1 := blk_frozen BK484.out 1); (try have hfz12_2 := blk_frozen BK484.out 2); (try have hfz12_3 := blk_frozen BK484.out 3)) | (go_at_call 42; (try simp only [i64_w, i32_w]); (with_reducible refine (saronref00_Turn.calls t485 (l0_3.length : Int) t486 _ A8.out).mono ?_); rintro e w' ⟨rfl, ⟨nd, rfl⟩⟩; (try first | exact ⟨rfl, _, World.drewN_drewN _ _ _⟩ | exact ⟨rfl, _, Eq.trans (World.drewN_drewN _ _ _) (congrArg (World.drewN _) (Nat.add_assoc _ _ _))⟩)) | (go_at_call 16; (try simp only [i64_w, i32_w]); (with_reducible refine (kernel_Part.calls a0_0 a0_1 a0_2 _ _ l0_3 _ _ l1 t486 t487 t490 _ ?side1 ?side2 ?side3 ?side4 ?side5 A9.out).mono ?_); (case side1 => repeat (first | exact (Kd.C_below HR0_3.out zb) | (with_reducible refine Kd.C_alloc ?_ _) | (with_reducible refine Kd.C_drewN ?_ _) | (with_reducible refine Kd.C_drew ?_))); (case side2 => exact HC0_3.out); (case side3 => repeat (first | exact (Kd.C_below HR1.out zb) | (with_reducible refine Kd.C_alloc ?_ _) | (with_reducible refine Kd.C_drewN ?_ _) | (with_reducible refine Kd.C_drew ?_))); (case side4 => exact HC1.out); (case side5 => exact Glob.below HG.out zb); rintro e w13 ⟨v488, rfl, ho0, hb⟩; have n0_ := zh (Kd.N_below (zN HO_11) hb); have n1_ := zh (Kd.N_below (zN HO_12) hb); have n2_ := zh (Kd.V_lower (Kd.V_mono (ok' := fun k_ => (w.heap.size ≤ k_) ∧ some k_ ≠ (u11 : Value).ownBlock ∧ some k_ ≠ (u12 : Value).ownBlock ∧ k_ ≠ gb484) ho0 (fun k_ hk_ => ⟨(Nat.le_trans (below_size zb) hk_), (Kd.fresh' (Kd.N_lt (zN HO_11)) k_ hk_), (Kd.fresh' (Kd.N_lt (zN HO_12)) k_ hk_), (Kd.freshB (g := gb484) (o := .cells #[.int .i64 a0_0, .int .i64 a0_1, .int .i64 a0_2, .slice A0_3 l0_3.length c0_3] 24 (0, 0)) (zc BK484) k_ hk_)⟩)) (below_size zb)); have n3_ := zh (blk_below (g := gb484) (o := .cells #[.int .i64 a0_0, .int .i64 a0_1, .int .i64 a0_2, .slice A0_3 l0_3.length c0_3] 24 (0, 0)) (zc BK484) hb); have n4_ := zh (below_step zb hb); clear HO_11; clear HO_12; clear BK484; clear HB; have HO_11 := n0_; have HO_12 := n1_; have HO489 := n2_; have BK484 := n3_; have HB := n4_; clear n0_ n1_ n2_ n3_ n4_; (try clear hb); (try clear hb2); (try clear hk); (try clear hi); (try clear ho0)) | ((with_reducible refine gate_dst (N := 41) rfl ?_); refine Kd.R_lit (Kd.int .i64) _ 3 ?hg (N := 41) ?hd (xs := ([] : List Int)) (inner := []) (ok := fun _ => True) (okp := fun _ => True) ?hr ?hp (fun _ hk => hk) trivial (Below.refl _ _) (Nat.le_refl _) (by simp) ?_; (case hd => rfl); (case hg => rfl); (case hr => first | (go_simp; done) | (go_simp; rfl)); (case hp => exact (Reps.none _ _)); intro v492 w14 ho15 hb hg_ hnew_; clear hg_ hnew_; (first | rw [← Ny491.out] at ho15 | (simp only [Int.reduceToNat] at ho15; rw [← Ny491.out] at ho15)); have n0_ := zh (Kd.N_elder' (zN HO_11) (Kd.R_base ho15) hb); have n1_ := zh (Kd.N_elder' (zN HO_12) (Kd.R_base ho15) hb); have n2_ := zh (Kd.V_elder' (zV HO489) (Kd.R_base ho15) hb); have n3_ := zh (Kd.R_lower (Kd.R_newM (M := fun k_ => (w.heap.size ≤ k_)) ho15 (below_size zb) (fun k_ h_ => h_)) (below_size zb)); have n4_ := zh (blk_below (g := gb484) (o := .cells #[.int .i64 a0_0, .int .i64 a0_1, .int .i64 a0_2, .slice A0_3 l0_3.length c0_3] 24 (0, 0)) (zc BK484) hb); have n5_ := zh (below_step zb hb); clear HO_11; clear HO_12; clear HO489; clear BK484; clear HB; have HO_11 := n0_; have HO_12 := n1_; have HO489 := n2_; have HO493 := n3_; have BK484 := n4_; have HB := n5_; clear n0_ n1_ n2_ n3_ n4_ n5_; clear hb ho15; obtain ⟨Ao17, co17, eo17⟩ := Kd.V_slice HO489.out; subst eo17) | ((with_reducible refine gate_builtin (b := .append) (xs := #[.tmp 41, .tmp 42]) rfl ?_); at_builtin; refine Kd.R_append_rows (Kd.int .i64) (w0 := w) w.heap.size rfl (.tmp 41) (.tmp 42) 25 3 (.int .i64 0) 8 rfl Tryd.underlying25 info3 rfl (by decide) (by omega) v492 y491 t487 _ _ _ (fun k_ => (w.heap.size ≤ k_)) (fun _ => False) rfl rfl ?aO ?aR (fun _ _ h => h) (fun _ h => h.elim) ?aF ?aB ?aS ?aL ?_; (case aR => repeat (first | exact (Kd.V_reads' HO489.out).2.2 | (with_reducible refine Kd.C_alloc ?_ _) | (with_reducible refine Kd.C_drewN ?_ _) | (with_reducible refine Kd.C_drew ?_))); (case aB => exact zb); (case aF => exact (fun k_ hk => (Nat.le_trans (below_size zb) hk))); (case aO => exact dTr16); (case aS => exact (below_size zb)); (case aL => have := LMc11.out; omega); intro v495 w16 ho hb hg hat; rw [← Ny494.out] at ho; have n0_ := zh (Kd.N_afterv (ok := (fun k_ => (w.heap.size ≤ k_) ∧ some k_ ≠ (u12 : Value).ownBlock ∧ k_ ≠ gb484)) (zN HO_11) hg hat); have n1_ := zh (Kd.N_afterv (ok := (fun k_ => (w.heap.size ≤ k_) ∧ some k_ ≠ (u11 : Value).ownBlock ∧ k_ ≠ gb484)) (zN HO_12) hg hat); have n2_ := zh (blk_grown (g := gb484) (o := .cells #[.int .i64 a0_0, .int .i64 a0_1, .int .i64 a0_2, .slice A0_3 l0_3.length c0_3] 24 (0, 0)) (zc BK484) hg (Kd.R_ne HO493.out BK484.out (by decide))); have n3_ := zh (Kd.V_afterv (ok := (fun k_ => (w.heap.size ≤ k_) ∧ some k_ ≠ (u11 : Value).ownBlock ∧ some k_ ≠ (u12 : Value).ownBlock ∧ k_ ≠ gb484)) (zV HO489) hg hat); have n4_ := zh (hb); have n5_ := zh (ho); clear HO_11; clear HO_12; clear BK484; clear HO489; clear HB; clear HO493; have HO_11 := n0_; have HO_12 := n1_; have BK484 := n2_; have HO489 := n3_; have HB := n4_; have HO496 := n5_; clear n0_ n1_ n2_ n3_ n4_ n5_; clear ho hb hg hat)))
      go_loopg [18] k1 (fun kq v18 w' => ∃ (x17_2 : List Int) (x18_2 : Int), v18 = .int .i64 x18_2 ∧ Aside0 (saronlaw06_listened.l1 kq l1 l2 a3 x11_1 x12_1 x13_1 t486 t487 x17_2 x18_2 a0_0 a0_1 a0_2 l0_3 = some (r1, r2, r3)) ∧ Aside0 (kq ≤ k1) ∧ Aside0 (Kd.N k60 60 w' w.heap.size (fun k_ => (w.heap.size ≤ k_) ∧ some k_ ≠ (u12 : Value).ownBlock ∧ some k_ ≠ (v495 : Value).ownBlock ∧ k_ ≠ gb484) u11 x11_1) ∧ Aside0 (Kd.N (Kd.slice 3 (Kd.int .i64)) 25 w' w.heap.size (fun k_ => (w.heap.size ≤ k_) ∧ some k_ ≠ (u11 : Value).ownBlock ∧ some k_ ≠ (v495 : Value).ownBlock ∧ k_ ≠ gb484) u12 x12_1) ∧ Aside0 (Kd.V (Kd.int .i64) 3 w' w.heap.size (fun k_ => (w.heap.size ≤ k_) ∧ some k_ ≠ (u11 : Value).ownBlock ∧ some k_ ≠ (u12 : Value).ownBlock ∧ some k_ ≠ (v495 : Value).ownBlock ∧ k_ ≠ gb484) (.slice Ao17 t487.length co17) t487) ∧ Aside0 (Kd.R (Kd.int .i64) 3 w' w.heap.size (fun k_ => (w.heap.size ≤ k_)) v495 x17_2) ∧ Aside0 (w'.heap[gb484]? = some (.cells #[.int .i64 a0_0, .int .i64 a0_1, .int .i64 a0_2, (.slice A0_3 l0_3.length c0_3)] 24 (0, 0))) ∧ Aside0 (Below w.heap.size w w'))
      case atStart => exact ⟨(y494), (0), ze, H', ⟨Nat.le_refl _⟩, ⟨by (with_reducible repeat (first | apply Kd.N_alloc | apply Kd.N_drewN | apply Kd.N_drew)); exact Kd.N_mono HO_11.out (fun _ hk => ⟨hk.1.1, ⟨hk.1.2.1, ⟨hk.2, hk.1.2.2⟩⟩⟩)⟩, ⟨by (with_reducible repeat (first | apply Kd.N_alloc | apply Kd.N_drewN | apply Kd.N_drew)); exact Kd.N_mono HO_12.out (fun _ hk => ⟨hk.1.1, ⟨hk.1.2.1, ⟨hk.2, hk.1.2.2⟩⟩⟩)⟩, ⟨by (with_reducible repeat (first | apply Kd.V_alloc | apply Kd.V_drewN | apply Kd.V_drew)); exact Kd.V_mono HO489.out (fun _ hk => ⟨hk.1.1, ⟨hk.1.2.1, ⟨hk.1.2.2.1, ⟨hk.2, hk.1.2.2.2⟩⟩⟩⟩)⟩, ⟨zR HO496⟩, ⟨zc BK484⟩, ⟨zb⟩⟩
      case round =>
       clear H'
       try clear c1
       try clear c2
       try clear p2
       try clear c4
       try clear c6
       try clear c6b0
       try clear p6
       try clear c10
       try clear c10b0
       try clear c10b1
       try clear c11
       try clear hcz12_0
       try clear hcz12_1
       try clear hcz12_2
       try clear hcz12_3
       try clear hfz12_0
       try clear hfz12_1
       try clear hfz12_2
       try clear hfz12_3
       try clear p2
       obtain ⟨x17_2, x18_2, rfl, HA, HK2, HO_11, HO_12, HO_15, HO_17, BK484, HB⟩ := hrel
       cases gk with
       | zero => exact absurd HA.out (by simp [saronlaw06_listened.l1])
       | succ k2 =>
        have H := HA.out
        clear HA
        simp only [saronlaw06_listened.l1] at H
        by_cases c18 : x18_2 < (x17_2.length : Int)
        ·rw [if_pos c18] at H
         have c18b0 : decide (x18_2 < (x17_2.length : Int)) = true := decide_eq_true c18
         clear c18
         replace H := Option.bind_eq_some_iff.mp H
         obtain ⟨t507, A190, H⟩ := H
         replace H : ((saronref00_Turn.f (wrap64 (t507 + x18_2)) 4).bind fun t508 => (if t508 = 0 then (if 0 ≤ x18_2 then (saronlaw06_listened.l1 k2 l1 l2 a3 x11_1 x12_1 x13_1 t486 t487 (x17_2.set (x18_2 : Int).toNat (-2)) (wrap64 (x18_2 + 1)) a0_0 a0_1 a0_2 l0_3) else (none)) else (saronlaw06_listened.l1 k2 l1 l2 a3 x11_1 x12_1 x13_1 t486 t487 x17_2 (wrap64 (x18_2 + 1)) a0_0 a0_1 a0_2 l0_3))) = some (r1, r2, r3) := H
         have A19 := zh A190
         clear A190
         replace H := Option.bind_eq_some_iff.mp H
         obtain ⟨t508, A200, H⟩ := H
         replace H : (if t508 = 0 then (if 0 ≤ x18_2 then (saronlaw06_listened.l1 k2 l1 l2 a3 x11_1 x12_1 x13_1 t486 t487 (x17_2.set (x18_2 : Int).toNat (-2)) (wrap64 (x18_2 + 1)) a0_0 a0_1 a0_2 l0_3) else (none)) else (saronlaw06_listened.l1 k2 l1 l2 a3 x11_1 x12_1 x13_1 t486 t487 x17_2 (wrap64 (x18_2 + 1)) a0_0 a0_1 a0_2 l0_3)) = some (r1, r2, r3) := H
         have A20 := zh A200
         clear A200
         by_cases c21 : t508 = 0
         ·rw [if_pos c21] at H
          have c21b0 : (t508 == 0) = true := beq_iff_eq.mpr c21
          have c21b1 : (t508 != 0) = false := bne_eq_false_iff_eq.mpr c21
          clear c21
          by_cases c22 : 0 ≤ x18_2
          ·rw [if_pos c22] at H
           have c22b0 : decide (0 ≤ x18_2) = true := decide_eq_true c22
           clear c22
           obtain ⟨y509, hy509⟩ : ∃ y_ : List Int, y_ = (x17_2.set (x18_2 : Int).toNat (-2)) := ⟨_, rfl⟩
           replace H : (saronlaw06_listened.l1 k2 l1 l2 a3 x11_1 x12_1 x13_1 t486 t487 y509 (wrap64 (x18_2 + 1)) a0_0 a0_1 a0_2 l0_3) = some (r1, r2, r3) := by first | (rw [hy509]; with_reducible exact H) | (have H2_ := (Option.bind_some _ _).symm.trans H; rw [hy509]; with_reducible exact H2_) | (have H2_ := (Option.bind_some _ _).symm.trans H; with_reducible exact H2_) | with_reducible exact H | (rw [hy509]; exact H) | exact H
           have Ny509 := zh hy509
           clear hy509
           have H' := zh H
           clear H
           obtain ⟨Ao24, co24, eo24⟩ := Kd.R_slice HO_17.out
           subst eo24
           go_wp2_with (first | (go_at_call 47; (with_reducible refine (saronref00_Nth.calls _ _ l2 (wrap64 ((wrap64 (3 * x13_1)) + x18_2)) t507 _ ?side1 ?side2 A19.out).mono ?_); (case side1 => repeat (first | exact (Kd.C_below HR2.out HB.out) | (with_reducible refine Kd.C_alloc ?_ _) | (with_reducible refine Kd.C_drewN ?_ _) | (with_reducible refine Kd.C_drew ?_))); (case side2 => exact HC2.out); rintro e w' ⟨rfl, ⟨nd, rfl⟩⟩; (try first | exact ⟨rfl, _, World.drewN_drewN _ _ _⟩ | exact ⟨rfl, _, Eq.trans (World.drewN_drewN _ _ _) (congrArg (World.drewN _) (Nat.add_assoc _ _ _))⟩)) | (go_at_call 42; (with_reducible refine (saronref00_Turn.calls (wrap64 (t507 + x18_2)) 4 t508 _ A20.out).mono ?_); rintro e w' ⟨rfl, ⟨nd, rfl⟩⟩; (try first | exact ⟨rfl, _, World.drewN_drewN _ _ _⟩ | exact ⟨rfl, _, Eq.trans (World.drewN_drewN _ _ _) (congrArg (World.drewN _) (Nat.add_assoc _ _ _))⟩); (try have p23 : 0 ≤ (x18_2 : Int) := of_decide_eq_true zs); (try have q23 : (x18_2 : Int) < ((x17_2.length : Int) : Int) := of_decide_eq_true zs); obtain ⟨go23, co23, eo23, gb23, gl23, cl23, HG23⟩ := Kd.R_form HO_17.out (by omega); (first | cases eo23 | (injection eo23 with ea_ en_ ec_; (first | subst ea_ | (injection ea_ with ea_; subst ea_)); subst ec_; clear en_)); have GB23 := zh gb23; have GG23 := zh HG23; clear gb23 gl23 HG23; obtain ⟨hx23_0, hf23_0⟩ := Kd.R_celln 0 HO_17.out (x18_2 : Int) p23 q23; replace p23 := eq_true p23; replace q23 := eq_true q23; obtain ⟨hy25_, hz25_⟩ := Kd.R_celln 0 HO_17.out (x18_2 : Int) (of_decide_eq_true zs) (of_decide_eq_true zs); have HP25 := Kd.R_putg HO_17.out (x18_2 : Int) (-2)) | ((with_reducible refine gate_store (t := 3) (p := 62) rfl ?_); (try (rw [drewN_self wr]; generalize hq_ : World.drewN wr _ = wr; have n0_ := zh (Kd.N_at hq_ HO_11.out); have n1_ := zh (Kd.N_at hq_ HO_12.out); have n2_ := zh (Kd.V_at hq_ HO_15.out); have n3_ := zh (Kd.R_at hq_ HO_17.out); have n4_ := zh (blk_at hq_ BK484.out); have n5_ := zh (below_at hq_ HB.out); clear hq_ HO_11 HO_12 HO_15 HO_17 BK484 HB; have HO_11 := n0_; have HO_12 := n1_; have HO_15 := n2_; have HO_17 := n3_; have BK484 := n4_; have HB := n5_; clear n0_ n1_ n2_ n3_ n4_ n5_; (try (obtain ⟨hy25_, hz25_⟩ := Kd.R_celln 0 HO_17.out (x18_2 : Int) (of_decide_eq_true zs) (of_decide_eq_true zs))); (try (have HP25 := Kd.R_putg HO_17.out (x18_2 : Int) (-2))))); refine store_event (t := 3) (p := 62) (v := ?vo_w26) (w1 := (wr.setCell ⟨go23, (x18_2 : Int).toNat, none⟩ (.int .i64 (-2)))) ?hg ?ho ?hn ?hr ?_; (case ho => rfl); (case hg => rfl); (case hn => rfl); (case hr => first | (go_simp; done) | (go_simp; rfl)); intro w26 hw; have hg : wr.grownBy w26 (some go23) := (by rw [hw]; exact HP25.2); have hp_ : Kd.R (Kd.int .i64) 3 w26 w.heap.size (fun k_ => (w.heap.size ≤ k_)) (.slice (some ⟨go23, 0, none⟩) x17_2.length co24) y509 := (by rw [hw, Ny509.out]; exact HP25.1); clear HP25; have n0_ := zh (Kd.N_afterv (v := (.slice (some ⟨go23, 0, none⟩) x17_2.length co24)) (v1 := (.slice (some ⟨go23, 0, none⟩) x17_2.length co24)) (ok := (fun k_ => (w.heap.size ≤ k_) ∧ some k_ ≠ (u12 : Value).ownBlock ∧ k_ ≠ gb484)) dTr10 hg (.inl rfl)); have n1_ := zh (Kd.N_afterv (v := (.slice (some ⟨go23, 0, none⟩) x17_2.length co24)) (v1 := (.slice (some ⟨go23, 0, none⟩) x17_2.length co24)) (ok := (fun k_ => (w.heap.size ≤ k_) ∧ some k_ ≠ (u11 : Value).ownBlock ∧ k_ ≠ gb484)) dTr9 hg (.inl rfl)); have n2_ := zh (Kd.V_afterv (v := (.slice (some ⟨go23, 0, none⟩) x17_2.length co24)) (v1 := (.slice (some ⟨go23, 0, none⟩) x17_2.length co24)) (ok := (fun k_ => (w.heap.size ≤ k_) ∧ some k_ ≠ (u11 : Value).ownBlock ∧ some k_ ≠ (u12 : Value).ownBlock ∧ k_ ≠ gb484)) dTr4 hg (.inl rfl)); have n3_ := zh (hp_); have n4_ := zh (blk_grown (g := gb484) (o := .cells #[.int .i64 a0_0, .int .i64 a0_1, .int .i64 a0_2, .slice A0_3 l0_3.length c0_3] 24 (0, 0)) (zc BK484) hg (Kd.R_ne HO_17.out BK484.out (by decide))); have n5_ := zh ((by rw [hw]; exact below_set (HB.out) GB23.out : Below w.heap.size w w26)); clear HO_11; clear HO_12; clear HO_15; clear HO_17; clear BK484; clear HB; have HO_11 := n0_; have HO_12 := n1_; have HO_15 := n2_; have HO_17 := n3_; have BK484 := n4_; have HB := n5_; clear n0_ n1_ n2_ n3_ n4_ n5_; clear hg hw hp_))
           repeat (go_quiet (first | (go_at_call 47; (try simp only [i64_w, i32_w]); (with_reducible refine (saronref00_Nth.calls _ _ l2 (wrap64 ((wrap64 (3 * x13_1)) + x18_2)) t507 _ ?side1 ?side2 A19.out).mono ?_); (case side1 => repeat (first | exact (Kd.C_below HR2.out HB.out) | (with_reducible refine Kd.C_alloc ?_ _) | (with_reducible refine Kd.C_drewN ?_ _) | (with_reducible refine Kd.C_drew ?_))); (case side2 => exact HC2.out); rintro e w' ⟨rfl, ⟨nd, rfl⟩⟩; (try first | exact ⟨rfl, _, World.drewN_drewN _ _ _⟩ | exact ⟨rfl, _, Eq.trans (World.drewN_drewN _ _ _) (congrArg (World.drewN _) (Nat.add_assoc _ _ _))⟩)) | (go_at_call 42; (try simp only [i64_w, i32_w]); (with_reducible refine (saronref00_Turn.calls (wrap64 (t507 + x18_2)) 4 t508 _ A20.out).mono ?_); rintro e w' ⟨rfl, ⟨nd, rfl⟩⟩; (try first | exact ⟨rfl, _, World.drewN_drewN _ _ _⟩ | exact ⟨rfl, _, Eq.trans (World.drewN_drewN _ _ _) (congrArg (World.drewN _) (Nat.add_assoc _ _ _))⟩); (try have p23 : 0 ≤ (x18_2 : Int) := of_decide_eq_true zs); (try have q23 : (x18_2 : Int) < ((x17_2.length : Int) : Int) := of_decide_eq_true zs); obtain ⟨go23, co23, eo23, gb23, gl23, cl23, HG23⟩ := Kd.R_form HO_17.out (by omega); (first | cases eo23 | (injection eo23 with ea_ en_ ec_; (first | subst ea_ | (injection ea_ with ea_; subst ea_)); subst ec_; clear en_)); have GB23 := zh gb23; have GG23 := zh HG23; clear gb23 gl23 HG23; obtain ⟨hx23_0, hf23_0⟩ := Kd.R_celln 0 HO_17.out (x18_2 : Int) p23 q23; replace p23 := eq_true p23; replace q23 := eq_true q23; obtain ⟨hy25_, hz25_⟩ := Kd.R_celln 0 HO_17.out (x18_2 : Int) (of_decide_eq_true zs) (of_decide_eq_true zs); have HP25 := Kd.R_putg HO_17.out (x18_2 : Int) (-2)) | ((with_reducible refine gate_store (t := 3) (p := 62) rfl ?_); (try (rw [drewN_self wr]; generalize hq_ : World.drewN wr _ = wr; have n0_ := zh (Kd.N_at hq_ HO_11.out); have n1_ := zh (Kd.N_at hq_ HO_12.out); have n2_ := zh (Kd.V_at hq_ HO_15.out); have n3_ := zh (Kd.R_at hq_ HO_17.out); have n4_ := zh (blk_at hq_ BK484.out); have n5_ := zh (below_at hq_ HB.out); clear hq_ HO_11 HO_12 HO_15 HO_17 BK484 HB; have HO_11 := n0_; have HO_12 := n1_; have HO_15 := n2_; have HO_17 := n3_; have BK484 := n4_; have HB := n5_; clear n0_ n1_ n2_ n3_ n4_ n5_; (try (obtain ⟨hy25_, hz25_⟩ := Kd.R_celln 0 HO_17.out (x18_2 : Int) (of_decide_eq_true zs) (of_decide_eq_true zs))); (try (have HP25 := Kd.R_putg HO_17.out (x18_2 : Int) (-2))))); refine store_event (t := 3) (p := 62) (v := ?vo_w26) (w1 := (wr.setCell ⟨go23, (x18_2 : Int).toNat, none⟩ (.int .i64 (-2)))) ?hg ?ho ?hn ?hr ?_; (case ho => rfl); (case hg => rfl); (case hn => rfl); (case hr => first | (go_simp; done) | (go_simp; rfl)); intro w26 hw; have hg : wr.grownBy w26 (some go23) := (by rw [hw]; exact HP25.2); have hp_ : Kd.R (Kd.int .i64) 3 w26 w.heap.size (fun k_ => (w.heap.size ≤ k_)) (.slice (some ⟨go23, 0, none⟩) x17_2.length co24) y509 := (by rw [hw, Ny509.out]; exact HP25.1); clear HP25; have n0_ := zh (Kd.N_afterv (v := (.slice (some ⟨go23, 0, none⟩) x17_2.length co24)) (v1 := (.slice (some ⟨go23, 0, none⟩) x17_2.length co24)) (ok := (fun k_ => (w.heap.size ≤ k_) ∧ some k_ ≠ (u12 : Value).ownBlock ∧ k_ ≠ gb484)) dTr10 hg (.inl rfl)); have n1_ := zh (Kd.N_afterv (v := (.slice (some ⟨go23, 0, none⟩) x17_2.length co24)) (v1 := (.slice (some ⟨go23, 0, none⟩) x17_2.length co24)) (ok := (fun k_ => (w.heap.size ≤ k_) ∧ some k_ ≠ (u11 : Value).ownBlock ∧ k_ ≠ gb484)) dTr9 hg (.inl rfl)); have n2_ := zh (Kd.V_afterv (v := (.slice (some ⟨go23, 0, none⟩) x17_2.length co24)) (v1 := (.slice (some ⟨go23, 0, none⟩) x17_2.length co24)) (ok := (fun k_ => (w.heap.size ≤ k_) ∧ some k_ ≠ (u11 : Value).ownBlock ∧ some k_ ≠ (u12 : Value).ownBlock ∧ k_ ≠ gb484)) dTr4 hg (.inl rfl)); have n3_ := zh (hp_); have n4_ := zh (blk_grown (g := gb484) (o := .cells #[.int .i64 a0_0, .int .i64 a0_1, .int .i64 a0_2, .slice A0_3 l0_3.length c0_3] 24 (0, 0)) (zc BK484) hg (Kd.R_ne HO_17.out BK484.out (by decide))); have n5_ := zh ((by rw [hw]; exact below_set (HB.out) GB23.out : Below w.heap.size w w26)); clear HO_11; clear HO_12; clear HO_15; clear HO_17; clear BK484; clear HB; have HO_11 := n0_; have HO_12 := n1_; have HO_15 := n2_; have HO_17 := n3_; have BK484 := n4_; have HB := n5_; clear n0_ n1_ n2_ n3_ n4_ n5_; clear hg hw hp_)); try go_wp2_with (first | (go_at_call 47; (try simp only [i64_w, i32_w]); (with_reducible refine (saronref00_Nth.calls _ _ l2 (wrap64 ((wrap64 (3 * x13_1)) + x18_2)) t507 _ ?side1 ?side2 A19.out).mono ?_); (case side1 => repeat (first | exact (Kd.C_below HR2.out HB.out) | (with_reducible refine Kd.C_alloc ?_ _) | (with_reducible refine Kd.C_drewN ?_ _) | (with_reducible refine Kd.C_drew ?_))); (case side2 => exact HC2.out); rintro e w' ⟨rfl, ⟨nd, rfl⟩⟩; (try first | exact ⟨rfl, _, World.drewN_drewN _ _ _⟩ | exact ⟨rfl, _, Eq.trans (World.drewN_drewN _ _ _) (congrArg (World.drewN _) (Nat.add_assoc _ _ _))⟩)) | (go_at_call 42; (try simp only [i64_w, i32_w]); (with_reducible refine (saronref00_Turn.calls (wrap64 (t507 + x18_2)) 4 t508 _ A20.out).mono ?_); rintro e w' ⟨rfl, ⟨nd, rfl⟩⟩; (try first | exact ⟨rfl, _, World.drewN_drewN _ _ _⟩ | exact ⟨rfl, _, Eq.trans (World.drewN_drewN _ _ _) (congrArg (World.drewN _) (Nat.add_assoc _ _ _))⟩); (try have p23 : 0 ≤ (x18_2 : Int) := of_decide_eq_true zs); (try have q23 : (x18_2 : Int) < ((x17_2.length : Int) : Int) := of_decide_eq_true zs); obtain ⟨go23, co23, eo23, gb23, gl23, cl23, HG23⟩ := Kd.R_form HO_17.out (by omega); (first | cases eo23 | (injection eo23 with ea_ en_ ec_; (first | subst ea_ | (injection ea_ with ea_; subst ea_)); subst ec_; clear en_)); have GB23 := zh gb23; have GG23 := zh HG23; clear gb23 gl23 HG23; obtain ⟨hx23_0, hf23_0⟩ := Kd.R_celln 0 HO_17.out (x18_2 : Int) p23 q23; replace p23 := eq_true p23; replace q23 := eq_true q23; obtain ⟨hy25_, hz25_⟩ := Kd.R_celln 0 HO_17.out (x18_2 : Int) (of_decide_eq_true zs) (of_decide_eq_true zs); have HP25 := Kd.R_putg HO_17.out (x18_2 : Int) (-2)) | ((with_reducible refine gate_store (t := 3) (p := 62) rfl ?_); (try (rw [drewN_self wr]; generalize hq_ : World.drewN wr _ = wr; have n0_ := zh (Kd.N_at hq_ HO_11.out); have n1_ := zh (Kd.N_at hq_ HO_12.out); have n2_ := zh (Kd.V_at hq_ HO_15.out); have n3_ := zh (Kd.R_at hq_ HO_17.out); have n4_ := zh (blk_at hq_ BK484.out); have n5_ := zh (below_at hq_ HB.out); clear hq_ HO_11 HO_12 HO_15 HO_17 BK484 HB; have HO_11 := n0_; have HO_12 := n1_; have HO_15 := n2_; have HO_17 := n3_; have BK484 := n4_; have HB := n5_; clear n0_ n1_ n2_ n3_ n4_ n5_; (try (obtain ⟨hy25_, hz25_⟩ := Kd.R_celln 0 HO_17.out (x18_2 : Int) (of_decide_eq_true zs) (of_decide_eq_true zs))); (try (have HP25 := Kd.R_putg HO_17.out (x18_2 : Int) (-2))))); refine store_event (t := 3) (p := 62) (v := ?vo_w26) (w1 := (wr.setCell ⟨go23, (x18_2 : Int).toNat, none⟩ (.int .i64 (-2)))) ?hg ?ho ?hn ?hr ?_; (case ho => rfl); (case hg => rfl); (case hn => rfl); (case hr => first | (go_simp; done) | (go_simp; rfl)); intro w26 hw; have hg : wr.grownBy w26 (some go23) := (by rw [hw]; exact HP25.2); have hp_ : Kd.R (Kd.int .i64) 3 w26 w.heap.size (fun k_ => (w.heap.size ≤ k_)) (.slice (some ⟨go23, 0, none⟩) x17_2.length co24) y509 := (by rw [hw, Ny509.out]; exact HP25.1); clear HP25; have n0_ := zh (Kd.N_afterv (v := (.slice (some ⟨go23, 0, none⟩) x17_2.length co24)) (v1 := (.slice (some ⟨go23, 0, none⟩) x17_2.length co24)) (ok := (fun k_ => (w.heap.size ≤ k_) ∧ some k_ ≠ (u12 : Value).ownBlock ∧ k_ ≠ gb484)) dTr10 hg (.inl rfl)); have n1_ := zh (Kd.N_afterv (v := (.slice (some ⟨go23, 0, none⟩) x17_2.length co24)) (v1 := (.slice (some ⟨go23, 0, none⟩) x17_2.length co24)) (ok := (fun k_ => (w.heap.size ≤ k_) ∧ some k_ ≠ (u11 : Value).ownBlock ∧ k_ ≠ gb484)) dTr9 hg (.inl rfl)); have n2_ := zh (Kd.V_afterv (v := (.slice (some ⟨go23, 0, none⟩) x17_2.length co24)) (v1 := (.slice (some ⟨go23, 0, none⟩) x17_2.length co24)) (ok := (fun k_ => (w.heap.size ≤ k_) ∧ some k_ ≠ (u11 : Value).ownBlock ∧ some k_ ≠ (u12 : Value).ownBlock ∧ k_ ≠ gb484)) dTr4 hg (.inl rfl)); have n3_ := zh (hp_); have n4_ := zh (blk_grown (g := gb484) (o := .cells #[.int .i64 a0_0, .int .i64 a0_1, .int .i64 a0_2, .slice A0_3 l0_3.length c0_3] 24 (0, 0)) (zc BK484) hg (Kd.R_ne HO_17.out BK484.out (by decide))); have n5_ := zh ((by rw [hw]; exact below_set (HB.out) GB23.out : Below w.heap.size w w26)); clear HO_11; clear HO_12; clear HO_15; clear HO_17; clear BK484; clear HB; have HO_11 := n0_; have HO_12 := n1_; have HO_15 := n2_; have HO_17 := n3_; have BK484 := n4_; have HB := n5_; clear n0_ n1_ n2_ n3_ n4_ n5_; clear hg hw hp_)))
           go_roundg k2
           case measure => have := HK1.out; have := HK2.out; omega
           case rel => exact ⟨(y509), (wrap64 (x18_2 + 1)), ze, H', ⟨zw HK1 HK2⟩, ⟨by (with_reducible repeat (first | apply Kd.N_alloc | apply Kd.N_drewN | apply Kd.N_drew)); refine Kd.N_far ?_ (fun k_ hk_ e_ => by subst e_; simp [Value.ownBlock] at hk_) _; (with_reducible repeat (first | apply Kd.N_alloc | apply Kd.N_drewN | apply Kd.N_drew)); exact HO_11.out⟩, ⟨by (with_reducible repeat (first | apply Kd.N_alloc | apply Kd.N_drewN | apply Kd.N_drew)); refine Kd.N_far ?_ (fun k_ hk_ e_ => by subst e_; simp [Value.ownBlock] at hk_) _; (with_reducible repeat (first | apply Kd.N_alloc | apply Kd.N_drewN | apply Kd.N_drew)); exact HO_12.out⟩, ⟨by (with_reducible repeat (first | apply Kd.V_alloc | apply Kd.V_drewN | apply Kd.V_drew)); refine Kd.V_far ?_ (fun k_ hk_ e_ => by subst e_; simp [Value.ownBlock] at hk_) _; (with_reducible repeat (first | apply Kd.V_alloc | apply Kd.V_drewN | apply Kd.V_drew)); exact HO_15.out⟩, ⟨by (with_reducible repeat (first | apply Kd.R_alloc | apply Kd.R_drewN | apply Kd.R_drew)); rw [Ny509.out]; exact Kd.R_putn (Kd.R_drewN HO_17.out _) x18_2 (-2)⟩, ⟨by (with_reducible repeat (first | refine blk_drewN ?_ _ | refine blk_drew ?_ | refine blk_alloc ?_ _)); refine blk_far ?_ (by have h_ := Kd.R_ne HO_17.out BK484.out (by decide); intro e_; exact h_ (by rw [e_]; rfl)) _; (with_reducible repeat (first | refine blk_drewN ?_ _ | refine blk_drew ?_ | refine blk_alloc ?_ _)); exact BK484.out⟩, ⟨zb⟩⟩
          ·rw [if_neg c22] at H
           exact absurd H (by simp)
         ·rw [if_neg c21] at H
          have c21b0 : (t508 == 0) = false := beq_eq_false_iff_ne.mpr c21
          have c21b1 : (t508 != 0) = true := bne_iff_ne.mpr c21
          have H' := zh H
          clear H
          obtain ⟨Ao27, co27, eo27⟩ := Kd.R_slice HO_17.out
          subst eo27
          go_wp2_with (first | (go_at_call 47; (with_reducible refine (saronref00_Nth.calls _ _ l2 (wrap64 ((wrap64 (3 * x13_1)) + x18_2)) t507 _ ?side1 ?side2 A19.out).mono ?_); (case side1 => repeat (first | exact (Kd.C_below HR2.out HB.out) | (with_reducible refine Kd.C_alloc ?_ _) | (with_reducible refine Kd.C_drewN ?_ _) | (with_reducible refine Kd.C_drew ?_))); (case side2 => exact HC2.out); rintro e w' ⟨rfl, ⟨nd, rfl⟩⟩; (try first | exact ⟨rfl, _, World.drewN_drewN _ _ _⟩ | exact ⟨rfl, _, Eq.trans (World.drewN_drewN _ _ _) (congrArg (World.drewN _) (Nat.add_assoc _ _ _))⟩)) | (go_at_call 42; (with_reducible refine (saronref00_Turn.calls (wrap64 (t507 + x18_2)) 4 t508 _ A20.out).mono ?_); rintro e w' ⟨rfl, ⟨nd, rfl⟩⟩; (try first | exact ⟨rfl, _, World.drewN_drewN _ _ _⟩ | exact ⟨rfl, _, Eq.trans (World.drewN_drewN _ _ _) (congrArg (World.drewN _) (Nat.add_assoc _ _ _))⟩)))
          repeat (go_quiet (first | (go_at_call 47; (try simp only [i64_w, i32_w]); (with_reducible refine (saronref00_Nth.calls _ _ l2 (wrap64 ((wrap64 (3 * x13_1)) + x18_2)) t507 _ ?side1 ?side2 A19.out).mono ?_); (case side1 => repeat (first | exact (Kd.C_below HR2.out HB.out) | (with_reducible refine Kd.C_alloc ?_ _) | (with_reducible refine Kd.C_drewN ?_ _) | (with_reducible refine Kd.C_drew ?_))); (case side2 => exact HC2.out); rintro e w' ⟨rfl, ⟨nd, rfl⟩⟩; (try first | exact ⟨rfl, _, World.drewN_drewN _ _ _⟩ | exact ⟨rfl, _, Eq.trans (World.drewN_drewN _ _ _) (congrArg (World.drewN _) (Nat.add_assoc _ _ _))⟩)) | (go_at_call 42; (try simp only [i64_w, i32_w]); (with_reducible refine (saronref00_Turn.calls (wrap64 (t507 + x18_2)) 4 t508 _ A20.out).mono ?_); rintro e w' ⟨rfl, ⟨nd, rfl⟩⟩; (try first | exact ⟨rfl, _, World.drewN_drewN _ _ _⟩ | exact ⟨rfl, _, Eq.trans (World.drewN_drewN _ _ _) (congrArg (World.drewN _) (Nat.add_assoc _ _ _))⟩))); try go_wp2_with (first | (go_at_call 47; (try simp only [i64_w, i32_w]); (with_reducible refine (saronref00_Nth.calls _ _ l2 (wrap64 ((wrap64 (3 * x13_1)) + x18_2)) t507 _ ?side1 ?side2 A19.out).mono ?_); (case side1 => repeat (first | exact (Kd.C_below HR2.out HB.out) | (with_reducible refine Kd.C_alloc ?_ _) | (with_reducible refine Kd.C_drewN ?_ _) | (with_reducible refine Kd.C_drew ?_))); (case side2 => exact HC2.out); rintro e w' ⟨rfl, ⟨nd, rfl⟩⟩; (try first | exact ⟨rfl, _, World.drewN_drewN _ _ _⟩ | exact ⟨rfl, _, Eq.trans (World.drewN_drewN _ _ _) (congrArg (World.drewN _) (Nat.add_assoc _ _ _))⟩)) | (go_at_call 42; (try simp only [i64_w, i32_w]); (with_reducible refine (saronref00_Turn.calls (wrap64 (t507 + x18_2)) 4 t508 _ A20.out).mono ?_); rintro e w' ⟨rfl, ⟨nd, rfl⟩⟩; (try first | exact ⟨rfl, _, World.drewN_drewN _ _ _⟩ | exact ⟨rfl, _, Eq.trans (World.drewN_drewN _ _ _) (congrArg (World.drewN _) (Nat.add_assoc _ _ _))⟩))))
          go_roundg k2
          case measure => have := HK1.out; have := HK2.out; omega
          case rel => exact ⟨(x17_2), (wrap64 (x18_2 + 1)), ze, H', ⟨zw HK1 HK2⟩, ⟨zN HO_11⟩, ⟨zN HO_12⟩, ⟨zV HO_15⟩, ⟨zR HO_17⟩, ⟨zc BK484⟩, ⟨zb⟩⟩
        ·rw [if_neg c18] at H
         have c18b0 : decide (x18_2 < (x17_2.length : Int)) = false := decide_eq_false c18
         clear c18
         replace H := Option.bind_eq_some_iff.mp H
         obtain ⟨⟨t497, t498⟩, A280, H⟩ := H
         replace H : (if x11_1.length < 4398046511104 then (if x12_1.length < 5864062014805 then (saronlaw06_listened.l0 k2 l1 l2 a3 (x11_1 ++ [(⟨t497, t498⟩ : S60)]) (x12_1 ++ [t487]) (wrap64 (x13_1 + 1)) a0_0 a0_1 a0_2 l0_3) else (none)) else (none)) = some (r1, r2, r3) := H
         have A28 := zh A280
         clear A280
         by_cases c29 : x11_1.length < 4398046511104
         ·rw [if_pos c29] at H
          have LMc29 := zh c29
          clear c29
          obtain ⟨y501, hy501⟩ : ∃ y_ : List (S60), y_ = (x11_1 ++ [(⟨t497, t498⟩ : S60)]) := ⟨_, rfl⟩
          replace H : (if x12_1.length < 5864062014805 then (saronlaw06_listened.l0 k2 l1 l2 a3 y501 (x12_1 ++ [t487]) (wrap64 (x13_1 + 1)) a0_0 a0_1 a0_2 l0_3) else (none)) = some (r1, r2, r3) := by first | (rw [hy501]; with_reducible exact H) | (have H2_ := (Option.bind_some _ _).symm.trans H; rw [hy501]; with_reducible exact H2_) | (have H2_ := (Option.bind_some _ _).symm.trans H; with_reducible exact H2_) | with_reducible exact H | (rw [hy501]; exact H) | exact H
          have Ny501 := zh hy501
          clear hy501
          by_cases c30 : x12_1.length < 5864062014805
          ·rw [if_pos c30] at H
           have LMc30 := zh c30
           clear c30
           obtain ⟨y504, hy504⟩ : ∃ y_ : List (List Int), y_ = (x12_1 ++ [t487]) := ⟨_, rfl⟩
           replace H : (saronlaw06_listened.l0 k2 l1 l2 a3 y501 y504 (wrap64 (x13_1 + 1)) a0_0 a0_1 a0_2 l0_3) = some (r1, r2, r3) := by first | (rw [hy504]; with_reducible exact H) | (have H2_ := (Option.bind_some _ _).symm.trans H; rw [hy504]; with_reducible exact H2_) | (have H2_ := (Option.bind_some _ _).symm.trans H; with_reducible exact H2_) | with_reducible exact H | (rw [hy504]; exact H) | exact H
           have Ny504 := zh hy504
           clear hy504
           have H' := zh H
           clear H
           obtain ⟨Ao31, co31, eo31⟩ := Kd.R_slice HO_17.out
           subst eo31
           go_wp2_with (first | (go_at_call 44; (with_reducible refine (saronlaw06_of.calls t486 (fun k_ => some k_ = (.slice Ao31 x17_2.length co31 : Value).ownBlock) (.slice Ao31 x17_2.length co31) x17_2 t497 t498 w _ ?side1 ?side2 A28.out).mono ?_); (case side1 => repeat (first | (with_reducible first | exact HB.out | apply below_alloc | apply pw_below_drewN | apply below_drew1 | refine below_set ?_ GE484.out) | exact HB.out)); (case side2 => exact Kd.R_tight rfl HO_17.out); rintro e w32 ⟨v499, rfl, ho0, hb, hkp⟩; have n0_ := zh (Kd.N_mono (ok' := fun k_ => (w.heap.size ≤ k_) ∧ some k_ ≠ (u12 : Value).ownBlock ∧ k_ ≠ gb484 ∧ some k_ ≠ (v499 : Value).ownBlock) (Kd.N_keptB (HO_11.out) hkp (fun k_ hk_ hs_ => (hk_.2.2.1) hs_)) (fun k_ hk_ => ⟨hk_.1.1, hk_.1.2.1, hk_.1.2.2.2, fun e_ => Or.elim (ho0.1 k_ e_.symm) (fun hs_ => hk_.2.1 hs_) (fun hn_ => Nat.not_le.2 hk_.2.2 hn_)⟩)); have n1_ := zh (Kd.N_mono (ok' := fun k_ => (w.heap.size ≤ k_) ∧ some k_ ≠ (u11 : Value).ownBlock ∧ k_ ≠ gb484 ∧ some k_ ≠ (v499 : Value).ownBlock) (Kd.N_keptB (HO_12.out) hkp (fun k_ hk_ hs_ => (hk_.2.2.1) hs_)) (fun k_ hk_ => ⟨hk_.1.1, hk_.1.2.1, hk_.1.2.2.2, fun e_ => Or.elim (ho0.1 k_ e_.symm) (fun hs_ => hk_.2.1 hs_) (fun hn_ => Nat.not_le.2 hk_.2.2 hn_)⟩)); have n2_ := zh (Kd.V_mono (ok' := fun k_ => (w.heap.size ≤ k_) ∧ some k_ ≠ (u11 : Value).ownBlock ∧ some k_ ≠ (u12 : Value).ownBlock ∧ k_ ≠ gb484 ∧ some k_ ≠ (v499 : Value).ownBlock) (Kd.V_keptB (HO_15.out) hkp (fun k_ hk_ hs_ => (hk_.2.2.2.1) hs_)) (fun k_ hk_ => ⟨hk_.1.1, hk_.1.2.1, hk_.1.2.2.1, hk_.1.2.2.2.2, fun e_ => Or.elim (ho0.1 k_ e_.symm) (fun hs_ => hk_.2.1 hs_) (fun hn_ => Nat.not_le.2 hk_.2.2 hn_)⟩)); have n3_ := zh (blk_kept (zc BK484) hkp (fun hs_ => (fun e_ => (Kd.R_ne HO_17.out BK484.out (by decide)) e_) hs_)); have n4_ := zh (Kd.R_mono (ok' := fun k_ => (w.heap.size ≤ k_)) ho0 (fun k_ hk_ => Or.elim hk_ (fun hs_ => (HO_17.out.1 k_ (hs_).symm)) (fun hn_ => (Nat.le_trans (below_size zb) hn_)))); have n5_ := zh (hb); clear HO_11; clear HO_12; clear HO_15; clear BK484; clear HB; clear HO_17; have HO_11 := n0_; have HO_12 := n1_; have HO_15 := n2_; have BK484 := n3_; have HO500 := n4_; have HB := n5_; clear n0_ n1_ n2_ n3_ n4_ n5_; (try clear hb); (try clear hkp); (try clear ho0); obtain ⟨Ao34, co34, eo34⟩ := Kd.R_slice HO500.out; subst eo34) | ((with_reducible refine gate_builtin (b := .append) (xs := #[.tmp 63, .tmp 67]) rfl ?_); at_builtin; refine Kd.N_append k60 (w0 := w) w.heap.size rfl (.tmp 63) (.tmp 67) 33 60 (.agg #[(.int .i64 0), (.slice none 0 0)]) 32 rfl Tryd.underlying33 info60 rfl (by decide) (by omega) u11 x11_1 (⟨t497, t498⟩ : S60) [.int .i64 t497, .slice Ao34 t498.length co34] (fun k_ => (w.heap.size ≤ k_) ∧ some k_ ≠ (u12 : Value).ownBlock ∧ k_ ≠ gb484) (fun k_ => ((fun k_ => (w.heap.size ≤ k_) ∧ some k_ ≠ (u12 : Value).ownBlock ∧ k_ ≠ gb484)) k_ ∧ some k_ ≠ (u11 : Value).ownBlock) rfl rfl ?aP (fun _ hk => hk) ?aF ?aO ?aB ?aS ?aL ?_; (case aP => exact (k60_mkF _ _ (⟨t497, t498⟩ : S60) (Kd.R_reads' (Kd.R_mono (ok' := (fun k_ => ((fun k_ => (w.heap.size ≤ k_) ∧ some k_ ≠ (u12 : Value).ownBlock ∧ k_ ≠ gb484)) k_ ∧ some k_ ≠ (u11 : Value).ownBlock)) (Kd.R_types (Kd.R_apart' (Kd.R_apart' (HO500.out) (Kd.N_typed HO_12.out) (by decide)) (Kd.N_typed HO_11.out) (by decide)) BK484.out (by decide)) (fun k_ hk => ⟨⟨hk.1.1.1, ⟨hk.1.1.2, hk.2⟩⟩, hk.1.2⟩))).2.1 (Kd.R_F (Kd.R_mono (ok' := (fun k_ => ((fun k_ => (w.heap.size ≤ k_) ∧ some k_ ≠ (u12 : Value).ownBlock ∧ k_ ≠ gb484)) k_ ∧ some k_ ≠ (u11 : Value).ownBlock)) (Kd.R_types (Kd.R_apart' (Kd.R_apart' (HO500.out) (Kd.N_typed HO_12.out) (by decide)) (Kd.N_typed HO_11.out) (by decide)) BK484.out (by decide)) (fun k_ hk => ⟨⟨hk.1.1.1, ⟨hk.1.1.2, hk.2⟩⟩, hk.1.2⟩))))); (case aB => exact zb); (case aF => exact (fun k_ hk => ⟨(Nat.le_trans (below_size zb) hk), Kd.fresh' (Kd.N_lt (zN HO_12)) k_ hk, Kd.freshB (g := gb484) (o := .cells #[.int .i64 a0_0, .int .i64 a0_1, .int .i64 a0_2, .slice A0_3 l0_3.length c0_3] 24 (0, 0)) (zc BK484) k_ hk⟩)); (case aO => exact dTr12); (case aS => exact (below_size zb)); (case aL => have := LMc29.out; omega); intro v502 w33 ho hb hg hat; rw [← Ny501.out] at ho; have n0_ := zh (Kd.N_afterv (ok := (fun k_ => (w.heap.size ≤ k_) ∧ some k_ ≠ (.slice Ao34 t498.length co34 : Value).ownBlock ∧ k_ ≠ gb484)) dTr8 hg hat); have n1_ := zh (Kd.V_afterv (ok := (fun k_ => (w.heap.size ≤ k_) ∧ some k_ ≠ (u12 : Value).ownBlock ∧ some k_ ≠ (.slice Ao34 t498.length co34 : Value).ownBlock ∧ k_ ≠ gb484)) dTr3 hg hat); have n2_ := zh (blk_grown (g := gb484) (o := .cells #[.int .i64 a0_0, .int .i64 a0_1, .int .i64 a0_2, .slice A0_3 l0_3.length c0_3] 24 (0, 0)) (zc BK484) hg (Kd.N_ne HO_11.out BK484.out (by decide))); have n3_ := zh (hb); have n4_ := zh (ho); clear HO_12; clear HO_15; clear BK484; clear HB; clear HO_11; clear HO500; have HO_12 := n0_; have HO_15 := n1_; have BK484 := n2_; have HB := n3_; have HO503 := n4_; clear n0_ n1_ n2_ n3_ n4_; clear ho hb hg hat) | ((with_reducible refine gate_builtin (b := .append) (xs := #[.tmp 69, .tmp 71]) rfl ?_); at_builtin; refine Kd.N_append (Kd.slice 3 (Kd.int .i64)) (w0 := w) w.heap.size rfl (.tmp 69) (.tmp 71) 39 25 (.slice none 0 0) 24 rfl Tryd.underlying39 info25 rfl (by decide) (by omega) u12 x12_1 t487 [.slice Ao17 t487.length co17] (fun k_ => (w.heap.size ≤ k_) ∧ some k_ ≠ (v502 : Value).ownBlock ∧ k_ ≠ gb484) (fun k_ => ((fun k_ => (w.heap.size ≤ k_) ∧ some k_ ≠ (v502 : Value).ownBlock ∧ k_ ≠ gb484)) k_ ∧ some k_ ≠ (u12 : Value).ownBlock) rfl rfl ?aP (fun _ hk => hk) ?aF ?aO ?aB ?aS ?aL ?_; (case aP => exact (Kd.FK_slice_mk (Kd.V_reads' (Kd.V_mono (ok' := (fun k_ => ((fun k_ => (w.heap.size ≤ k_) ∧ some k_ ≠ (v502 : Value).ownBlock ∧ k_ ≠ gb484)) k_ ∧ some k_ ≠ (u12 : Value).ownBlock)) (HO_15.out) (fun k_ hk => ⟨⟨hk.1.1, ⟨hk.2, hk.1.2.2.2⟩⟩, hk.1.2.1⟩))).2.1 (Kd.V_F (Kd.V_mono (ok' := (fun k_ => ((fun k_ => (w.heap.size ≤ k_) ∧ some k_ ≠ (v502 : Value).ownBlock ∧ k_ ≠ gb484)) k_ ∧ some k_ ≠ (u12 : Value).ownBlock)) (HO_15.out) (fun k_ hk => ⟨⟨hk.1.1, ⟨hk.2, hk.1.2.2.2⟩⟩, hk.1.2.1⟩))))); (case aB => exact zb); (case aF => exact (fun k_ hk => ⟨(Nat.le_trans (below_size zb) hk), Kd.fresh' (Kd.N_lt (zN HO503)) k_ hk, Kd.freshB (g := gb484) (o := .cells #[.int .i64 a0_0, .int .i64 a0_1, .int .i64 a0_2, .slice A0_3 l0_3.length c0_3] 24 (0, 0)) (zc BK484) k_ hk⟩)); (case aO => exact dTr11); (case aS => exact (below_size zb)); (case aL => have := LMc30.out; omega); intro v505 w35 ho hb hg hat; rw [← Ny504.out] at ho; have n0_ := zh (Kd.V_afterv (ok := (fun k_ => (w.heap.size ≤ k_) ∧ some k_ ≠ (v502 : Value).ownBlock ∧ k_ ≠ gb484)) dTr7 hg hat); have n1_ := zh (blk_grown (g := gb484) (o := .cells #[.int .i64 a0_0, .int .i64 a0_1, .int .i64 a0_2, .slice A0_3 l0_3.length c0_3] 24 (0, 0)) (zc BK484) hg (Kd.N_ne HO_12.out BK484.out (by decide))); have n2_ := zh (Kd.N_afterv (ok := (fun k_ => (w.heap.size ≤ k_) ∧ k_ ≠ gb484)) dTr13 hg hat); have n3_ := zh (hb); have n4_ := zh (ho); clear HO_15; clear BK484; clear HO503; clear HB; clear HO_12; have HO_15 := n0_; have BK484 := n1_; have HO503 := n2_; have HB := n3_; have HO506 := n4_; clear n0_ n1_ n2_ n3_ n4_; clear ho hb hg hat))
           repeat (go_quiet (first | (go_at_call 44; (try simp only [i64_w, i32_w]); (with_reducible refine (saronlaw06_of.calls t486 (fun k_ => some k_ = (.slice Ao31 x17_2.length co31 : Value).ownBlock) (.slice Ao31 x17_2.length co31) x17_2 t497 t498 w _ ?side1 ?side2 A28.out).mono ?_); (case side1 => repeat (first | (with_reducible first | exact HB.out | apply below_alloc | apply pw_below_drewN | apply below_drew1 | refine below_set ?_ GE484.out) | exact HB.out)); (case side2 => exact Kd.R_tight rfl HO_17.out); rintro e w32 ⟨v499, rfl, ho0, hb, hkp⟩; have n0_ := zh (Kd.N_mono (ok' := fun k_ => (w.heap.size ≤ k_) ∧ some k_ ≠ (u12 : Value).ownBlock ∧ k_ ≠ gb484 ∧ some k_ ≠ (v499 : Value).ownBlock) (Kd.N_keptB (HO_11.out) hkp (fun k_ hk_ hs_ => (hk_.2.2.1) hs_)) (fun k_ hk_ => ⟨hk_.1.1, hk_.1.2.1, hk_.1.2.2.2, fun e_ => Or.elim (ho0.1 k_ e_.symm) (fun hs_ => hk_.2.1 hs_) (fun hn_ => Nat.not_le.2 hk_.2.2 hn_)⟩)); have n1_ := zh (Kd.N_mono (ok' := fun k_ => (w.heap.size ≤ k_) ∧ some k_ ≠ (u11 : Value).ownBlock ∧ k_ ≠ gb484 ∧ some k_ ≠ (v499 : Value).ownBlock) (Kd.N_keptB (HO_12.out) hkp (fun k_ hk_ hs_ => (hk_.2.2.1) hs_)) (fun k_ hk_ => ⟨hk_.1.1, hk_.1.2.1, hk_.1.2.2.2, fun e_ => Or.elim (ho0.1 k_ e_.symm) (fun hs_ => hk_.2.1 hs_) (fun hn_ => Nat.not_le.2 hk_.2.2 hn_)⟩)); have n2_ := zh (Kd.V_mono (ok' := fun k_ => (w.heap.size ≤ k_) ∧ some k_ ≠ (u11 : Value).ownBlock ∧ some k_ ≠ (u12 : Value).ownBlock ∧ k_ ≠ gb484 ∧ some k_ ≠ (v499 : Value).ownBlock) (Kd.V_keptB (HO_15.out) hkp (fun k_ hk_ hs_ => (hk_.2.2.2.1) hs_)) (fun k_ hk_ => ⟨hk_.1.1, hk_.1.2.1, hk_.1.2.2.1, hk_.1.2.2.2.2, fun e_ => Or.elim (ho0.1 k_ e_.symm) (fun hs_ => hk_.2.1 hs_) (fun hn_ => Nat.not_le.2 hk_.2.2 hn_)⟩)); have n3_ := zh (blk_kept (zc BK484) hkp (fun hs_ => (fun e_ => (Kd.R_ne HO_17.out BK484.out (by decide)) e_) hs_)); have n4_ := zh (Kd.R_mono (ok' := fun k_ => (w.heap.size ≤ k_)) ho0 (fun k_ hk_ => Or.elim hk_ (fun hs_ => (HO_17.out.1 k_ (hs_).symm)) (fun hn_ => (Nat.le_trans (below_size zb) hn_)))); have n5_ := zh (hb); clear HO_11; clear HO_12; clear HO_15; clear BK484; clear HB; clear HO_17; have HO_11 := n0_; have HO_12 := n1_; have HO_15 := n2_; have BK484 := n3_; have HO500 := n4_; have HB := n5_; clear n0_ n1_ n2_ n3_ n4_ n5_; (try clear hb); (try clear hkp); (try clear ho0); obtain ⟨Ao34, co34, eo34⟩ := Kd.R_slice HO500.out; subst eo34) | ((with_reducible refine gate_builtin (b := .append) (xs := #[.tmp 63, .tmp 67]) rfl ?_); at_builtin; refine Kd.N_append k60 (w0 := w) w.heap.size rfl (.tmp 63) (.tmp 67) 33 60 (.agg #[(.int .i64 0), (.slice none 0 0)]) 32 rfl Tryd.underlying33 info60 rfl (by decide) (by omega) u11 x11_1 (⟨t497, t498⟩ : S60) [.int .i64 t497, .slice Ao34 t498.length co34] (fun k_ => (w.heap.size ≤ k_) ∧ some k_ ≠ (u12 : Value).ownBlock ∧ k_ ≠ gb484) (fun k_ => ((fun k_ => (w.heap.size ≤ k_) ∧ some k_ ≠ (u12 : Value).ownBlock ∧ k_ ≠ gb484)) k_ ∧ some k_ ≠ (u11 : Value).ownBlock) rfl rfl ?aP (fun _ hk => hk) ?aF ?aO ?aB ?aS ?aL ?_; (case aP => exact (k60_mkF _ _ (⟨t497, t498⟩ : S60) (Kd.R_reads' (Kd.R_mono (ok' := (fun k_ => ((fun k_ => (w.heap.size ≤ k_) ∧ some k_ ≠ (u12 : Value).ownBlock ∧ k_ ≠ gb484)) k_ ∧ some k_ ≠ (u11 : Value).ownBlock)) (Kd.R_types (Kd.R_apart' (Kd.R_apart' (HO500.out) (Kd.N_typed HO_12.out) (by decide)) (Kd.N_typed HO_11.out) (by decide)) BK484.out (by decide)) (fun k_ hk => ⟨⟨hk.1.1.1, ⟨hk.1.1.2, hk.2⟩⟩, hk.1.2⟩))).2.1 (Kd.R_F (Kd.R_mono (ok' := (fun k_ => ((fun k_ => (w.heap.size ≤ k_) ∧ some k_ ≠ (u12 : Value).ownBlock ∧ k_ ≠ gb484)) k_ ∧ some k_ ≠ (u11 : Value).ownBlock)) (Kd.R_types (Kd.R_apart' (Kd.R_apart' (HO500.out) (Kd.N_typed HO_12.out) (by decide)) (Kd.N_typed HO_11.out) (by decide)) BK484.out (by decide)) (fun k_ hk => ⟨⟨hk.1.1.1, ⟨hk.1.1.2, hk.2⟩⟩, hk.1.2⟩))))); (case aB => exact zb); (case aF => exact (fun k_ hk => ⟨(Nat.le_trans (below_size zb) hk), Kd.fresh' (Kd.N_lt (zN HO_12)) k_ hk, Kd.freshB (g := gb484) (o := .cells #[.int .i64 a0_0, .int .i64 a0_1, .int .i64 a0_2, .slice A0_3 l0_3.length c0_3] 24 (0, 0)) (zc BK484) k_ hk⟩)); (case aO => exact dTr12); (case aS => exact (below_size zb)); (case aL => have := LMc29.out; omega); intro v502 w33 ho hb hg hat; rw [← Ny501.out] at ho; have n0_ := zh (Kd.N_afterv (ok := (fun k_ => (w.heap.size ≤ k_) ∧ some k_ ≠ (.slice Ao34 t498.length co34 : Value).ownBlock ∧ k_ ≠ gb484)) dTr8 hg hat); have n1_ := zh (Kd.V_afterv (ok := (fun k_ => (w.heap.size ≤ k_) ∧ some k_ ≠ (u12 : Value).ownBlock ∧ some k_ ≠ (.slice Ao34 t498.length co34 : Value).ownBlock ∧ k_ ≠ gb484)) dTr3 hg hat); have n2_ := zh (blk_grown (g := gb484) (o := .cells #[.int .i64 a0_0, .int .i64 a0_1, .int .i64 a0_2, .slice A0_3 l0_3.length c0_3] 24 (0, 0)) (zc BK484) hg (Kd.N_ne HO_11.out BK484.out (by decide))); have n3_ := zh (hb); have n4_ := zh (ho); clear HO_12; clear HO_15; clear BK484; clear HB; clear HO_11; clear HO500; have HO_12 := n0_; have HO_15 := n1_; have BK484 := n2_; have HB := n3_; have HO503 := n4_; clear n0_ n1_ n2_ n3_ n4_; clear ho hb hg hat) | ((with_reducible refine gate_builtin (b := .append) (xs := #[.tmp 69, .tmp 71]) rfl ?_); at_builtin; refine Kd.N_append (Kd.slice 3 (Kd.int .i64)) (w0 := w) w.heap.size rfl (.tmp 69) (.tmp 71) 39 25 (.slice none 0 0) 24 rfl Tryd.underlying39 info25 rfl (by decide) (by omega) u12 x12_1 t487 [.slice Ao17 t487.length co17] (fun k_ => (w.heap.size ≤ k_) ∧ some k_ ≠ (v502 : Value).ownBlock ∧ k_ ≠ gb484) (fun k_ => ((fun k_ => (w.heap.size ≤ k_) ∧ some k_ ≠ (v502 : Value).ownBlock ∧ k_ ≠ gb484)) k_ ∧ some k_ ≠ (u12 : Value).ownBlock) rfl rfl ?aP (fun _ hk => hk) ?aF ?aO ?aB ?aS ?aL ?_; (case aP => exact (Kd.FK_slice_mk (Kd.V_reads' (Kd.V_mono (ok' := (fun k_ => ((fun k_ => (w.heap.size ≤ k_) ∧ some k_ ≠ (v502 : Value).ownBlock ∧ k_ ≠ gb484)) k_ ∧ some k_ ≠ (u12 : Value).ownBlock)) (HO_15.out) (fun k_ hk => ⟨⟨hk.1.1, ⟨hk.2, hk.1.2.2.2⟩⟩, hk.1.2.1⟩))).2.1 (Kd.V_F (Kd.V_mono (ok' := (fun k_ => ((fun k_ => (w.heap.size ≤ k_) ∧ some k_ ≠ (v502 : Value).ownBlock ∧ k_ ≠ gb484)) k_ ∧ some k_ ≠ (u12 : Value).ownBlock)) (HO_15.out) (fun k_ hk => ⟨⟨hk.1.1, ⟨hk.2, hk.1.2.2.2⟩⟩, hk.1.2.1⟩))))); (case aB => exact zb); (case aF => exact (fun k_ hk => ⟨(Nat.le_trans (below_size zb) hk), Kd.fresh' (Kd.N_lt (zN HO503)) k_ hk, Kd.freshB (g := gb484) (o := .cells #[.int .i64 a0_0, .int .i64 a0_1, .int .i64 a0_2, .slice A0_3 l0_3.length c0_3] 24 (0, 0)) (zc BK484) k_ hk⟩)); (case aO => exact dTr11); (case aS => exact (below_size zb)); (case aL => have := LMc30.out; omega); intro v505 w35 ho hb hg hat; rw [← Ny504.out] at ho; have n0_ := zh (Kd.V_afterv (ok := (fun k_ => (w.heap.size ≤ k_) ∧ some k_ ≠ (v502 : Value).ownBlock ∧ k_ ≠ gb484)) dTr7 hg hat); have n1_ := zh (blk_grown (g := gb484) (o := .cells #[.int .i64 a0_0, .int .i64 a0_1, .int .i64 a0_2, .slice A0_3 l0_3.length c0_3] 24 (0, 0)) (zc BK484) hg (Kd.N_ne HO_12.out BK484.out (by decide))); have n2_ := zh (Kd.N_afterv (ok := (fun k_ => (w.heap.size ≤ k_) ∧ k_ ≠ gb484)) dTr13 hg hat); have n3_ := zh (hb); have n4_ := zh (ho); clear HO_15; clear BK484; clear HO503; clear HB; clear HO_12; have HO_15 := n0_; have BK484 := n1_; have HO503 := n2_; have HB := n3_; have HO506 := n4_; clear n0_ n1_ n2_ n3_ n4_; clear ho hb hg hat)); try go_wp2_with (first | (go_at_call 44; (try simp only [i64_w, i32_w]); (with_reducible refine (saronlaw06_of.calls t486 (fun k_ => some k_ = (.slice Ao31 x17_2.length co31 : Value).ownBlock) (.slice Ao31 x17_2.length co31) x17_2 t497 t498 w _ ?side1 ?side2 A28.out).mono ?_); (case side1 => repeat (first | (with_reducible first | exact HB.out | apply below_alloc | apply pw_below_drewN | apply below_drew1 | refine below_set ?_ GE484.out) | exact HB.out)); (case side2 => exact Kd.R_tight rfl HO_17.out); rintro e w32 ⟨v499, rfl, ho0, hb, hkp⟩; have n0_ := zh (Kd.N_mono (ok' := fun k_ => (w.heap.size ≤ k_) ∧ some k_ ≠ (u12 : Value).ownBlock ∧ k_ ≠ gb484 ∧ some k_ ≠ (v499 : Value).ownBlock) (Kd.N_keptB (HO_11.out) hkp (fun k_ hk_ hs_ => (hk_.2.2.1) hs_)) (fun k_ hk_ => ⟨hk_.1.1, hk_.1.2.1, hk_.1.2.2.2, fun e_ => Or.elim (ho0.1 k_ e_.symm) (fun hs_ => hk_.2.1 hs_) (fun hn_ => Nat.not_le.2 hk_.2.2 hn_)⟩)); have n1_ := zh (Kd.N_mono (ok' := fun k_ => (w.heap.size ≤ k_) ∧ some k_ ≠ (u11 : Value).ownBlock ∧ k_ ≠ gb484 ∧ some k_ ≠ (v499 : Value).ownBlock) (Kd.N_keptB (HO_12.out) hkp (fun k_ hk_ hs_ => (hk_.2.2.1) hs_)) (fun k_ hk_ => ⟨hk_.1.1, hk_.1.2.1, hk_.1.2.2.2, fun e_ => Or.elim (ho0.1 k_ e_.symm) (fun hs_ => hk_.2.1 hs_) (fun hn_ => Nat.not_le.2 hk_.2.2 hn_)⟩)); have n2_ := zh (Kd.V_mono (ok' := fun k_ => (w.heap.size ≤ k_) ∧ some k_ ≠ (u11 : Value).ownBlock ∧ some k_ ≠ (u12 : Value).ownBlock ∧ k_ ≠ gb484 ∧ some k_ ≠ (v499 : Value).ownBlock) (Kd.V_keptB (HO_15.out) hkp (fun k_ hk_ hs_ => (hk_.2.2.2.1) hs_)) (fun k_ hk_ => ⟨hk_.1.1, hk_.1.2.1, hk_.1.2.2.1, hk_.1.2.2.2.2, fun e_ => Or.elim (ho0.1 k_ e_.symm) (fun hs_ => hk_.2.1 hs_) (fun hn_ => Nat.not_le.2 hk_.2.2 hn_)⟩)); have n3_ := zh (blk_kept (zc BK484) hkp (fun hs_ => (fun e_ => (Kd.R_ne HO_17.out BK484.out (by decide)) e_) hs_)); have n4_ := zh (Kd.R_mono (ok' := fun k_ => (w.heap.size ≤ k_)) ho0 (fun k_ hk_ => Or.elim hk_ (fun hs_ => (HO_17.out.1 k_ (hs_).symm)) (fun hn_ => (Nat.le_trans (below_size zb) hn_)))); have n5_ := zh (hb); clear HO_11; clear HO_12; clear HO_15; clear BK484; clear HB; clear HO_17; have HO_11 := n0_; have HO_12 := n1_; have HO_15 := n2_; have BK484 := n3_; have HO500 := n4_; have HB := n5_; clear n0_ n1_ n2_ n3_ n4_ n5_; (try clear hb); (try clear hkp); (try clear ho0); obtain ⟨Ao34, co34, eo34⟩ := Kd.R_slice HO500.out; subst eo34) | ((with_reducible refine gate_builtin (b := .append) (xs := #[.tmp 63, .tmp 67]) rfl ?_); at_builtin; refine Kd.N_append k60 (w0 := w) w.heap.size rfl (.tmp 63) (.tmp 67) 33 60 (.agg #[(.int .i64 0), (.slice none 0 0)]) 32 rfl Tryd.underlying33 info60 rfl (by decide) (by omega) u11 x11_1 (⟨t497, t498⟩ : S60) [.int .i64 t497, .slice Ao34 t498.length co34] (fun k_ => (w.heap.size ≤ k_) ∧ some k_ ≠ (u12 : Value).ownBlock ∧ k_ ≠ gb484) (fun k_ => ((fun k_ => (w.heap.size ≤ k_) ∧ some k_ ≠ (u12 : Value).ownBlock ∧ k_ ≠ gb484)) k_ ∧ some k_ ≠ (u11 : Value).ownBlock) rfl rfl ?aP (fun _ hk => hk) ?aF ?aO ?aB ?aS ?aL ?_; (case aP => exact (k60_mkF _ _ (⟨t497, t498⟩ : S60) (Kd.R_reads' (Kd.R_mono (ok' := (fun k_ => ((fun k_ => (w.heap.size ≤ k_) ∧ some k_ ≠ (u12 : Value).ownBlock ∧ k_ ≠ gb484)) k_ ∧ some k_ ≠ (u11 : Value).ownBlock)) (Kd.R_types (Kd.R_apart' (Kd.R_apart' (HO500.out) (Kd.N_typed HO_12.out) (by decide)) (Kd.N_typed HO_11.out) (by decide)) BK484.out (by decide)) (fun k_ hk => ⟨⟨hk.1.1.1, ⟨hk.1.1.2, hk.2⟩⟩, hk.1.2⟩))).2.1 (Kd.R_F (Kd.R_mono (ok' := (fun k_ => ((fun k_ => (w.heap.size ≤ k_) ∧ some k_ ≠ (u12 : Value).ownBlock ∧ k_ ≠ gb484)) k_ ∧ some k_ ≠ (u11 : Value).ownBlock)) (Kd.R_types (Kd.R_apart' (Kd.R_apart' (HO500.out) (Kd.N_typed HO_12.out) (by decide)) (Kd.N_typed HO_11.out) (by decide)) BK484.out (by decide)) (fun k_ hk => ⟨⟨hk.1.1.1, ⟨hk.1.1.2, hk.2⟩⟩, hk.1.2⟩))))); (case aB => exact zb); (case aF => exact (fun k_ hk => ⟨(Nat.le_trans (below_size zb) hk), Kd.fresh' (Kd.N_lt (zN HO_12)) k_ hk, Kd.freshB (g := gb484) (o := .cells #[.int .i64 a0_0, .int .i64 a0_1, .int .i64 a0_2, .slice A0_3 l0_3.length c0_3] 24 (0, 0)) (zc BK484) k_ hk⟩)); (case aO => exact dTr12); (case aS => exact (below_size zb)); (case aL => have := LMc29.out; omega); intro v502 w33 ho hb hg hat; rw [← Ny501.out] at ho; have n0_ := zh (Kd.N_afterv (ok := (fun k_ => (w.heap.size ≤ k_) ∧ some k_ ≠ (.slice Ao34 t498.length co34 : Value).ownBlock ∧ k_ ≠ gb484)) dTr8 hg hat); have n1_ := zh (Kd.V_afterv (ok := (fun k_ => (w.heap.size ≤ k_) ∧ some k_ ≠ (u12 : Value).ownBlock ∧ some k_ ≠ (.slice Ao34 t498.length co34 : Value).ownBlock ∧ k_ ≠ gb484)) dTr3 hg hat); have n2_ := zh (blk_grown (g := gb484) (o := .cells #[.int .i64 a0_0, .int .i64 a0_1, .int .i64 a0_2, .slice A0_3 l0_3.length c0_3] 24 (0, 0)) (zc BK484) hg (Kd.N_ne HO_11.out BK484.out (by decide))); have n3_ := zh (hb); have n4_ := zh (ho); clear HO_12; clear HO_15; clear BK484; clear HB; clear HO_11; clear HO500; have HO_12 := n0_; have HO_15 := n1_; have BK484 := n2_; have HB := n3_; have HO503 := n4_; clear n0_ n1_ n2_ n3_ n4_; clear ho hb hg hat) | ((with_reducible refine gate_builtin (b := .append) (xs := #[.tmp 69, .tmp 71]) rfl ?_); at_builtin; refine Kd.N_append (Kd.slice 3 (Kd.int .i64)) (w0 := w) w.heap.size rfl (.tmp 69) (.tmp 71) 39 25 (.slice none 0 0) 24 rfl Tryd.underlying39 info25 rfl (by decide) (by omega) u12 x12_1 t487 [.slice Ao17 t487.length co17] (fun k_ => (w.heap.size ≤ k_) ∧ some k_ ≠ (v502 : Value).ownBlock ∧ k_ ≠ gb484) (fun k_ => ((fun k_ => (w.heap.size ≤ k_) ∧ some k_ ≠ (v502 : Value).ownBlock ∧ k_ ≠ gb484)) k_ ∧ some k_ ≠ (u12 : Value).ownBlock) rfl rfl ?aP (fun _ hk => hk) ?aF ?aO ?aB ?aS ?aL ?_; (case aP => exact (Kd.FK_slice_mk (Kd.V_reads' (Kd.V_mono (ok' := (fun k_ => ((fun k_ => (w.heap.size ≤ k_) ∧ some k_ ≠ (v502 : Value).ownBlock ∧ k_ ≠ gb484)) k_ ∧ some k_ ≠ (u12 : Value).ownBlock)) (HO_15.out) (fun k_ hk => ⟨⟨hk.1.1, ⟨hk.2, hk.1.2.2.2⟩⟩, hk.1.2.1⟩))).2.1 (Kd.V_F (Kd.V_mono (ok' := (fun k_ => ((fun k_ => (w.heap.size ≤ k_) ∧ some k_ ≠ (v502 : Value).ownBlock ∧ k_ ≠ gb484)) k_ ∧ some k_ ≠ (u12 : Value).ownBlock)) (HO_15.out) (fun k_ hk => ⟨⟨hk.1.1, ⟨hk.2, hk.1.2.2.2⟩⟩, hk.1.2.1⟩))))); (case aB => exact zb); (case aF => exact (fun k_ hk => ⟨(Nat.le_trans (below_size zb) hk), Kd.fresh' (Kd.N_lt (zN HO503)) k_ hk, Kd.freshB (g := gb484) (o := .cells #[.int .i64 a0_0, .int .i64 a0_1, .int .i64 a0_2, .slice A0_3 l0_3.length c0_3] 24 (0, 0)) (zc BK484) k_ hk⟩)); (case aO => exact dTr11); (case aS => exact (below_size zb)); (case aL => have := LMc30.out; omega); intro v505 w35 ho hb hg hat; rw [← Ny504.out] at ho; have n0_ := zh (Kd.V_afterv (ok := (fun k_ => (w.heap.size ≤ k_) ∧ some k_ ≠ (v502 : Value).ownBlock ∧ k_ ≠ gb484)) dTr7 hg hat); have n1_ := zh (blk_grown (g := gb484) (o := .cells #[.int .i64 a0_0, .int .i64 a0_1, .int .i64 a0_2, .slice A0_3 l0_3.length c0_3] 24 (0, 0)) (zc BK484) hg (Kd.N_ne HO_12.out BK484.out (by decide))); have n2_ := zh (Kd.N_afterv (ok := (fun k_ => (w.heap.size ≤ k_) ∧ k_ ≠ gb484)) dTr13 hg hat); have n3_ := zh (hb); have n4_ := zh (ho); clear HO_15; clear BK484; clear HO503; clear HB; clear HO_12; have HO_15 := n0_; have BK484 := n1_; have HO503 := n2_; have HB := n3_; have HO506 := n4_; clear n0_ n1_ n2_ n3_ n4_; clear ho hb hg hat)))
           go_roundg k2
           case measure => have := HK1.out; have := HK2.out; omega
           case rel => exact ⟨(y501), (y504), (wrap64 (x13_1 + 1)), ze, H', ⟨zw HK1 HK2⟩, ⟨by (with_reducible repeat (first | apply Kd.N_alloc | apply Kd.N_drewN | apply Kd.N_drew)); exact Kd.N_mono HO503.out (fun _ hk => ⟨hk.1.1, ⟨hk.2, hk.1.2⟩⟩)⟩, ⟨zN HO506⟩, ⟨zc BK484⟩, ⟨zb⟩⟩
          ·rw [if_neg c30] at H
           exact absurd H (by simp)
         ·rw [if_neg c29] at H
          exact absurd H (by simp)
     ·rw [if_neg c11] at H
      exact absurd H (by simp)
    ·rw [if_neg c10] at H
     have c10b0 : (t490 == 0) = false := beq_eq_false_iff_ne.mpr c10
     have c10b1 : (t490 != 0) = true := bne_iff_ne.mpr c10
     simp only [Option.some.injEq, Prod.mk.injEq] at H
     obtain ⟨rfl, rfl, rfl⟩ := H
     go_wp2_with (first | (go_at_call 47; (with_reducible refine (saronref00_Nth.calls _ _ l2 (wrap64 (x13_1 + 1)) t485 _ ?side1 ?side2 A7.out).mono ?_); (case side1 => repeat (first | exact (Kd.C_below HR2.out HB.out) | (with_reducible refine Kd.C_alloc ?_ _) | (with_reducible refine Kd.C_drewN ?_ _) | (with_reducible refine Kd.C_drew ?_))); (case side2 => exact HC2.out); rintro e w' ⟨rfl, ⟨nd, rfl⟩⟩; (try first | exact ⟨rfl, _, World.drewN_drewN _ _ _⟩ | exact ⟨rfl, _, Eq.trans (World.drewN_drewN _ _ _) (congrArg (World.drewN _) (Nat.add_assoc _ _ _))⟩); (try have hcz36_0 : wr.cell? ⟨gb484, 0, none⟩ = some (.int .i64 a0_0) := vb BK484 0); (try have hcz36_1 : wr.cell? ⟨gb484, 1, none⟩ = some (.int .i64 a0_1) := vb BK484 1); (try have hcz36_2 : wr.cell? ⟨gb484, 2, none⟩ = some (.int .i64 a0_2) := vb BK484 2); (try have hcz36_3 : wr.cell? ⟨gb484, 3, none⟩ = some (.slice A0_3 l0_3.length c0_3) := vb BK484 3); (try have hfz36_0 := blk_frozen BK484.out 0); (try have hfz36_1 := blk_frozen BK484.out 1); (try have hfz36_2 := blk_frozen BK484.out 2); (try have hfz36_3 := blk_frozen BK484.out 3)) | (go_at_call 42; (with_reducible refine (saronref00_Turn.calls t485 (l0_3.length : Int) t486 _ A8.out).mono ?_); rintro e w' ⟨rfl, ⟨nd, rfl⟩⟩; (try first | exact ⟨rfl, _, World.drewN_drewN _ _ _⟩ | exact ⟨rfl, _, Eq.trans (World.drewN_drewN _ _ _) (congrArg (World.drewN _) (Nat.add_assoc _ _ _))⟩)) | (go_at_call 16; (with_reducible refine (kernel_Part.calls a0_0 a0_1 a0_2 _ _ l0_3 _ _ l1 t486 t487 t490 _ ?side1 ?side2 ?side3 ?side4 ?side5 A9.out).mono ?_); (case side1 => repeat (first | exact (Kd.C_below HR0_3.out zb) | (with_reducible refine Kd.C_alloc ?_ _) | (with_reducible refine Kd.C_drewN ?_ _) | (with_reducible refine Kd.C_drew ?_))); (case side2 => exact HC0_3.out); (case side3 => repeat (first | exact (Kd.C_below HR1.out zb) | (with_reducible refine Kd.C_alloc ?_ _) | (with_reducible refine Kd.C_drewN ?_ _) | (with_reducible refine Kd.C_drew ?_))); (case side4 => exact HC1.out); (case side5 => exact Glob.below HG.out zb); rintro e w37 ⟨v488, rfl, ho0, hb⟩; have n0_ := zh (Kd.N_below (zN HO_11) hb); have n1_ := zh (Kd.N_below (zN HO_12) hb); have n2_ := zh (Kd.V_lower (Kd.V_mono (ok' := fun k_ => (w.heap.size ≤ k_) ∧ some k_ ≠ (u11 : Value).ownBlock ∧ some k_ ≠ (u12 : Value).ownBlock ∧ k_ ≠ gb484) ho0 (fun k_ hk_ => ⟨(Nat.le_trans (below_size zb) hk_), (Kd.fresh' (Kd.N_lt (zN HO_11)) k_ hk_), (Kd.fresh' (Kd.N_lt (zN HO_12)) k_ hk_), (Kd.freshB (g := gb484) (o := .cells #[.int .i64 a0_0, .int .i64 a0_1, .int .i64 a0_2, .slice A0_3 l0_3.length c0_3] 24 (0, 0)) (zc BK484) k_ hk_)⟩)) (below_size zb)); have n3_ := zh (blk_below (g := gb484) (o := .cells #[.int .i64 a0_0, .int .i64 a0_1, .int .i64 a0_2, .slice A0_3 l0_3.length c0_3] 24 (0, 0)) (zc BK484) hb); have n4_ := zh (below_step zb hb); clear HO_11; clear HO_12; clear BK484; clear HB; have HO_11 := n0_; have HO_12 := n1_; have HO489 := n2_; have BK484 := n3_; have HB := n4_; clear n0_ n1_ n2_ n3_ n4_; (try clear hb); (try clear hb2); (try clear hk); (try clear hi); (try clear ho0)))
     repeat (go_quiet (first | (go_at_call 47; (try simp only [i64_w, i32_w]); (with_reducible refine (saronref00_Nth.calls _ _ l2 (wrap64 (x13_1 + 1)) t485 _ ?side1 ?side2 A7.out).mono ?_); (case side1 => repeat (first | exact (Kd.C_below HR2.out HB.out) | (with_reducible refine Kd.C_alloc ?_ _) | (with_reducible refine Kd.C_drewN ?_ _) | (with_reducible refine Kd.C_drew ?_))); (case side2 => exact HC2.out); rintro e w' ⟨rfl, ⟨nd, rfl⟩⟩; (try first | exact ⟨rfl, _, World.drewN_drewN _ _ _⟩ | exact ⟨rfl, _, Eq.trans (World.drewN_drewN _ _ _) (congrArg (World.drewN _) (Nat.add_assoc _ _ _))⟩); (try have hcz36_0 : wr.cell? ⟨gb484, 0, none⟩ = some (.int .i64 a0_0) := vb BK484 0); (try have hcz36_1 : wr.cell? ⟨gb484, 1, none⟩ = some (.int .i64 a0_1) := vb BK484 1); (try have hcz36_2 : wr.cell? ⟨gb484, 2, none⟩ = some (.int .i64 a0_2) := vb BK484 2); (try have hcz36_3 : wr.cell? ⟨gb484, 3, none⟩ = some (.slice A0_3 l0_3.length c0_3) := vb BK484 3); (try have hfz36_0 := blk_frozen BK484.out 0); (try have hfz36_1 := blk_frozen BK484.out 1); (try have hfz36_2 := blk_frozen BK484.out 2); (try have hfz36_3 := blk_frozen BK484.out 3)) | (go_at_call 42; (try simp only [i64_w, i32_w]); (with_reducible refine (saronref00_Turn.calls t485 (l0_3.length : Int) t486 _ A8.out).mono ?_); rintro e w' ⟨rfl, ⟨nd, rfl⟩⟩; (try first | exact ⟨rfl, _, World.drewN_drewN _ _ _⟩ | exact ⟨rfl, _, Eq.trans (World.drewN_drewN _ _ _) (congrArg (World.drewN _) (Nat.add_assoc _ _ _))⟩)) | (go_at_call 16; (try simp only [i64_w, i32_w]); (with_reducible refine (kernel_Part.calls a0_0 a0_1 a0_2 _ _ l0_3 _ _ l1 t486 t487 t490 _ ?side1 ?side2 ?side3 ?side4 ?side5 A9.out).mono ?_); (case side1 => repeat (first | exact (Kd.C_below HR0_3.out zb) | (with_reducible refine Kd.C_alloc ?_ _) | (with_reducible refine Kd.C_drewN ?_ _) | (with_reducible refine Kd.C_drew ?_))); (case side2 => exact HC0_3.out); (case side3 => repeat (first | exact (Kd.C_below HR1.out zb) | (with_reducible refine Kd.C_alloc ?_ _) | (with_reducible refine Kd.C_drewN ?_ _) | (with_reducible refine Kd.C_drew ?_))); (case side4 => exact HC1.out); (case side5 => exact Glob.below HG.out zb); rintro e w37 ⟨v488, rfl, ho0, hb⟩; have n0_ := zh (Kd.N_below (zN HO_11) hb); have n1_ := zh (Kd.N_below (zN HO_12) hb); have n2_ := zh (Kd.V_lower (Kd.V_mono (ok' := fun k_ => (w.heap.size ≤ k_) ∧ some k_ ≠ (u11 : Value).ownBlock ∧ some k_ ≠ (u12 : Value).ownBlock ∧ k_ ≠ gb484) ho0 (fun k_ hk_ => ⟨(Nat.le_trans (below_size zb) hk_), (Kd.fresh' (Kd.N_lt (zN HO_11)) k_ hk_), (Kd.fresh' (Kd.N_lt (zN HO_12)) k_ hk_), (Kd.freshB (g := gb484) (o := .cells #[.int .i64 a0_0, .int .i64 a0_1, .int .i64 a0_2, .slice A0_3 l0_3.length c0_3] 24 (0, 0)) (zc BK484) k_ hk_)⟩)) (below_size zb)); have n3_ := zh (blk_below (g := gb484) (o := .cells #[.int .i64 a0_0, .int .i64 a0_1, .int .i64 a0_2, .slice A0_3 l0_3.length c0_3] 24 (0, 0)) (zc BK484) hb); have n4_ := zh (below_step zb hb); clear HO_11; clear HO_12; clear BK484; clear HB; have HO_11 := n0_; have HO_12 := n1_; have HO489 := n2_; have BK484 := n3_; have HB := n4_; clear n0_ n1_ n2_ n3_ n4_; (try clear hb); (try clear hb2); (try clear hk); (try clear hi); (try clear ho0))); try go_wp2_with (first | (go_at_call 47; (try simp only [i64_w, i32_w]); (with_reducible refine (saronref00_Nth.calls _ _ l2 (wrap64 (x13_1 + 1)) t485 _ ?side1 ?side2 A7.out).mono ?_); (case side1 => repeat (first | exact (Kd.C_below HR2.out HB.out) | (with_reducible refine Kd.C_alloc ?_ _) | (with_reducible refine Kd.C_drewN ?_ _) | (with_reducible refine Kd.C_drew ?_))); (case side2 => exact HC2.out); rintro e w' ⟨rfl, ⟨nd, rfl⟩⟩; (try first | exact ⟨rfl, _, World.drewN_drewN _ _ _⟩ | exact ⟨rfl, _, Eq.trans (World.drewN_drewN _ _ _) (congrArg (World.drewN _) (Nat.add_assoc _ _ _))⟩); (try have hcz36_0 : wr.cell? ⟨gb484, 0, none⟩ = some (.int .i64 a0_0) := vb BK484 0); (try have hcz36_1 : wr.cell? ⟨gb484, 1, none⟩ = some (.int .i64 a0_1) := vb BK484 1); (try have hcz36_2 : wr.cell? ⟨gb484, 2, none⟩ = some (.int .i64 a0_2) := vb BK484 2); (try have hcz36_3 : wr.cell? ⟨gb484, 3, none⟩ = some (.slice A0_3 l0_3.length c0_3) := vb BK484 3); (try have hfz36_0 := blk_frozen BK484.out 0); (try have hfz36_1 := blk_frozen BK484.out 1); (try have hfz36_2 := blk_frozen BK484.out 2); (try have hfz36_3 := blk_frozen BK484.out 3)) | (go_at_call 42; (try simp only [i64_w, i32_w]); (with_reducible refine (saronref00_Turn.calls t485 (l0_3.length : Int) t486 _ A8.out).mono ?_); rintro e w' ⟨rfl, ⟨nd, rfl⟩⟩; (try first | exact ⟨rfl, _, World.drewN_drewN _ _ _⟩ | exact ⟨rfl, _, Eq.trans (World.drewN_drewN _ _ _) (congrArg (World.drewN _) (Nat.add_assoc _ _ _))⟩)) | (go_at_call 16; (try simp only [i64_w, i32_w]); (with_reducible refine (kernel_Part.calls a0_0 a0_1 a0_2 _ _ l0_3 _ _ l1 t486 t487 t490 _ ?side1 ?side2 ?side3 ?side4 ?side5 A9.out).mono ?_); (case side1 => repeat (first | exact (Kd.C_below HR0_3.out zb) | (with_reducible refine Kd.C_alloc ?_ _) | (with_reducible refine Kd.C_drewN ?_ _) | (with_reducible refine Kd.C_drew ?_))); (case side2 => exact HC0_3.out); (case side3 => repeat (first | exact (Kd.C_below HR1.out zb) | (with_reducible refine Kd.C_alloc ?_ _) | (with_reducible refine Kd.C_drewN ?_ _) | (with_reducible refine Kd.C_drew ?_))); (case side4 => exact HC1.out); (case side5 => exact Glob.below HG.out zb); rintro e w37 ⟨v488, rfl, ho0, hb⟩; have n0_ := zh (Kd.N_below (zN HO_11) hb); have n1_ := zh (Kd.N_below (zN HO_12) hb); have n2_ := zh (Kd.V_lower (Kd.V_mono (ok' := fun k_ => (w.heap.size ≤ k_) ∧ some k_ ≠ (u11 : Value).ownBlock ∧ some k_ ≠ (u12 : Value).ownBlock ∧ k_ ≠ gb484) ho0 (fun k_ hk_ => ⟨(Nat.le_trans (below_size zb) hk_), (Kd.fresh' (Kd.N_lt (zN HO_11)) k_ hk_), (Kd.fresh' (Kd.N_lt (zN HO_12)) k_ hk_), (Kd.freshB (g := gb484) (o := .cells #[.int .i64 a0_0, .int .i64 a0_1, .int .i64 a0_2, .slice A0_3 l0_3.length c0_3] 24 (0, 0)) (zc BK484) k_ hk_)⟩)) (below_size zb)); have n3_ := zh (blk_below (g := gb484) (o := .cells #[.int .i64 a0_0, .int .i64 a0_1, .int .i64 a0_2, .slice A0_3 l0_3.length c0_3] 24 (0, 0)) (zc BK484) hb); have n4_ := zh (below_step zb hb); clear HO_11; clear HO_12; clear BK484; clear HB; have HO_11 := n0_; have HO_12 := n1_; have HO489 := n2_; have BK484 := n3_; have HB := n4_; clear n0_ n1_ n2_ n3_ n4_; (try clear hb); (try clear hb2); (try clear hk); (try clear hi); (try clear ho0))))
     go_ret3
     exact ⟨_, _, zf, by first | exact Kd.S_nil _ _ _ _ _ | exact Kd.N_nil _ _ _ _ _ | exact Kd.V_nil _ _ _ _ _ | exact Kd.Q_nil _ _ _ _ _ | exact Kd.R_nil _ _ _ _ _, by first | exact Kd.S_nil _ _ _ _ _ | exact Kd.N_nil _ _ _ _ _ | exact Kd.V_nil _ _ _ _ _ | exact Kd.Q_nil _ _ _ _ _ | exact Kd.R_nil _ _ _ _ _, zb⟩
   ·rw [if_neg c6] at H
    have c6b0 : decide (x13_1 < a3) = false := decide_eq_false c6
    clear c6
    simp only [Option.some.injEq, Prod.mk.injEq] at H
    obtain ⟨rfl, rfl, rfl⟩ := H
    go_wp2
    repeat (go_quiet (fail); try go_wp2)
    go_ret3
    exact ⟨_, _, zf, by (with_reducible repeat (first | apply Kd.N_alloc | apply Kd.N_drewN | apply Kd.N_drew)); exact Kd.N_mono HO_11.out (fun _ hk => ⟨hk.1, hk.2.1⟩), by (with_reducible repeat (first | apply Kd.N_alloc | apply Kd.N_drewN | apply Kd.N_drew)); exact Kd.N_mono HO_12.out (fun _ hk => ⟨hk.1, hk.2.1⟩), zb⟩
end Go.Proofs.YtagkfkdoibnhfaaDoor.H
end
section
namespace Go.Proofs.YtagkfkdoibnhfaaDoor.H
open Go.RowKit Go.Proofs.YtagkfkdoibnhfaaDoorW.PrintWords Go.Proofs.YtagkfkdoibnhfaaDoorW.PrintLast Go.Proofs.YtagkfkdoibnhfaaDoorW.PrintMore
attribute [local go_sem] max2_int min2_int max_two min_two max_three min_three max_four min_four   -- for this text's walks alone
set_option linter.unusedVariables false
set_option linter.unusedSimpArgs false
def saronlaw06_truly.l0 : Nat → List Int → List Int → Int → Int → Int → Int → List (S66) → Option (List Int)
 | 0, _, _, _, _, _, _, _ => none
 | k + 1, x1, x5, x6, x479000, x479001, x479002, x479003 => if x6 < x479002 then ((saronref00_Nth.f x1 x6).bind fun t479 => ((saronref00_Turn.f t479 (wrap64 (x479000 * x479001))).bind fun t480 => (if x5.length < 17592186044416 then (saronlaw06_truly.l0 k x1 (x5 ++ [t480]) (wrap64 (x6 + 1)) x479000 x479001 x479002 x479003) else (none)))) else (some x5)
def saronlaw06_truly.f (k : Nat) (a0_0 : Int) (a0_1 : Int) (a0_2 : Int) (l0_3 : List (S66)) (l1 : List Int) : Option (List Int) := saronlaw06_truly.l0 k l1 ([] : List Int) 0 a0_0 a0_1 a0_2 l0_3
def saronlaw06_truly.T5 : Bool × List (List Nat × List Nat) := (true, [([], []), ([], []), ([], []), ([1, 2], [1, 2]), ([], []), ([4], [4]), ([], []), ([6], [6]), ([5, 7], [5, 7]), ([3, 8, 3], [3, 8]), ([9], [9]), ([0, 10, 9], [0, 10]), ([11, 11, 0, 1, 2, 3, 4, 5, 6, 7, 8, 9, 10, 11], [0, 11])])
def saronlaw06_truly.B5 : List Nat := [0, 0, 0, 6, 0, 16, 0, 64, 240, 510, 1022, 2047, 4095]
theorem saronlaw06_truly.tab5 : rtab .any (opsOf Tryd.f40 5) = saronlaw06_truly.T5 := by kernel_rfl
theorem saronlaw06_truly.bits5 : waitsOk saronlaw06_truly.T5.2 saronlaw06_truly.B5 = true := by kernel_rfl
set_option maxHeartbeats 8000000 in
set_option maxRecDepth 100000 in
theorem saronlaw06_truly.calls (k : Nat) (a0_0 : Int) (a0_1 : Int) (a0_2 : Int) (A0_3 : Option Addr) (c0_3 : Nat) (l0_3 : List (S66)) (A1 : Option Addr) (c1 : Nat) (l1 : List Int) (r : List Int) (w : World) (hr0_3 : Kd.C k66 w A0_3 l0_3.length l0_3) (hc0_3 : l0_3.length ≤ c0_3) (hr1 : Kd.C (Kd.int .i64) w A1 l1.length l1) (hc1 : l1.length ≤ c1) (h : saronlaw06_truly.f k a0_0 a0_1 a0_2 l0_3 l1 = some r) :
  Calls Tryd.prog 40 #[.agg #[.int .i64 a0_0, .int .i64 a0_1, .int .i64 a0_2, .slice A0_3 l0_3.length c0_3], .slice A1 l1.length c1] w fun e w' => ∃ v0_ : Value, e = .returned (v0_) ∧ Kd.R (Kd.int .i64) 3 w' w.heap.size (fun _ => True) v0_ r ∧ Below w.heap.size w w' := by
 have hu24 := Tryd.underlying24
 have HR0_3 := zh hr0_3
 have HC0_3 := zh hc0_3
 clear hr0_3 hc0_3
 have HR1 := zh hr1
 have HC1 := zh hc1
 clear hr1 hc1
 have HB := zh (Below.refl w.heap.size w)
 have H : (saronlaw06_truly.l0 k l1 ([] : List Int) 0 a0_0 a0_1 a0_2 l0_3) = some r := h
 clear h
 have H' := zh H
 clear H
 go_enter Tryd.func40, Tryd.ntmps40
 go_wp2_with (first | ((with_reducible refine gate_dst (N := 2) rfl ?_); refine box_event ?hg (N := 2) ?hd (cs := #[.int .i64 a0_0, .int .i64 a0_1, .int .i64 a0_2, .slice A0_3 l0_3.length c0_3]) (t := 24) ?hr ?_; (case hd => rfl); (case hg => rfl); (case hr => first | (go_simp; done) | (go_simp; rfl)); intro gb478 hg w3 hbox hb; have n0_ := zh (below_step zb hb); have n1_ := zh (hbox); have n2_ := zh ((by rw [hg]; exact (below_size zb) : w.heap.size ≤ gb478)); have n3_ := zh ((by rw [hg]; exact (below_size zb) : w.heap.size ≤ gb478)); clear HB; have HB := n0_; have BK478 := n1_; have GW478 := n2_; have GE478 := n3_; clear n0_ n1_ n2_ n3_; clear hb hbox hg))
 go_loopg [5, 6] k (fun kq v5 v6 w' => ∃ (x5_1 : List Int) (x6_1 : Int), v6 = .int .i64 x6_1 ∧ Aside0 (saronlaw06_truly.l0 kq l1 x5_1 x6_1 a0_0 a0_1 a0_2 l0_3 = some r) ∧ Aside0 (kq ≤ k) ∧ Aside0 (Kd.R (Kd.int .i64) 3 w' w.heap.size (fun _ => True) v5 x5_1) ∧ Aside0 (w'.heap[gb478]? = some (.cells #[.int .i64 a0_0, .int .i64 a0_1, .int .i64 a0_2, (.slice A0_3 l0_3.length c0_3)] 24 (0, 0))) ∧ Aside0 (Below w.heap.size w w'))
 case atStart => exact ⟨(([] : List Int)), (0), ze, H', ⟨Nat.le_refl _⟩, ⟨by first | exact Kd.R_nil _ _ _ _ _ | exact Kd.N_nil _ _ _ _ _ | exact Kd.V_nil _ _ _ _ _ | exact Kd.Q_nil _ _ _ _ _ | exact Kd.S_nil _ _ _ _ _⟩, ⟨zc BK478⟩, ⟨zb⟩⟩
 case round =>
  clear H'
  try clear c1
  try clear p2
  obtain ⟨x5_1, x6_1, rfl, HA, HK1, HO_5, BK478, HB⟩ := hrel
  cases gk with
  | zero => exact absurd HA.out (by simp [saronlaw06_truly.l0])
  | succ k1 =>
   have H := HA.out
   clear HA
   simp only [saronlaw06_truly.l0] at H
   by_cases c4 : x6_1 < a0_2
   ·rw [if_pos c4] at H
    have c4b0 : decide (x6_1 < a0_2) = true := decide_eq_true c4
    clear c4
    replace H := Option.bind_eq_some_iff.mp H
    obtain ⟨t479, A50, H⟩ := H
    replace H : ((saronref00_Turn.f t479 (wrap64 (a0_0 * a0_1))).bind fun t480 => (if x5_1.length < 17592186044416 then (saronlaw06_truly.l0 k1 l1 (x5_1 ++ [t480]) (wrap64 (x6_1 + 1)) a0_0 a0_1 a0_2 l0_3) else (none))) = some r := H
    have A5 := zh A50
    clear A50
    replace H := Option.bind_eq_some_iff.mp H
    obtain ⟨t480, A60, H⟩ := H
    replace H : (if x5_1.length < 17592186044416 then (saronlaw06_truly.l0 k1 l1 (x5_1 ++ [t480]) (wrap64 (x6_1 + 1)) a0_0 a0_1 a0_2 l0_3) else (none)) = some r := H
    have A6 := zh A60
    clear A60
    by_cases c7 : x5_1.length < 17592186044416
    ·rw [if_pos c7] at H
     have LMc7 := zh c7
     clear c7
     obtain ⟨y481, hy481⟩ : ∃ y_ : List Int, y_ = (x5_1 ++ [t480]) := ⟨_, rfl⟩
     replace H : (saronlaw06_truly.l0 k1 l1 y481 (wrap64 (x6_1 + 1)) a0_0 a0_1 a0_2 l0_3) = some r := by first | (rw [hy481]; with_reducible exact H) | (have H2_ := (Option.bind_some _ _).symm.trans H; rw [hy481]; with_reducible exact H2_) | (have H2_ := (Option.bind_some _ _).symm.trans H; with_reducible exact H2_) | with_reducible exact H | (rw [hy481]; exact H) | exact H
     have Ny481 := zh hy481
     clear hy481
     have H' := zh H
     clear H
     have hcz8_0 : wr.cell? ⟨gb478, 0, none⟩ = some (.int .i64 a0_0) := vb BK478 0
     have hcz8_1 : wr.cell? ⟨gb478, 1, none⟩ = some (.int .i64 a0_1) := vb BK478 1
     have hcz8_2 : wr.cell? ⟨gb478, 2, none⟩ = some (.int .i64 a0_2) := vb BK478 2
     have hcz8_3 : wr.cell? ⟨gb478, 3, none⟩ = some (.slice A0_3 l0_3.length c0_3) := vb BK478 3
     have hfz8_0 := blk_frozen BK478.out 0
     have hfz8_1 := blk_frozen BK478.out 1
     have hfz8_2 := blk_frozen BK478.out 2
     have hfz8_3 := blk_frozen BK478.out 3
     try go_wp2
     replace HO_5 := zh (Kd.R_drew HO_5.out)
     replace BK478 := zh (blk_drew BK478.out)
     replace HB := zh (below_drew1 HB.out)
     refine start_ (n := 13) (S := fun w' => w'.cell? ⟨gb478, 0, none⟩ = some (.int .i64 a0_0) ∧ w'.cell? ⟨gb478, 1, none⟩ = some (.int .i64 a0_1) ∧ w'.cell? ⟨gb478, 2, none⟩ = some (.int .i64 a0_2) ∧ w'.cell? ⟨gb478, 3, none⟩ = some (.slice A0_3 l0_3.length c0_3)) (ds := []) (Array.replicate 13 false) zk rfl rfl ⟨vb BK478 0, vb BK478 1, vb BK478 2, vb BK478 3⟩ (fun hHeld => ?_); refine with_tabW saronlaw06_truly.tab5 saronlaw06_truly.bits5 (fun HT_ HW_ => ?_)
     generalize wr.drew = w9 at HO_5 BK478 HB hHeld ⊢
     refine zu 0 ?_
     refine zu 1 ?_
     refine zu 2 ?_
     refine zu 4 ?_
     refine zu 6 ?_
     refine zt 5 ?_
     refine zt 7 ?_
     refine zu 8 ?_
     refine zo 3 (fun K hK => ?_)
     refine goes_ Tryd.func47 zk rfl #[.slice A1 l1.length c1, .int .i64 x6_1] (by rfl) rfl rfl zm ?_
     with_reducible refine (saronref00_Nth.calls _ _ l1 x6_1 t479 _ ?side1 ?side2 A5.out).mono ?_
     (case side1 => repeat (first | exact (Kd.C_below HR1.out HB.out) | (with_reducible refine Kd.C_alloc ?_ _) | (with_reducible refine Kd.C_drewN ?_ _) | (with_reducible refine Kd.C_drew ?_)))
     (case side2 => exact HC1.out)
     rintro e w' ⟨rfl, ⟨nd, rfl⟩⟩
     refine ⟨_, rfl, ?_⟩
     refine hK.out _ _ ⟨vb BK478 0, vb BK478 1, vb BK478 2, vb BK478 3⟩ (fun hHeld => ?_)
     clear hK K
     refine zr 16 _ ?_
     refine zo 9 (fun K hK => ?_)
     refine goes_ Tryd.func42 zk rfl #[.int .i64 t479, .int .i64 (wrap64 (a0_0 * a0_1))] (by rfl) rfl rfl zm ?_
     with_reducible refine (saronref00_Turn.calls t479 (wrap64 (a0_0 * a0_1)) t480 _ A6.out).mono ?_
     rintro e w' ⟨rfl, ⟨nd, rfl⟩⟩
     refine ⟨_, rfl, ?_⟩
     refine hK.out _ _ ⟨vb BK478 0, vb BK478 1, vb BK478 2, vb BK478 3⟩ (fun hHeld => ?_)
     clear hK K
     refine zr 22 _ ?_
     refine zo 10 (fun K hK => ?_)
     refine value_ (w1 := ?_) (v := ?_) (by rfl) rfl ?_ ?_
     rotate_left 2
     ·go_simp
      constructor
      ·rfl
      ·rfl
     refine hK.out _ _ ⟨(blk_cell (blk_alloc BK478.out _) 0).trans rfl, (blk_cell (blk_alloc BK478.out _) 1).trans rfl, (blk_cell (blk_alloc BK478.out _) 2).trans rfl, (blk_cell (blk_alloc BK478.out _) 3).trans rfl⟩ (fun hHeld => ?_)
     clear hK K
     refine zr 23 _ ?_
     refine zo 11 (fun K hK => ?_)
     refine Kd.R_append_step (Kd.int .i64) (w0 := w) w.heap.size (by rfl) (.tmp 13) (.tmp 23) 25 3 (.int .i64 0) 8 rfl Tryd.underlying25 info3 rfl (by decide) (by omega) u5 x5_1 t480 [.int .i64 t480] (fun _ => True) (fun _ => False) rfl rfl ?aP (fun _ hk => hk.elim) ?aF ?aO ?aB ?aS ?aL ?_
     (case aP => exact rfl)
     (case aB => exact zb)
     (case aF => exact (fun _ _ => trivial))
     (case aO => exact (zR HO_5))
     (case aS => exact (below_size zb))
     (case aL => have := LMc7.out; omega)
     intro v482 w10 ho hb hg hat
     rw [← Ny481.out] at ho
     replace BK478 := zh (blk_grown (g := gb478) (o := .cells #[.int .i64 a0_0, .int .i64 a0_1, .int .i64 a0_2, .slice A0_3 l0_3.length c0_3] 24 (0, 0)) (zc BK478) hg (Kd.R_ne HO_5.out BK478.out (by decide)))
     replace HB := zh (hb)
     have HO483 := zh (ho)
     clear HO_5 ho hb hg hat
     refine hK.out _ _ ⟨vb BK478 0, vb BK478 1, vb BK478 2, vb BK478 3⟩ (fun hHeld => ?_)
     clear hK K
     refine zr 24 _ ?_
     refine zu 12 ?_
     refine zd ?_
     try go_wp2
     go_roundg k1
     case measure => have := HK1.out; omega
     case rel => exact ⟨(y481), (wrap64 (x6_1 + 1)), ze, H', ⟨by have := HK1.out; omega⟩, ⟨zR HO483⟩, ⟨zc BK478⟩, ⟨zb⟩⟩
    ·rw [if_neg c7] at H
     exact absurd H (by simp)
   ·rw [if_neg c4] at H
    have c4b0 : decide (x6_1 < a0_2) = false := decide_eq_false c4
    clear c4
    obtain rfl := Option.some.inj H
    have hcz11_0 : wr.cell? ⟨gb478, 0, none⟩ = some (.int .i64 a0_0) := vb BK478 0
    have hcz11_1 : wr.cell? ⟨gb478, 1, none⟩ = some (.int .i64 a0_1) := vb BK478 1
    have hcz11_2 : wr.cell? ⟨gb478, 2, none⟩ = some (.int .i64 a0_2) := vb BK478 2
    have hcz11_3 : wr.cell? ⟨gb478, 3, none⟩ = some (.slice A0_3 l0_3.length c0_3) := vb BK478 3
    have hfz11_0 := blk_frozen BK478.out 0
    have hfz11_1 := blk_frozen BK478.out 1
    have hfz11_2 := blk_frozen BK478.out 2
    have hfz11_3 := blk_frozen BK478.out 3
    go_wp2
    go_ret
    exact ⟨_, zf, (zR HO_5), zb⟩
end Go.Proofs.YtagkfkdoibnhfaaDoor.H
end
section
namespace Go.Proofs.YtagkfkdoibnhfaaDoor.H
open Go.RowKit Go.Proofs.YtagkfkdoibnhfaaDoorW.PrintWords Go.Proofs.YtagkfkdoibnhfaaDoorW.PrintLast Go.Proofs.YtagkfkdoibnhfaaDoorW.PrintMore
attribute [local go_sem] max2_int min2_int max_two min_two max_three min_three max_four min_four   -- for this text's walks alone
set_option linter.unusedVariables false
set_option linter.unusedSimpArgs false
open Go.Proofs.YtagkfkdoibnhfaaDoor.K
mutual
def saronlaw06_KernelTrue.j0 : Nat → List Int → List (S60) → List (List Int) → Int → List (List Int) → Bool → Int → Int → Int → List (S66) → Option (Bool)
 | 0, _, _, _, _, _, _, _, _, _, _ => none
 | k + 1, x7, x8, x9, x11, x13, x87, x512000, x512001, x512002, x512003 => if x87 = true then (some false) else (saronlaw06_KernelTrue.l0 k x7 x8 x9 x11 x13 0 x512000 x512001 x512002 x512003)
def saronlaw06_KernelTrue.l0 : Nat → List Int → List (S60) → List (List Int) → Int → List (List Int) → Int → Int → Int → Int → List (S66) → Option (Bool)
 | 0, _, _, _, _, _, _, _, _, _, _ => none
 | k + 1, x7, x8, x9, x11, x13, x17, x512000, x512001, x512002, x512003 => if x17 < (x7.length : Int) then ((kernel_Can.f x512000 x512001 x512002 x512003 x8 x17).bind fun bt533 => (if bt533.2 = 0 then (if 0 ≤ x17 then ((saronref00_Where.f k bt533.1 (rd x7 x17)).bind fun t538 => (if t538 < 0 then (some false) else (saronlaw06_KernelTrue.l0 k x7 x8 x9 x11 x13 (wrap64 (x17 + 1)) x512000 x512001 x512002 x512003))) else (none)) else (some false))) else (saronlaw06_KernelTrue.l1 k x7 x8 x9 x11 x13 0 x512000 x512001 x512002 x512003)
def saronlaw06_KernelTrue.l1 : Nat → List Int → List (S60) → List (List Int) → Int → List (List Int) → Int → Int → Int → Int → List (S66) → Option (Bool)
 | 0, _, _, _, _, _, _, _, _, _, _ => none
 | k + 1, x7, x8, x9, x11, x13, x20, x512000, x512001, x512002, x512003 => if x20 < (x13.length : Int) then (if 0 ≤ x20 then (if x20 < (x9.length : Int) then (if ((rd_L4 x13 x20).length : Int) = ((rd_L4 x9 x20).length : Int) then (saronlaw06_KernelTrue.l2 k x7 x8 x9 x11 x13 x20 0 x512000 x512001 x512002 x512003) else (some false)) else (none)) else (none)) else ((kernel_Won.f x512000 x512001 x512002 x512003 x8).bind fun bt550 => (if x11 > 1 then (if bt550.2 = 63 then (if (bt550.1.length : Int) = 0 then ((saronlaw06_works.f).bind fun t554 => (some t554)) else (some false)) else (some false)) else (if bt550.2 = 0 then ((saronref00_Equal.f k bt550.1 x7).bind fun t555 => (if t555 = true then ((saronlaw06_works.f).bind fun t556 => (some t556)) else (some false))) else (some false))))
def saronlaw06_KernelTrue.l2 : Nat → List Int → List (S60) → List (List Int) → Int → List (List Int) → Int → Int → Int → Int → Int → List (S66) → Option (Bool)
 | 0, _, _, _, _, _, _, _, _, _, _, _ => none
 | k + 1, x7, x8, x9, x11, x13, x20, x21, x512000, x512001, x512002, x512003 => if 0 ≤ x20 then (if x20 < (x13.length : Int) then (if x21 < ((rd_L4 x13 x20).length : Int) then (if 0 ≤ x21 then (if x20 < (x9.length : Int) then (if x21 < ((rd_L4 x9 x20).length : Int) then (if (rd (rd_L4 x13 x20) x21) = (rd (rd_L4 x9 x20) x21) then (saronlaw06_KernelTrue.l2 k x7 x8 x9 x11 x13 x20 (wrap64 (x21 + 1)) x512000 x512001 x512002 x512003) else (if (rd (rd_L4 x13 x20) x21) = (-2) then (if x20 < (x8.length : Int) then (if x21 < (((rd_T60 x8 x20).f1).length : Int) then (if (rd ((rd_T60 x8 x20).f1) x21) = (-2) then (saronlaw06_KernelTrue.l2 k x7 x8 x9 x11 x13 x20 (wrap64 (x21 + 1)) x512000 x512001 x512002 x512003) else (some false)) else (none)) else (none)) else (some false))) else (none)) else (none)) else (none)) else (saronlaw06_KernelTrue.l1 k x7 x8 x9 x11 x13 (wrap64 (x20 + 1)) x512000 x512001 x512002 x512003)) else (none)) else (none)
end
def saronlaw06_KernelTrue.f (k : Nat) (a0_0 : Int) (a0_1 : Int) (a0_2 : Int) (l0_3 : List (S66)) (l1 : List Int) (a2 : Int) : Option (Bool) := (saronlaw06_sound.f k a0_0 a0_1 a0_2 l0_3).bind fun t512 => (if t512 = true then ((saronlaw06_truly.f k a0_0 a0_1 a0_2 l0_3 l1).bind fun t514 => ((saronref00_Turn.f a2 5).bind fun t517 => ((saronlaw06_listened.f k a0_0 a0_1 a0_2 l0_3 t514 l1 (wrap64 (1 + t517))).bind fun bt518 => ((kernel_Many.f a0_0 a0_1 a0_2 l0_3 bt518.1).bind fun bt525 => ((kernel_Filled.f a0_0 a0_1 a0_2 l0_3 bt518.1).bind fun bt527 => ((kernel_Least.f a0_0 a0_1 a0_2 l0_3 bt518.1).bind fun bt531 => (if bt518.2.2 = true then (if bt525.2 = 0 then (if bt527.2 = 0 then (if bt531.2 = 0 then (if bt525.1 < 1 then (saronlaw06_KernelTrue.j0 k t514 bt518.1 bt518.2.1 bt525.1 bt527.1 true a0_0 a0_1 a0_2 l0_3) else (if bt531.1 = 0 then (saronlaw06_KernelTrue.j0 k t514 bt518.1 bt518.2.1 bt525.1 bt527.1 ((bt527.1.length : Int) != (bt518.1.length : Int)) a0_0 a0_1 a0_2 l0_3) else (saronlaw06_KernelTrue.j0 k t514 bt518.1 bt518.2.1 bt525.1 bt527.1 true a0_0 a0_1 a0_2 l0_3))) else (saronlaw06_KernelTrue.j0 k t514 bt518.1 bt518.2.1 bt525.1 bt527.1 true a0_0 a0_1 a0_2 l0_3)) else (saronlaw06_KernelTrue.j0 k t514 bt518.1 bt518.2.1 bt525.1 bt527.1 true a0_0 a0_1 a0_2 l0_3)) else (saronlaw06_KernelTrue.j0 k t514 bt518.1 bt518.2.1 bt525.1 bt527.1 true a0_0 a0_1 a0_2 l0_3)) else (saronlaw06_KernelTrue.j0 k t514 bt518.1 bt518.2.1 bt525.1 bt527.1 true a0_0 a0_1 a0_2 l0_3)))))))) else ((saronlaw06_works.f).bind fun t513 => (some t513)))
end Go.Proofs.YtagkfkdoibnhfaaDoor.H
end
section
namespace Go.Proofs.YtagkfkdoibnhfaaDoor.K
open Go.RowKit Go.Proofs.YtagkfkdoibnhfaaDoorW.PrintWords Go.Proofs.YtagkfkdoibnhfaaDoorW.PrintMore Go.Proofs.YtagkfkdoibnhfaaDoor.H
namespace O
theorem turn_any (a b : Int) (hb : 1 ≤ b) (hb' : b ≤ 9223372036854775807) : saronref00_Turn.f a b = some (a % b) := by
 unfold saronref00_Turn.f
 rw [if_neg (by omega), if_neg (by omega)]
 have h := Int.tmod_eq_emod (a := a) (b := b)
 have h1 := Int.emod_nonneg a (by omega : b ≠ 0)
 have h2 := Int.emod_lt_of_pos a (by omega : 0 < b)
 have hn : (b.natAbs : Int) = b := by omega
 split at h
 ·rw [if_neg (by omega), h]; simp
 ·rw [if_pos (by omega), w64 (by omega) (by omega)]
  congr 1
  omega
theorem nth_any (l : List Int) (hl : l.length ≤ 9223372036854775807) (n : Int) : ∃ v, saronref00_Nth.f l n = some v := by
 unfold saronref00_Nth.f
 by_cases h : (l.length : Int) = 0
 ·exact ⟨_, if_pos h⟩
 ·have h1 := Int.emod_nonneg n h
  have h2 := Int.emod_lt_of_pos n (by omega : 0 < (l.length : Int))
  rw [if_neg h, turn_any n _ (by omega) (by omega), Option.bind_some, if_pos h1, if_pos h2]
  exact ⟨_, rfl⟩
theorem where_mem (x : Int) (l : List Int) (hl : l.length ≤ 9223372036854775807) : ∀ (d k i : Nat), l.length - i = d → d + 1 ≤ k → (∃ j, i ≤ j ∧ j < l.length ∧ l.getD j 0 = x) → ∃ v, saronref00_Where.l0 k l x (i : Int) = some v ∧ 0 ≤ v
 | 0, k, i, hd, hk, ⟨j, h1, h2, _⟩ => by omega
 | d + 1, k, i, hd, hk, ⟨j, h1, h2, h3⟩ => by
  obtain ⟨k, rfl⟩ : ∃ z, k = z + 1 := ⟨k - 1, by omega⟩
  simp only [saronref00_Where.l0]
  rw [if_pos (by omega), if_pos (by omega)]
  by_cases hx : rd l (i : Int) = x
  ·rw [if_pos hx]
   exact ⟨_, rfl, by omega⟩
  ·rw [if_neg hx, up1 i (by omega)]
   refine where_mem x l hl d k (i + 1) (by omega) (by omega) ⟨j, ?_, h2, h3⟩
   have : j ≠ i := by
    rintro rfl
    exact hx h3
   omega
section
variable {T O L : Int} {R : List S66} (hS : okScale T O L R = true)
include hS
theorem truly_l0 (l : List Int) (hl : l.length ≤ 9223372036854775807) : ∀ (d k i : Nat) (acc : List Int), L.toNat - i = d → (i : Int) ≤ L → acc.length = i → (∀ x ∈ acc, 0 ≤ x ∧ x < T * O) → d + 1 ≤ k →
  ∃ t, saronlaw06_truly.l0 k l acc (i : Int) T O L R = some t ∧ (t.length : Int) = L ∧ ∀ x ∈ t, 0 ≤ x ∧ x < T * O
 | d, k, i, acc, hd, hi, ha, hx, hk => by
  obtain ⟨t1, t2, t3, t4, t5, t6, t7, t8, t9, hok⟩ := okScale_regs hS
  obtain ⟨k, rfl⟩ : ∃ z, k = z + 1 := ⟨k - 1, by omega⟩
  simp only [saronlaw06_truly.l0]
  by_cases hlt : (i : Int) < L
  ·obtain ⟨v, hv⟩ := nth_any l hl (i : Int)
   have hTO : T * O ≤ 21 := Int.mul_le_mul (c := 7) (d := 3) t2 t4 (by omega) (by omega)
   have hTO1 : 2 * 1 ≤ T * O := Int.mul_le_mul (by omega) (by omega) (by omega) (by omega)
   rw [if_pos hlt, hv, Option.bind_some, w64 (by omega) (by omega), turn_f v (T * O) (by omega) (by omega), Option.bind_some, if_pos (by omega), up1 i (by omega)]
   refine truly_l0 l hl (d - 1) k (i + 1) _ (by omega) (by omega) (by simp [ha]) (fun x h => ?_) (by omega)
   rcases List.mem_append.1 h with h | h
   ·exact hx x h
   ·rw [List.mem_singleton] at h
    subst h
    exact ⟨Int.emod_nonneg _ (by omega), Int.emod_lt_of_pos _ (by omega)⟩
  ·rw [if_neg hlt]
   exact ⟨acc, rfl, by omega, hx⟩
 termination_by d => d
theorem truly_f (l : List Int) (hl : l.length ≤ 9223372036854775807) (k : Nat) (hk : 20 ≤ k) : ∃ t, saronlaw06_truly.f k T O L R l = some t ∧ (t.length : Int) = L ∧ ∀ x ∈ t, 0 ≤ x ∧ x < T * O := by
 obtain ⟨t1, t2, t3, t4, t5, t6, t7, t8, t9, hok⟩ := okScale_regs hS
 exact truly_l0 hS l hl L.toNat k 0 [] (by omega) (by omega) rfl (by simp) (by omega)
omit hS in
theorem listened_l1 (t bits : List Int) (hb : bits.length ≤ 9223372036854775807) (many : Int) (hs : List S60) (ps : List (List Int)) (h1 : hs.length ≤ 5) (h2 : ps.length ≤ 5) (i : Nat) (hi : i ≤ 5) (reg : Int) (part : List Int) : ∀ (d k j : Nat) (y : List Int), y.length - j = d → y.length ≤ 100 → d + 1 ≤ k →
  ∃ k' y', k' + d + 1 = k ∧ y'.length = y.length ∧ (∀ n, n < y.length → y'.getD n 0 = -2 ∨ y'.getD n 0 = y.getD n 0) ∧
   saronlaw06_listened.l1 k t bits many hs ps (i : Int) reg part y (j : Int) T O L R = saronlaw06_listened.l0 k' t bits many (hs ++ [⟨reg, y'⟩]) (ps ++ [part]) ((i + 1 : Nat) : Int) T O L R
 | d, k, j, y, hd, hy, hk => by
  obtain ⟨k, rfl⟩ : ∃ z, k = z + 1 := ⟨k - 1, by omega⟩
  simp only [saronlaw06_listened.l1]
  by_cases hlt : (j : Int) < (y.length : Int)
  ·obtain ⟨v, hv⟩ := nth_any bits hb (wrap64 ((wrap64 (3 * (i : Int))) + (j : Int)))
   rw [if_pos hlt, hv, Option.bind_some, turn_f _ 4 (by omega) (by omega), Option.bind_some, up1 j (by omega)]
   split
   ·rw [if_pos (by omega)]
    obtain ⟨k', y', e1, e2, e3, e4⟩ := listened_l1 t bits hb many hs ps h1 h2 i hi reg part (d - 1) k (j + 1) (y.set (j : Int).toNat (-2)) (by rw [List.length_set]; omega) (by rw [List.length_set]; exact hy) (by omega)
    rw [List.length_set] at e2 e3
    refine ⟨k', y', by omega, e2, fun n hn => ?_, e4⟩
    rcases e3 n hn with h | h
    ·exact .inl h
    ·by_cases hnj : n = j
     ·subst hnj
      left
      rw [h, List.getD_eq_getElem?_getD, Int.toNat_natCast, List.getElem?_set_self (by omega)]
      rfl
     ·right
      rw [h, List.getD_eq_getElem?_getD, Int.toNat_natCast, List.getElem?_set_ne (by omega), ← List.getD_eq_getElem?_getD]
   ·obtain ⟨k', y', e1, e2, e3, e4⟩ := listened_l1 t bits hb many hs ps h1 h2 i hi reg part (d - 1) k (j + 1) y (by omega) hy (by omega)
    exact ⟨k', y', by omega, e2, e3, e4⟩
  ·rw [if_neg hlt]
   refine ⟨k, y, by omega, rfl, fun n hn => .inr rfl, ?_⟩
   unfold saronlaw06_of.f
   rw [Option.bind_some, if_pos (by omega), if_pos (by omega), up1 i (by omega)]
 termination_by d => d
theorem listened_l0 (t bits : List Int) (hL : (t.length : Int) = L) (ht : ∀ x ∈ t, 0 ≤ x ∧ x < T * O) (hb : bits.length ≤ 9223372036854775807) (many : Nat) (hm : many ≤ 5) : ∀ (d k i : Nat) (hs : List S60), many - i = d → i ≤ many → hs.length = i → (∀ x ∈ hs, True1 T R t x) → 80 * d + 1 ≤ k →
  ∃ hs', saronlaw06_listened.l0 k t bits (many : Int) hs (hs.map fun x => partOf T R x.f0 t) (i : Int) T O L R = some (hs', hs'.map fun x => partOf T R x.f0 t, true) ∧ hs'.length = many ∧ ∀ x ∈ hs', True1 T R t x
 | d, k, i, hs, hd, hi, hl, hx, hk => by
  obtain ⟨t1, t2, t3, t4, t5, t6, t7, t8, t9, hok⟩ := okScale_regs hS
  obtain ⟨k, rfl⟩ : ∃ z, k = z + 1 := ⟨k - 1, by omega⟩
  simp only [saronlaw06_listened.l0]
  by_cases hlt : (i : Int) < (many : Int)
  ·obtain ⟨v, hv⟩ := nth_any bits hb (wrap64 ((i : Int) + 1))
   have r1 := Int.emod_nonneg v (show (R.length : Int) ≠ 0 by omega)
   have r2 := Int.emod_lt_of_pos v (show 0 < (R.length : Int) by omega)
   generalize hr : v % (R.length : Int) = r at *
   have hp : Part T O L R t r = (partOf T R r t, 0) := by
    unfold Part okPart
    rw [if_pos hS, if_pos (by
     simp only [Bool.and_eq_true, decide_eq_true_eq, List.all_eq_true]
     exact ⟨⟨⟨hL, r1⟩, r2⟩, ht⟩)]
   have hpl := partOf_len T R r t
   have hpl2 : (partOf T R r t).length ≤ 64 := by omega
   rw [if_pos hlt, hv, Option.bind_some, turn_f v _ (by omega) (by omega), hr, Option.bind_some]
   unfold kernel_Part.f
   rw [Option.bind_some, hp, if_pos rfl, Option.bind_some]
   simp only [List.nil_append, List.length_nil, Nat.zero_add]
   rw [if_pos (by omega)]
   obtain ⟨k', y', e1, e2, e3, e4⟩ := listened_l1 (T := T) (O := O) (L := L) (R := R) t bits hb (many : Int) hs (hs.map fun x => partOf T R x.f0 t) (by omega) (by rw [List.length_map]; omega) i (by omega) r (partOf T R r t) (partOf T R r t).length k 0 (partOf T R r t) (by omega) (by omega) (by omega)
   refine (show ∃ hs', _ = _ ∧ _ from ?_)
   have e4' := e4
   rw [Int.natCast_zero] at e4'
   rw [e4']
   have em : ((hs.map fun x => partOf T R x.f0 t) ++ [partOf T R r t]) = (hs ++ [(⟨r, y'⟩ : S60)]).map fun x => partOf T R x.f0 t := by rw [List.map_append]; rfl
   rw [em]
   refine listened_l0 t bits hL ht hb many hm (d - 1) k' (i + 1) _ (by omega) (by omega) (by simp [hl]) (fun x h => ?_) (by omega)
   rcases List.mem_append.1 h with h | h
   ·exact hx x h
   ·rw [List.mem_singleton] at h
    subst h
    exact ⟨r1, r2, e2, fun n hn => e3 n (by rw [← e2]; exact hn)⟩
  ·rw [if_neg hlt]
   exact ⟨hs, rfl, by omega, hx⟩
 termination_by d => d
theorem listened_f (t bits : List Int) (hL : (t.length : Int) = L) (ht : ∀ x ∈ t, 0 ≤ x ∧ x < T * O) (hb : bits.length ≤ 9223372036854775807) (many : Nat) (hm : many ≤ 5) (k : Nat) (hk : 500 ≤ k) :
  ∃ hs, saronlaw06_listened.f k T O L R t bits (many : Int) = some (hs, hs.map fun x => partOf T R x.f0 t, true) ∧ hs.length = many ∧ ∀ x ∈ hs, True1 T R t x :=
 listened_l0 hS t bits hL ht hb many hm many k 0 [] (by omega) (by omega) rfl (by simp) (by omega)
end
end O
end Go.Proofs.YtagkfkdoibnhfaaDoor.K
end
section
namespace Go.Proofs.YtagkfkdoibnhfaaDoor.K
open Go.RowKit Go.Proofs.YtagkfkdoibnhfaaDoorW.PrintWords Go.Proofs.YtagkfkdoibnhfaaDoorW.PrintMore Go.Proofs.YtagkfkdoibnhfaaDoor.H
namespace O
theorem canOf_len {T O L : Int} {R : List S66} (hS : okScale T O L R = true) (hs : List S60) (i : Int) : (canOf T O R hs i).length ≤ 21 := by
 obtain ⟨t1, t2, t3, t4, t5, t6, t7, t8, t9, hok⟩ := okScale_regs hS
 have hTO : T * O ≤ 21 := Int.mul_le_mul (c := 7) (d := 3) t2 t4 (by omega) (by omega)
 unfold canOf
 refine Nat.le_trans (List.length_filter_le _ _) ?_
 rw [irange_len]
 omega
section
variable (T O L : Int) (R : List S66) (hs : List S60) (t : List Int) (n : Int) (hS : okScale T O L R = true) (hL : (t.length : Int) = L) (ht : ∀ x ∈ t, 0 ≤ x ∧ x < T * O) (hT : ∀ x ∈ hs, True1 T R t x) (h1 : 1 ≤ hs.length) (h5 : hs.length ≤ 5)
include hS hL ht hT h1 h5
theorem true_end (hn : n = manyOf T O L R hs) (k : Nat) (hk : 100 ≤ k) : ((kernel_Won.f T O L R hs).bind fun bt550 => (if n > 1 then (if bt550.2 = 63 then (if (bt550.1.length : Int) = 0 then ((saronlaw06_works.f).bind fun t554 => (some t554)) else (some false)) else (some false)) else (if bt550.2 = 0 then ((saronref00_Equal.f k bt550.1 t).bind fun t555 => (if t555 = true then ((saronlaw06_works.f).bind fun t556 => (some t556)) else (some false))) else (some false)))) = some true := by
 obtain ⟨t1, t2, t3, t4, t5, t6, t7, t8, t9, hok⟩ := okScale_regs hS
 have hC := true_canAll hS hL ht hT
 have hH := true_heard hS hL hT h1 h5
 have ea : askedErr T O L R hs true = 0 := by unfold askedErr; rw [hS, hH, hC]; rfl
 obtain ⟨m1, m2⟩ := many_one hC
 unfold kernel_Won.f
 rw [Option.bind_some]
 by_cases h : 1 < manyOf T O L R hs
 ·have e2 : Won T O L R hs = ([], 63) := by
   unfold Won
   rw [if_pos ea, if_pos (show (irange 0 (L / 2 - 1)).any (severalAt T O R hs) = true from m2.1 h)]
  rw [e2, if_pos (by omega), if_pos rfl, if_pos (show ((([] : List Int).length : Int)) = 0 from rfl)]
  rfl
 ·have hns : several T O L R hs = false := by
   cases h2 : several T O L R hs
   ·rfl
   ·exact absurd (m2.2 h2) h
  have e2 : Won T O L R hs = (wonOf T O L R hs, 0) := by
   unfold Won
   rw [if_pos ea, if_neg (show ¬ (irange 0 (L / 2 - 1)).any (severalAt T O R hs) = true from fun h2 => h (m2.2 h2))]
  rw [e2, if_neg (by omega), if_pos rfl]
  show (saronref00_Equal.f k (wonOf T O L R hs) t).bind _ = _
  rw [true_won hS hL ht hT (single_of hC hns), equal_self' t (by omega) k (by omega), Option.bind_some, if_pos rfl]
  rfl
theorem fill_len (x : S60) : (fillOf T O R hs x).length = x.f1.length := by
 unfold fillOf
 rw [List.length_map, List.length_range]
theorem true_l2 (fl : List (List Int)) (hfl : fl = hs.map (fillOf T O R hs)) (ps : List (List Int)) (hps : ps = hs.map fun x => partOf T R x.f0 t) (i : Nat) (hi : i < hs.length) : ∀ (d k j : Nat), (hs[i]).f1.length - j = d → j ≤ (hs[i]).f1.length → d + 1 ≤ k →
  ∃ k', k' + d + 1 = k ∧ saronlaw06_KernelTrue.l2 k t hs ps n fl (i : Int) (j : Int) T O L R = saronlaw06_KernelTrue.l1 k' t hs ps n fl ((i + 1 : Nat) : Int) T O L R
 | d, k, j, hd, hj, hk => by
  obtain ⟨t1, t2, t3, t4, t5, t6, t7, t8, t9, hok⟩ := okScale_regs hS
  obtain ⟨k, rfl⟩ : ∃ z, k = z + 1 := ⟨k - 1, by omega⟩
  have ef : rd_L4 fl (i : Int) = fillOf T O R hs hs[i] := by
   unfold rd_L4
   rw [hfl]
   simp [hi]
  have ep : rd_L4 ps (i : Int) = partOf T R hs[i].f0 t := by
   unfold rd_L4
   rw [hps]
   simp [hi]
  have e60 : rd_T60 hs (i : Int) = hs[i] := by
   unfold rd_T60
   simp [hi]
  have lf : fl.length = hs.length := by rw [hfl, List.length_map]
  have lp : ps.length = hs.length := by rw [hps, List.length_map]
  have hx : hs[i] ∈ hs := List.getElem_mem hi
  obtain ⟨g1, g2, g3, g4⟩ := hT hs[i] hx
  have l1 := fill_len T O L R hs t hS hL ht hT h1 h5 hs[i]
  have hpl := partOf_len T R hs[i].f0 t
  simp only [saronlaw06_KernelTrue.l2]
  rw [if_pos (by omega), if_pos (by omega), ef, ep, e60, l1, ← g3]
  by_cases hlt : (j : Int) < (hs[i].f1.length : Int)
  ·obtain ⟨k', e1, e2⟩ := true_l2 fl hfl ps hps i hi (d - 1) k (j + 1) (by omega) (by omega) (by omega)
   rw [if_pos hlt, if_pos (by omega), if_pos (by omega), if_pos hlt, up1 j (by omega)]
   refine ⟨k', by omega, ?_⟩
   rw [← e2]
   have hf := true_fill hS hL ht hT hs[i] hx j (by omega)
   unfold rd
   rw [Int.toNat_natCast]
   rcases hf with hf | ⟨hf, hf2⟩
   ·rw [if_pos hf]
   ·rw [hf, hf2]
    split
    ·rfl
    ·rw [if_pos rfl, if_pos (by omega), if_pos rfl]
  ·rw [if_neg hlt, up1 i (by omega)]
   exact ⟨k, by omega, rfl⟩
 termination_by d => d
theorem true_l1 (hn : n = manyOf T O L R hs) (fl : List (List Int)) (hfl : fl = hs.map (fillOf T O R hs)) (ps : List (List Int)) (hps : ps = hs.map fun x => partOf T R x.f0 t) : ∀ (d k i : Nat), hs.length - i = d → i ≤ hs.length → 80 * d + 110 ≤ k →
  saronlaw06_KernelTrue.l1 k t hs ps n fl (i : Int) T O L R = some true
 | d, k, i, hd, hi, hk => by
  obtain ⟨t1, t2, t3, t4, t5, t6, t7, t8, t9, hok⟩ := okScale_regs hS
  obtain ⟨k, rfl⟩ : ∃ z, k = z + 1 := ⟨k - 1, by omega⟩
  have lf : fl.length = hs.length := by rw [hfl, List.length_map]
  have lp : ps.length = hs.length := by rw [hps, List.length_map]
  simp only [saronlaw06_KernelTrue.l1]
  by_cases hlt : (i : Int) < (fl.length : Int)
  ·have hi2 : i < hs.length := by omega
   have ef : rd_L4 fl (i : Int) = fillOf T O R hs hs[i] := by
    unfold rd_L4
    rw [hfl]
    simp [hi2]
   have ep : rd_L4 ps (i : Int) = partOf T R hs[i].f0 t := by
    unfold rd_L4
    rw [hps]
    simp [hi2]
   obtain ⟨g1, g2, g3, g4⟩ := hT hs[i] (List.getElem_mem hi2)
   have l1 := fill_len T O L R hs t hS hL ht hT h1 h5 hs[i]
   have hpl := partOf_len T R hs[i].f0 t
   obtain ⟨k', e1, e2⟩ := true_l2 T O L R hs t n hS hL ht hT h1 h5 fl hfl ps hps i hi2 hs[i].f1.length k 0 (by omega) (by omega) (by omega)
   rw [Int.natCast_zero] at e2
   rw [if_pos hlt, if_pos (by omega), if_pos (by omega), ef, ep, if_pos (by omega), e2]
   exact true_l1 hn fl hfl ps hps (d - 1) k' (i + 1) (by omega) (by omega) (by omega)
  ·rw [if_neg hlt]
   exact true_end T O L R hs t n hS hL ht hT h1 h5 hn k (by omega)
 termination_by d => d
theorem true_l0 (hn : n = manyOf T O L R hs) (fl : List (List Int)) (hfl : fl = hs.map (fillOf T O R hs)) (ps : List (List Int)) (hps : ps = hs.map fun x => partOf T R x.f0 t) : ∀ (d k i : Nat), t.length - i = d → i ≤ t.length → d + 600 ≤ k →
  saronlaw06_KernelTrue.l0 k t hs ps n fl (i : Int) T O L R = some true
 | d, k, i, hd, hi, hk => by
  obtain ⟨t1, t2, t3, t4, t5, t6, t7, t8, t9, hok⟩ := okScale_regs hS
  have hC := true_canAll hS hL ht hT
  have hH := true_heard hS hL hT h1 h5
  obtain ⟨k, rfl⟩ : ∃ z, k = z + 1 := ⟨k - 1, by omega⟩
  simp only [saronlaw06_KernelTrue.l0]
  by_cases hlt : (i : Int) < (t.length : Int)
  ·have hcl := canOf_len hS hs (i : Int)
   have hm := true_can hS hL ht hT i (by omega)
   obtain ⟨j, hj, hje⟩ := List.getElem_of_mem hm
   obtain ⟨v, hv, hv0⟩ := where_mem (t.getD i 0) (canOf T O R hs (i : Int)) (by omega) (canOf T O R hs (i : Int)).length k 0 (by omega) (by omega) ⟨j, by omega, hj, by rw [List.getD_eq_getElem?_getD, List.getElem?_eq_getElem hj, Option.getD_some]; exact hje⟩
   have hv' : saronref00_Where.f k (canOf T O R hs (i : Int)) (rd t (i : Int)) = some v := hv
   rw [if_pos hlt]
   unfold kernel_Can.f
   rw [Option.bind_some, Can_ok hS hH hC (i : Int) (by omega) (by omega), if_pos rfl, if_pos (by omega)]
   show (saronref00_Where.f k (canOf T O R hs (i : Int)) (rd t (i : Int))).bind _ = _
   rw [hv', Option.bind_some, if_neg (by omega), up1 i (by omega)]
   exact true_l0 hn fl hfl ps hps (d - 1) k (i + 1) (by omega) (by omega) (by omega)
  ·rw [if_neg hlt]
   exact true_l1 T O L R hs t n hS hL ht hT h1 h5 hn fl hfl ps hps hs.length k 0 (by omega) (by omega) (by omega)
 termination_by d => d
end
theorem true_law (T O L : Int) (R : List S66) (bits : List Int) (many : Int) (hR : R.length ≤ 9223372036854775807) (hb : bits.length ≤ 9223372036854775807) (k : Nat) (hk : 2 * R.length + 1000 ≤ k) : saronlaw06_KernelTrue.f k T O L R bits many = some true := by
 unfold saronlaw06_KernelTrue.f
 rw [sound_f T O L R hR k (by omega), Option.bind_some]
 cases hS : okScale T O L R
 ·rw [if_neg (by simp)]
  rfl
 obtain ⟨t1, t2, t3, t4, t5, t6, t7, t8, t9, hok⟩ := okScale_regs hS
 obtain ⟨t, et, hL, ht⟩ := truly_f hS bits hb k (by omega)
 have m1 := Int.emod_nonneg many (show (5 : Int) ≠ 0 by omega)
 have m2 := Int.emod_lt_of_pos many (show 0 < (5 : Int) by omega)
 obtain ⟨m, hm⟩ : ∃ m : Nat, 1 + many % 5 = (m : Int) := ⟨(1 + many % 5).toNat, by omega⟩
 obtain ⟨hs, el, hl, hT⟩ := listened_f hS t bits hL ht hb m (by omega) k (by omega)
 have h1 : 1 ≤ hs.length := by omega
 have h5 : hs.length ≤ 5 := by omega
 have hC := true_canAll hS hL ht hT
 have hH := true_heard hS hL hT h1 h5
 have ea : askedErr T O L R hs true = 0 := by unfold askedErr; rw [hS, hH, hC]; rfl
 have e1 : Many T O L R hs = (manyOf T O L R hs, 0) := by unfold Many; rw [hS, hH, hC]; rfl
 have e3 : Filled T O L R hs = (hs.map (fillOf T O R hs), 0) := by unfold Filled; rw [ea]; rfl
 have e4 : Least T O L R hs = (0, 0) := by unfold Least; rw [hS, hH, if_pos rfl, if_pos rfl, true_least hS hL ht hT]
 obtain ⟨q1, q2⟩ := many_one hC
 rw [if_pos rfl, et, Option.bind_some, turn_f many 5 (by omega) (by omega), Option.bind_some, w64 (by omega) (by omega), hm, el, Option.bind_some]
 unfold kernel_Many.f kernel_Filled.f kernel_Least.f
 rw [Option.bind_some, Option.bind_some, Option.bind_some, e1, e3, e4, if_pos rfl, if_pos rfl, if_pos rfl, if_pos rfl, if_neg (by show ¬ manyOf T O L R hs < 1; omega), if_pos rfl]
 obtain ⟨k, rfl⟩ : ∃ z, k = z + 1 := ⟨k - 1, by omega⟩
 simp only [saronlaw06_KernelTrue.j0]
 rw [if_neg (by simp)]
 exact true_l0 T O L R hs t _ hS hL ht hT h1 h5 rfl _ rfl _ rfl t.length k 0 (by omega) (by omega) (by omega)
end O
end Go.Proofs.YtagkfkdoibnhfaaDoor.K
end
