/- KernelBack: for every scale, any two numbers that choose the registers and any numbers that choose the kernel the law returns true, and each argument reads afterwards as it read before. Condition: when the call begins the package's table of rules reads as the program's text lays it; the card ties that to the text. -/
import Derived.ArgAppend
import Derived.Below
import Derived.BigQuiet
import Derived.Deep.AppendLies
import Derived.Deep.CutBlock
import Derived.Deep.DeepCutAuto
import Derived.Deep.Draws
import Derived.Deep.LoopGhost
import Derived.Deep.OwnRows
import Derived.Deep.QuietTactic
import Derived.Deep.RegionHeld3
import Derived.KernelRfl
import Derived.Laws.BytesArg
import Derived.Laws.IdiomCopy
import Derived.Laws.MakeOwn
import Derived.Laws.OwnMore
import Derived.Laws.Rows
import Derived.Laws.Slices
import Derived.Lib.AppendStr
import Derived.Lib.ConvBytes
import Derived.Maps.AppendAt
import Derived.OwnWalk
import Derived.RowKit
import Derived.RowKit3
import Derived.Tactics
import Derived.WalkKit
import Derived.WideLaws
import Derived.Test.YtagkfkdoibnhfaaDoorZB1
import Derived.Test.YtagkfkdoibnhfaaDoorZB2
import Derived.Test.YtagkfkdoibnhfaaDoorZB4
set_option linter.all false
section
set_option linter.unusedVariables false
set_option linter.unusedSimpArgs false
namespace Go.Proofs.YtagkfkdoibnhfaaDoorW.PrintWords
open Go.RowKit
section
variable {P : Program} {ops : Array Oper} {o : Oper} {a : Act} {Q : Exit → Act → World → Prop} {K : Act → World → Prop}
theorem step_append_cells {w0 W : World} (base : Nat) (hw : Region.wanted o (yielded ops a.tmps) = true) (s x : Operand) (t e : TypeId) (z : Value) (size bytes : Nat)
  (ho : o.op = .call { callee := .builtin .append, args := #[s, x], argTypes := #[t, t] })
  (ht : P.underlying t = some (.slice e)) (hinfo : (P.info? e).map (fun i => (i.zero, i.size, i.bytes)) = some (some z, size, bytes)) (hz : z.cells.size = size) (hs0 : 0 < size) (hb0 : 0 < bytes)
  (v : Value) (n : Nat) (xs ys : List Value) (hs : a.eval s = v) (hx : a.eval x = .slice (some ⟨W.heap.size, 0, none⟩) 1 1) (hys : ys.length = size) (h1 : ∀ u ∈ ys, u.oneCell' = true)
  (HO : W.ownsRow base e size v n xs) (HB : Below base w0 W) (hbase : base ≤ W.heap.size) (hl : (n + 1) * bytes ≤ 140737488355328)
  (h : ∀ v1 w1, w1.ownsRow base e size v1 (n + 1) (xs ++ ys) → Below base w0 w1 → W.grownBy w1 v.ownBlock → (v1.ownBlock = v.ownBlock ∨ ∃ b, v1.ownBlock = some b ∧ W.heap.size ≤ b) → K (a.put o.dst v1) w1) :
  if Region.wanted o (yielded ops a.tmps) = true then Oper.wp P o a (W.alloc (.cells ys.toArray e)) K Q else K (a.put o.dst undef) (W.alloc (.cells ys.toArray e)) := by
 obtain ⟨i0, hi, hzz⟩ := Option.map_eq_some_iff.1 hinfo
 simp only [Prod.mk.injEq] at hzz
 obtain ⟨hz0, hz1, hz2⟩ := hzz
 have hlen : n + 1 ≤ 140737488355328 := Nat.le_trans (Nat.le_mul_of_pos_right _ hb0) hl
 rw [if_pos hw]
 obtain ⟨v1, w1, hr, hown, hg, _, hat⟩ := run_append_own_at (P := P) (W.alloc (.cells ys.toArray e)) base t o.type e i0 z size bytes ht hi hz0 hz1 hz2 hz hs0 v n xs (HO.alloc _) ⟨W.heap.size, 0, none⟩ 1 1 ys (by rw [hys]; simp)
  (by simpa using World.news_of_block (cs := ys.toArray) (t := e) (fr := (0, 0)) (heap_alloc_new W (.cells ys.toArray e))) h1 (by simp only [maxLen]; omega) hl (by simp; omega)
 unfold Oper.wp execOp
 simp only [ho, resolve, invoke, builtin, Sem.run_bind, Sem.run_pure, Result.andThen_ok, List.map_toArray, List.map_cons, List.map_nil, hs, hx, hr]
 refine h v1 w1 hown ((HB.alloc hbase _).grown hg (by simp; omega) (own_base HO)) (World.grownBy.trans (World.grownBy_alloc W _ _) hg) ?_
 rcases hat with hat | hat
 ·exact .inl hat
 ·exact .inr ⟨_, hat, by simp⟩
end
namespace Kd
section
variable {P : Program} {ops : Array Oper} {o : Oper} {a : Act} {Q : Exit → Act → World → Prop} {Kc : Act → World → Prop} {α : Type}
theorem R_append_step (d : Kd α) {w0 W : World} (base : Nat) (hw : Region.wanted o (yielded ops a.tmps) = true) (s x : Operand) (t e : TypeId) (z : Value) (bytes : Nat)
  (ho : o.op = .call { callee := .builtin .append, args := #[s, x], argTypes := #[t, t] })
  (ht : P.underlying t = some (.slice e)) (hinfo : (P.info? e).map (fun i => (i.zero, i.size, i.bytes)) = some (some z, d.sz, bytes)) (hz : z.cells.size = d.sz) (hs0 : 0 < d.sz) (hb0 : 0 < bytes)
  (v : Value) (xs : List α) (p : α) (cs : List Value) (ok okp : Nat → Prop) (hs : a.eval s = v) (hx : a.eval x = .slice (some ⟨W.heap.size, 0, none⟩) 1 1) (hp : d.M W base okp p cs) (hokp : ∀ k, okp k → ok k ∧ some k ≠ v.ownBlock) (hfresh : ∀ k, W.heap.size ≤ k → ok k)
  (HO : d.R e W base ok v xs) (HB : Below base w0 W) (hbase : base ≤ W.heap.size) (hl : (xs.length + 1) * bytes ≤ 140737488355328)
  (h : ∀ v1 w1, d.R e w1 base ok v1 (xs ++ [p]) → Below base w0 w1 → W.grownBy w1 v.ownBlock → (v1.ownBlock = v.ownBlock ∨ ∃ b, v1.ownBlock = some b ∧ W.heap.size ≤ b) → Kc (a.put o.dst v1) w1) :
  if Region.wanted o (yielded ops a.tmps) = true then Oper.wp P o a (W.alloc (.cells cs.toArray e)) Kc Q else Kc (a.put o.dst undef) (W.alloc (.cells cs.toArray e)) := by
 obtain ⟨h0, inner, hown, hr⟩ := HO
 refine step_append_cells base hw s x t e z d.sz bytes ho ht hinfo hz hs0 hb0 v xs.length inner cs hs hx (d.K_len (d.K_of_M hp)) (d.K_one (d.K_of_M hp)) hown HB hbase hl ?_
 intro v1 w1 hown1 hb1 hg1 hat1
 exact h v1 w1 (R_appended h0 hr hp hokp hfresh hown1 hg1 hat1) hb1 hg1 hat1
end
end Kd
end Go.Proofs.YtagkfkdoibnhfaaDoorW.PrintWords
end
section
namespace Go.Proofs.YtagkfkdoibnhfaaDoorW.PrintWords
open Go.RowKit
namespace Kd
section
variable {α β : Type} {d : Kd α} {e base n n' cc g N : Nat} {ok ok' okp S : Nat → Prop} {w w0 w1 W W1 : World} {A A' : Option Addr} {u v v1 : Value} {xs : List α} {xs' : List β} {d' : Kd β} {x : α} {c : List Value}
theorem F_bound (h : F d W ok A n xs) : F d W (fun k => ok k ∧ k < W.heap.size) A n xs := Foot.bound h
theorem F_far (h : F d W ok A n xs) {p : Addr} (hok : ∀ k, ok k → k ≠ p.block) (u : Value) : F d (W.setCell p u) ok A n xs := F_step h (fun k hk _ => Below.heap_setCell W p u k (hok k hk))
theorem F_elderB (h : F d W ok A n xs) (a : Nat) (ha : W.heap.size ≤ a) : F d W (fun k => ok k ∧ k ≠ a) A n xs := F_mono (F_bound h) (fun k hk => ⟨hk.1, by have := hk.2; omega⟩)
end
end Kd
end Go.Proofs.YtagkfkdoibnhfaaDoorW.PrintWords
end
section
namespace Go.Proofs.YtagkfkdoibnhfaaDoorW.PrintWords
open Go.RowKit
namespace Kd
section
variable {α : Type} {d : Kd α} {e base n cc g : Nat} {ok ok' okp S : Nat → Prop} {w w1 W W1 : World} {A : Option Addr} {u v v1 : Value} {xs : List α} {x : α} {c : List Value}
theorem N_base (h : N d e w base ok v xs) : ∀ k, v.ownBlock = some k → base ≤ k := by
 obtain ⟨_, rows, _, hR, _⟩ := h
 exact R_base hR
end
end Kd
end Go.Proofs.YtagkfkdoibnhfaaDoorW.PrintWords
end
section
namespace Go.Proofs.YtagkfkdoibnhfaaDoorW.PrintWords
open Go.RowKit
def mx (a b : Int) : Int := if a < b then b else a
end Go.Proofs.YtagkfkdoibnhfaaDoorW.PrintWords
namespace Go.Proofs.YtagkfkdoibnhfaaDoorW.PrintWords
open Go.RowKit
namespace Kd
section
variable {α β : Type} {d : Kd α} {e base base' n m c g N' lo hi : Nat} {ok ok' S : Nat → Prop} {w W w1 : World} {A : Option Addr} {ad : Addr} {u v v1 : Value} {xs : List α}
theorem V_F (h : V d e W base ok (.slice A n c) xs) : F d W ok A n xs := by
 obtain ⟨hn, _, hf⟩ := V_at h
 rw [hn]
 exact hf
theorem V_far (h : V d e W base ok v xs) {p : Addr} (hok : ∀ k, ok k → k ≠ p.block) (u : Value) : V d e (W.setCell p u) base ok v xs := V_map h (fun _ hf => F_far hf hok u)
theorem V_elderB (h : V d e W base ok v xs) (a : Nat) (ha : W.heap.size ≤ a) : V d e W base (fun k => ok k ∧ k ≠ a) v xs := V_map h (fun _ hf => F_elderB hf a ha)
end
end Kd
end Go.Proofs.YtagkfkdoibnhfaaDoorW.PrintWords
end
section
namespace Go.Proofs.YtagkfkdoibnhfaaDoor.K
open Go.ChangeShapes Go.WideShapes Go.ChangeAt Go.RowKit Go.Proofs.YtagkfkdoibnhfaaDoorW.PrintWords Go.Proofs.YtagkfkdoibnhfaaDoor.H
section
variable {H : Type} {enc : TypeId × Value → H} {w : World} {base : Nat} {spare : Nat → Bool} {held : Bool} {r : Reach} {b0 : Nat} {v : Value} {y : DataW H} {p : List MemPlace}
theorem okWide_array {P : Program} {t e : TypeId} {n : Nat} (ht : P.underlying t = some (.array n e)) (h : Value.okWide P w r b0 t v) : ∃ cs, v = .agg cs ∧ cs.size = P.cellsOf t := by
 unfold Value.okWide at h
 rw [ht] at h
 obtain ⟨cs, rfl, hs, _⟩ := h
 exact ⟨cs, rfl, hs⟩
set_option maxRecDepth 100000 in
theorem ints_of_array {t : TypeId} {n : Nat} (ht : Tryd.prog.underlying t = some (.array n 3)) (hc : Tryd.prog.cellsOf t = n) (hv : Value.okWide Tryd.prog w r b0 t v) (h : DataW.Trod enc Tryd.prog w base spare held t v y p) :
  ∃ cs : Array Value, v = .agg cs ∧ cs.size = n ∧ ∀ i (hi : i < cs.size), ∃ x, cs[i] = .int .i64 x ∧ I64 x := by
 obtain ⟨cs, rfl, hs⟩ := okWide_array ht hv
 obtain ⟨fuel, hf⟩ := h
 obtain ⟨xs, m, rfl, _, hl, hn, he⟩ := DataW.trod_array ht hf
 have hc3 : Tryd.prog.cellsOf 3 = 1 := by kernel_rfl
 refine ⟨cs, rfl, by omega, fun i hi => ?_⟩
 have hi2 : i < n := by omega
 have h1 := he i hi2
 rw [List.getElem?_eq_getElem (by omega), hc3, Nat.mul_one] at h1
 obtain ⟨x, hK, hx⟩ := opens3 H enc w base spare held m _ _ h1
 refine ⟨x, ?_, hx⟩
 have hcells : (Value.agg cs).cells.toList = cs.toList := by rfl
 rw [hcells] at hK
 have hg : (cs.toList.drop i).take 1 = [cs[i]] := by
  rw [List.drop_eq_getElem_cons (by simpa using hi)]
  simp
 rw [hg] at hK
 have e : [cs[i]] = [Value.int .i64 x] := hK
 injection e
set_option maxRecDepth 100000 in
theorem arg_two (hv : Value.okWide Tryd.prog w r b0 61 v) (h : DataW.Trod enc Tryd.prog w base spare held 61 v y p) :
  ∃ x0 x1 : Int, v = .agg #[.int .i64 x0, .int .i64 x1] ∧ I64 x0 ∧ I64 x1 := by
 obtain ⟨cs, rfl, hs, hx⟩ := ints_of_array (n := 2) Tryd.underlying61 zk hv h
 obtain ⟨x0, e0, h0⟩ := hx 0 (by omega)
 obtain ⟨x1, e1, h1⟩ := hx 1 (by omega)
 refine ⟨x0, x1, ?_, h0, h1⟩
 congr 1
 apply Array.ext (by simpa using hs)
 intro i hi _
 obtain rfl | rfl : i = 0 ∨ i = 1 := by omega
 ·simpa using e0
 ·simpa using e1
end
end Go.Proofs.YtagkfkdoibnhfaaDoor.K
end
section
namespace Go.Proofs.YtagkfkdoibnhfaaDoor.H
open Go.RowKit Go.Proofs.YtagkfkdoibnhfaaDoorW.PrintWords Go.Proofs.YtagkfkdoibnhfaaDoorW.PrintLast Go.Proofs.YtagkfkdoibnhfaaDoorW.PrintMore
set_option linter.unusedVariables false
set_option linter.unusedSimpArgs false
def saronref00_Nth.f (l0 : List Int) (a1 : Int) : Option (Int) := if (l0.length : Int) = 0 then (some 0) else ((saronref00_Turn.f a1 (l0.length : Int)).bind fun t476 => (if 0 ≤ t476 then (if t476 < (l0.length : Int) then (some (rd l0 t476)) else (none)) else (none)))
set_option maxHeartbeats 8000000 in
set_option maxRecDepth 100000 in
theorem saronref00_Nth.calls (A0 : Option Addr) (c0 : Nat) (l0 : List Int) (a1 : Int) (r : Int) (w : World) (hr0 : Kd.C (Kd.int .i64) w A0 l0.length l0) (hc0 : l0.length ≤ c0) (h : saronref00_Nth.f l0 a1 = some r) :
  Calls Tryd.prog 47 #[.slice A0 l0.length c0, .int .i64 a1] w fun e w' => e = .returned (.int .i64 r) ∧ Drawn0 w w' := by
 have HR0 := zh hr0
 have HC0 := zh hc0
 clear hr0 hc0
 have H : (if (l0.length : Int) = 0 then (some 0) else ((saronref00_Turn.f a1 (l0.length : Int)).bind fun t476 => (if 0 ≤ t476 then (if t476 < (l0.length : Int) then (some (rd l0 t476)) else (none)) else (none)))) = some r := h
 clear h
 by_cases c3 : (l0.length : Int) = 0
 ·rw [if_pos c3] at H
  have c3b0 : ((l0.length : Int) == 0) = true := beq_iff_eq.mpr c3
  have c3b1 : ((l0.length : Int) != 0) = false := bne_eq_false_iff_eq.mpr c3
  clear c3
  obtain rfl := Option.some.inj H
  go_enter Tryd.func47, Tryd.ntmps47
  go_wp2
  go_ret
  exact ⟨ze, by repeat (first | exact Drawn0.refl _ | apply Drawn0.step)⟩
 ·rw [if_neg c3] at H
  have c3b0 : ((l0.length : Int) == 0) = false := beq_eq_false_iff_ne.mpr c3
  have c3b1 : ((l0.length : Int) != 0) = true := bne_iff_ne.mpr c3
  have c3b2 : ¬ (l0 = []) := fun h_ => c3 (by rw [h_]; rfl)
  replace H := Option.bind_eq_some_iff.mp H
  obtain ⟨t476, A40, H⟩ := H
  replace H : (if 0 ≤ t476 then (if t476 < (l0.length : Int) then (some (rd l0 t476)) else (none)) else (none)) = some r := H
  have A4 := zh A40
  clear A40
  by_cases c5 : 0 ≤ t476
  ·rw [if_pos c5] at H
   have c5b0 : decide (0 ≤ t476) = true := decide_eq_true c5
   clear c5
   by_cases c6 : t476 < (l0.length : Int)
   ·rw [if_pos c6] at H
    have c6b0 : decide (t476 < (l0.length : Int)) = true := decide_eq_true c6
    clear c6
    obtain rfl := Option.some.inj H
    go_enter Tryd.func47, Tryd.ntmps47
    go_wp2_with (first | ((with_reducible refine gate_callee (f := 42) rfl ?_); refine goesL_ (some 12) rfl rfl Tryd.func42 zk rfl #[.int .i64 a1, .int .i64 (l0.length : Int)] rfl zm ?_; (with_reducible refine (saronref00_Turn.calls a1 (l0.length : Int) t476 _ A4.out).mono ?_); rintro e w' ⟨rfl, ⟨nd, rfl⟩⟩; refine ⟨_, rfl, ?_⟩; have p477 : 0 ≤ (t476 : Int) := of_decide_eq_true zs; have q477 : t476 < (l0.length : Int) := of_decide_eq_true zs; obtain ⟨ad477, e477, hx477_0⟩ := Kd.at_int HR0.out t476 p477 q477; cases e477; replace p477 := eq_true p477; replace q477 := eq_true q477))
    go_ret
    exact ⟨ze, by repeat (first | exact Drawn0.refl _ | apply Drawn0.step)⟩
   ·rw [if_neg c6] at H
    exact absurd H (by simp)
  ·rw [if_neg c5] at H
   exact absurd H (by simp)
end Go.Proofs.YtagkfkdoibnhfaaDoor.H
end
section
namespace Go.Proofs.YtagkfkdoibnhfaaDoor.H
open Go.RowKit Go.Proofs.YtagkfkdoibnhfaaDoorW.PrintWords Go.Proofs.YtagkfkdoibnhfaaDoorW.PrintLast Go.Proofs.YtagkfkdoibnhfaaDoorW.PrintMore
attribute [local go_sem] max2_int min2_int max_two min_two max_three min_three max_four min_four   -- for this text's walks alone
set_option linter.unusedVariables false
set_option linter.unusedSimpArgs false
end Go.Proofs.YtagkfkdoibnhfaaDoor.H
end
section
namespace Go.Proofs.YtagkfkdoibnhfaaDoor.H
open Go.RowKit Go.Proofs.YtagkfkdoibnhfaaDoorW.PrintWords Go.Proofs.YtagkfkdoibnhfaaDoorW.PrintLast Go.Proofs.YtagkfkdoibnhfaaDoorW.PrintMore
attribute [local go_sem] max2_int min2_int max_two min_two max_three min_three max_four min_four   -- for this text's walks alone
set_option linter.unusedVariables false
set_option linter.unusedSimpArgs false
end Go.Proofs.YtagkfkdoibnhfaaDoor.H
end
section
namespace Go.Proofs.YtagkfkdoibnhfaaDoor.K
open Go.RowKit Go.Proofs.YtagkfkdoibnhfaaDoor.H
theorem sits_f (a b c : Int) : saronref00_Sits.f a b c = some (decide (b ≤ a) && decide (a ≤ c)) := by
 unfold saronref00_Sits.f
 by_cases h : b ≤ a <;> simp [h]
theorem good_f (x y a b : Int) : saronref00_Good.f x y a b = some (decide (a ≤ x) && decide (x ≤ y) && decide (y ≤ b)) := by
 unfold saronref00_Good.f
 by_cases h : a ≤ x <;> by_cases h' : x ≤ y <;> simp [h, h']
end Go.Proofs.YtagkfkdoibnhfaaDoor.K
end
section
namespace Go.Proofs.YtagkfkdoibnhfaaDoor.H
open Go.RowKit Go.Proofs.YtagkfkdoibnhfaaDoorW.PrintWords Go.Proofs.YtagkfkdoibnhfaaDoorW.PrintLast Go.Proofs.YtagkfkdoibnhfaaDoorW.PrintMore
attribute [local go_sem] max2_int min2_int max_two min_two max_three min_three max_four min_four   -- for this text's walks alone
set_option linter.unusedVariables false
set_option linter.unusedSimpArgs false
end Go.Proofs.YtagkfkdoibnhfaaDoor.H
end
section
namespace Go.Proofs.YtagkfkdoibnhfaaDoor.H
open Go.RowKit Go.Proofs.YtagkfkdoibnhfaaDoorW.PrintWords Go.Proofs.YtagkfkdoibnhfaaDoorW.PrintLast Go.Proofs.YtagkfkdoibnhfaaDoorW.PrintMore
attribute [local go_sem] max2_int min2_int max_two min_two max_three min_three max_four min_four   -- for this text's walks alone
set_option linter.unusedVariables false
set_option linter.unusedSimpArgs false
end Go.Proofs.YtagkfkdoibnhfaaDoor.H
end
section
namespace Go.Proofs.YtagkfkdoibnhfaaDoor.H
open Go.RowKit Go.Proofs.YtagkfkdoibnhfaaDoorW.PrintWords Go.Proofs.YtagkfkdoibnhfaaDoorW.PrintLast Go.Proofs.YtagkfkdoibnhfaaDoorW.PrintMore
attribute [local go_sem] max2_int min2_int max_two min_two max_three min_three max_four min_four   -- for this text's walks alone
set_option linter.unusedVariables false
set_option linter.unusedSimpArgs false
end Go.Proofs.YtagkfkdoibnhfaaDoor.H
end
section
namespace Go.Proofs.YtagkfkdoibnhfaaDoor.H
open Go.RowKit Go.Proofs.YtagkfkdoibnhfaaDoorW.PrintWords Go.Proofs.YtagkfkdoibnhfaaDoorW.PrintLast Go.Proofs.YtagkfkdoibnhfaaDoorW.PrintMore
attribute [local go_sem] max2_int min2_int max_two min_two max_three min_three max_four min_four   -- for this text's walks alone
set_option linter.unusedVariables false
set_option linter.unusedSimpArgs false
end Go.Proofs.YtagkfkdoibnhfaaDoor.H
end
section
namespace Go.Proofs.YtagkfkdoibnhfaaDoor.K
open Go.RowKit Go.Proofs.YtagkfkdoibnhfaaDoorW.PrintWords Go.Proofs.YtagkfkdoibnhfaaDoor.H
theorem turn_f (a b : Int) (hb : 1 ≤ b) (hb' : b ≤ 1000) : saronref00_Turn.f a b = some (a % b) := by
 unfold saronref00_Turn.f
 rw [if_neg (by omega), if_neg (by omega)]
 have h := Int.tmod_eq_emod (a := a) (b := b)
 have h1 := Int.emod_nonneg a (by omega : b ≠ 0)
 have h2 := Int.emod_lt_of_pos a (by omega : 0 < b)
 have hn : (b.natAbs : Int) = b := by omega
 split at h
 ·rw [if_neg (by omega), h]; simp
 ·rw [if_pos (by omega), w64 (by omega) (by omega)]
  congr 1
  omega
end Go.Proofs.YtagkfkdoibnhfaaDoor.K
end
section
namespace Go.Proofs.YtagkfkdoibnhfaaDoor.K
open Go.RowKit Go.Proofs.YtagkfkdoibnhfaaDoorW.PrintWords Go.Proofs.YtagkfkdoibnhfaaDoor.H
theorem rd_nat (l : List Int) (i : Nat) (h : i < l.length) : rd l (i : Int) = l[i] := by
 unfold rd
 simp [h]
end Go.Proofs.YtagkfkdoibnhfaaDoor.K
end
section
namespace Go.Proofs.YtagkfkdoibnhfaaDoor.H
open Go.RowKit Go.Proofs.YtagkfkdoibnhfaaDoorW.PrintWords Go.Proofs.YtagkfkdoibnhfaaDoorW.PrintLast Go.Proofs.YtagkfkdoibnhfaaDoorW.PrintMore
attribute [local go_sem] max2_int min2_int max_two min_two max_three min_three max_four min_four   -- for this text's walks alone
set_option linter.unusedVariables false
set_option linter.unusedSimpArgs false
open Go.Proofs.YtagkfkdoibnhfaaDoor.K
end Go.Proofs.YtagkfkdoibnhfaaDoor.H
end
section
namespace Go.Proofs.YtagkfkdoibnhfaaDoor.H
open Go.RowKit Go.Proofs.YtagkfkdoibnhfaaDoorW.PrintWords Go.Proofs.YtagkfkdoibnhfaaDoorW.PrintLast Go.Proofs.YtagkfkdoibnhfaaDoorW.PrintMore
attribute [local go_sem] max2_int min2_int max_two min_two max_three min_three max_four min_four   -- for this text's walks alone
set_option linter.unusedVariables false
set_option linter.unusedSimpArgs false
end Go.Proofs.YtagkfkdoibnhfaaDoor.H
end
section
namespace Go.Proofs.YtagkfkdoibnhfaaDoor.H
open Go.RowKit Go.Proofs.YtagkfkdoibnhfaaDoorW.PrintWords Go.Proofs.YtagkfkdoibnhfaaDoorW.PrintLast Go.Proofs.YtagkfkdoibnhfaaDoorW.PrintMore
attribute [local go_sem] max2_int min2_int max_two min_two max_three min_three max_four min_four   -- for this text's walks alone
set_option linter.unusedVariables false
set_option linter.unusedSimpArgs false
end Go.Proofs.YtagkfkdoibnhfaaDoor.H
end
section
namespace Go.Proofs.YtagkfkdoibnhfaaDoor.H
open Go.RowKit Go.Proofs.YtagkfkdoibnhfaaDoorW.PrintWords Go.Proofs.YtagkfkdoibnhfaaDoorW.PrintLast Go.Proofs.YtagkfkdoibnhfaaDoorW.PrintMore
attribute [local go_sem] max2_int min2_int max_two min_two max_three min_three max_four min_four   -- for this text's walks alone
set_option linter.unusedVariables false
set_option linter.unusedSimpArgs false
end Go.Proofs.YtagkfkdoibnhfaaDoor.H
end
section
namespace Go.Proofs.YtagkfkdoibnhfaaDoor.H
open Go.RowKit Go.Proofs.YtagkfkdoibnhfaaDoorW.PrintWords Go.Proofs.YtagkfkdoibnhfaaDoorW.PrintLast Go.Proofs.YtagkfkdoibnhfaaDoorW.PrintMore
attribute [local go_sem] max2_int min2_int max_two min_two max_three min_three max_four min_four   -- for this text's walks alone
set_option linter.unusedVariables false
set_option linter.unusedSimpArgs false
end Go.Proofs.YtagkfkdoibnhfaaDoor.H
end
section
namespace Go.Proofs.YtagkfkdoibnhfaaDoor.H
open Go.RowKit Go.Proofs.YtagkfkdoibnhfaaDoorW.PrintWords Go.Proofs.YtagkfkdoibnhfaaDoorW.PrintLast Go.Proofs.YtagkfkdoibnhfaaDoorW.PrintMore
attribute [local go_sem] max2_int min2_int max_two min_two max_three min_three max_four min_four   -- for this text's walks alone
set_option linter.unusedVariables false
set_option linter.unusedSimpArgs false
end Go.Proofs.YtagkfkdoibnhfaaDoor.H
end
section
namespace Go.Proofs.YtagkfkdoibnhfaaDoor.H
open Go.RowKit Go.Proofs.YtagkfkdoibnhfaaDoorW.PrintWords Go.Proofs.YtagkfkdoibnhfaaDoorW.PrintLast Go.Proofs.YtagkfkdoibnhfaaDoorW.PrintMore
attribute [local go_sem] max2_int min2_int max_two min_two max_three min_three max_four min_four   -- for this text's walks alone
set_option linter.unusedVariables false
set_option linter.unusedSimpArgs false
end Go.Proofs.YtagkfkdoibnhfaaDoor.H
end
section
namespace Go.Proofs.YtagkfkdoibnhfaaDoor.K
open Go.RowKit Go.Proofs.YtagkfkdoibnhfaaDoorW.PrintWords Go.Proofs.YtagkfkdoibnhfaaDoorW.PrintMore Go.Proofs.YtagkfkdoibnhfaaDoor.H
theorem rd61 (l : List S61) (i : Nat) (h : i < l.length) : rd_T61 l (i : Int) = l[i] := by
 unfold rd_T61
 simp [h]
theorem up1 (i : Nat) (h : (i : Int) < 9223372036854775807) : wrap64 ((i : Int) + 1) = ((i + 1 : Nat) : Int) := by rw [w64 (by omega) (by omega)]; simp
end Go.Proofs.YtagkfkdoibnhfaaDoor.K
end
section
namespace Go.Proofs.YtagkfkdoibnhfaaDoor.H
open Go.RowKit Go.Proofs.YtagkfkdoibnhfaaDoorW.PrintWords Go.Proofs.YtagkfkdoibnhfaaDoorW.PrintLast Go.Proofs.YtagkfkdoibnhfaaDoorW.PrintMore
attribute [local go_sem] max2_int min2_int max_two min_two max_three min_three max_four min_four   -- for this text's walks alone
set_option linter.unusedVariables false
set_option linter.unusedSimpArgs false
end Go.Proofs.YtagkfkdoibnhfaaDoor.H
end
section
namespace Go.Proofs.YtagkfkdoibnhfaaDoor.H
open Go.RowKit Go.Proofs.YtagkfkdoibnhfaaDoorW.PrintWords Go.Proofs.YtagkfkdoibnhfaaDoorW.PrintLast Go.Proofs.YtagkfkdoibnhfaaDoorW.PrintMore
attribute [local go_sem] max2_int min2_int max_two min_two max_three min_three max_four min_four   -- for this text's walks alone
set_option linter.unusedVariables false
set_option linter.unusedSimpArgs false
end Go.Proofs.YtagkfkdoibnhfaaDoor.H
end
section
namespace Go.Proofs.YtagkfkdoibnhfaaDoor.H
open Go.RowKit Go.Proofs.YtagkfkdoibnhfaaDoorW.PrintWords Go.Proofs.YtagkfkdoibnhfaaDoorW.PrintLast Go.Proofs.YtagkfkdoibnhfaaDoorW.PrintMore
attribute [local go_sem] max2_int min2_int max_two min_two max_three min_three max_four min_four   -- for this text's walks alone
set_option linter.unusedVariables false
set_option linter.unusedSimpArgs false
end Go.Proofs.YtagkfkdoibnhfaaDoor.H
end
section
namespace Go.Proofs.YtagkfkdoibnhfaaDoor.K
open Go.RowKit Go.Proofs.YtagkfkdoibnhfaaDoorW.PrintWords Go.Proofs.YtagkfkdoibnhfaaDoorW.PrintMore Go.Proofs.YtagkfkdoibnhfaaDoor.H
theorem equal_l0_any (a b : List Int) (hl : a.length = b.length) (hm : a.length ≤ 9223372036854775807) (d : Nat) : ∀ (k i : Nat) (ok : Bool), a.length - i = d → i ≤ a.length → d + 1 ≤ k → saronref00_Equal.l0 k a b ok (i : Int) = some (ok && decide (a.drop i = b.drop i)) := by
 induction d with
 | zero =>
  intro k i ok hd hi hk
  obtain ⟨k, rfl⟩ : ∃ z, k = z + 1 := ⟨k - 1, by omega⟩
  obtain rfl : i = a.length := by omega
  have e : b.drop a.length = [] := List.drop_eq_nil_of_le (by omega)
  simp only [saronref00_Equal.l0]
  rw [List.drop_length, e]
  cases ok
  ·rfl
  ·rw [if_pos rfl, if_neg (by omega)]; rfl
 | succ d ih =>
  intro k i ok hd hi hk
  obtain ⟨k, rfl⟩ : ∃ z, k = z + 1 := ⟨k - 1, by omega⟩
  have hlt : i < a.length := by omega
  have hlt' : i < b.length := by omega
  simp only [saronref00_Equal.l0]
  cases ok
  ·rfl
  ·rw [if_pos rfl, if_pos (by omega), if_pos (by omega), if_pos (by omega), rd_nat a i hlt, rd_nat b i hlt', up1 i (by omega), ih k (i + 1) _ (by omega) (by omega) (by omega), List.drop_eq_getElem_cons hlt, List.drop_eq_getElem_cons hlt', Bool.true_and]
   rw [show decide (a[i] :: a.drop (i + 1) = b[i] :: b.drop (i + 1)) = (decide (a[i] = b[i]) && decide (a.drop (i + 1) = b.drop (i + 1))) from by simp only [List.cons.injEq, Bool.decide_and], beq_dec]
theorem equal_any (a b : List Int) (hm : a.length ≤ 9223372036854775807) (k : Nat) (hk : a.length + 1 ≤ k) : saronref00_Equal.f k a b = some (decide (a = b)) := by
 unfold saronref00_Equal.f
 by_cases hl : a.length = b.length
 ·have e : ((a.length : Int) == (b.length : Int)) = true := by rw [hl]; exact beq_self_eq_true _
  rw [e]
  have h := equal_l0_any a b hl hm a.length k 0 true (Nat.sub_zero _) (Nat.zero_le _) hk
  rw [List.drop_zero, List.drop_zero, Bool.true_and] at h
  exact h
 ·have e : ((a.length : Int) == (b.length : Int)) = false := beq_eq_false_iff_ne.2 (by omega)
  obtain ⟨k, rfl⟩ : ∃ z, k = z + 1 := ⟨k - 1, by omega⟩
  rw [e, decide_eq_false (fun h => hl (by rw [h]))]
  simp only [saronref00_Equal.l0]
  rfl
theorem twinsOf_cons (f : Int × Int → List Int) (met : List (Int × Int)) (p : Int × Int) (rest : List (Int × Int)) : twinsOf f met (p :: rest) = match met.find? fun q => f q == f p with
  | some q => some (q, p)
  | none => twinsOf f (met ++ [p]) rest := by
 conv => lhs; unfold twinsOf
 cases met.find? fun q => f q == f p <;> rfl
section
variable (T O L one other : Int) (m : Nat) (R : List S66) (hS : okScale T O L R = true) (h1 : 0 ≤ one) (h1' : one < R.length) (h2 : 0 ≤ other) (h2' : other < R.length) (hm : T * O = (m : Int)) (hm' : m ≤ 21)
include hS h1 h1' h2 h2' hm hm'
end
end Go.Proofs.YtagkfkdoibnhfaaDoor.K
end
section
namespace Go.Proofs.YtagkfkdoibnhfaaDoor.H
open Go.RowKit Go.Proofs.YtagkfkdoibnhfaaDoorW.PrintWords Go.Proofs.YtagkfkdoibnhfaaDoorW.PrintLast Go.Proofs.YtagkfkdoibnhfaaDoorW.PrintMore
attribute [local go_sem] max2_int min2_int max_two min_two max_three min_three max_four min_four   -- for this text's walks alone
set_option linter.unusedVariables false
set_option linter.unusedSimpArgs false
end Go.Proofs.YtagkfkdoibnhfaaDoor.H
end
section
namespace Go.Proofs.YtagkfkdoibnhfaaDoor.H
open Go.RowKit Go.Proofs.YtagkfkdoibnhfaaDoorW.PrintWords Go.Proofs.YtagkfkdoibnhfaaDoorW.PrintLast Go.Proofs.YtagkfkdoibnhfaaDoorW.PrintMore
attribute [local go_sem] max2_int min2_int max_two min_two max_three min_three max_four min_four   -- for this text's walks alone
set_option linter.unusedVariables false
set_option linter.unusedSimpArgs false
open Go.Proofs.YtagkfkdoibnhfaaDoor.K
end Go.Proofs.YtagkfkdoibnhfaaDoor.H
end
section
namespace Go.Proofs.YtagkfkdoibnhfaaDoor.K
open Go.RowKit Go.Proofs.YtagkfkdoibnhfaaDoorW.PrintWords Go.Proofs.YtagkfkdoibnhfaaDoorW.PrintMore Go.Proofs.YtagkfkdoibnhfaaDoor.H
def pr61 (p : Nat × Nat) : S61 := ⟨(p.1 : Int), (p.2 : Int)⟩
def alone (T O : Int) (R : List S66) (p : Nat × Nat) : Bool := (twins T O R (p.1 : Int) (p.2 : Int)).isNone
section
variable (T O L : Int) (m : Nat) (R : List S66) (hS : okScale T O L R = true) (hm : T * O = (m : Int)) (hm' : m ≤ 21)
include hS hm hm'
end
theorem irange_mem' {x lo hi : Int} (h : x ∈ irange lo hi) : lo ≤ x ∧ x ≤ hi := by
 unfold irange at h
 rw [List.mem_map] at h
 obtain ⟨i, hi, rfl⟩ := h
 rw [List.mem_range] at hi
 omega
theorem pairs_mem' {m : Int} {q : Int × Int} (h : q ∈ pairsOf m) : (0 ≤ q.1 ∧ q.1 ≤ m - 1) ∧ 0 ≤ q.2 ∧ q.2 ≤ m - 1 := by
 unfold pairsOf at h
 rw [List.mem_flatMap] at h
 obtain ⟨a, ha, h⟩ := h
 rw [List.mem_map] at h
 obtain ⟨b, hb, rfl⟩ := h
 exact ⟨irange_mem' ha, irange_mem' hb⟩
theorem Part_len' (T O L r : Int) (R : List S66) (l : List Int) : (Part T O L R l r).1.length ≤ 64 := by
 unfold Part
 split
 ·rename_i hS
  obtain ⟨t1, t2, t3, t4, t5, t6, t7, t8, t9, hok⟩ := okScale_regs hS
  split
  ·rename_i hP
   unfold okPart at hP
   simp only [Bool.and_eq_true, decide_eq_true_eq] at hP
   have := partOf_len T R r l
   have h := hP.1.1.1
   show (partOf T R r l).length ≤ 64
   omega
  ·simp
 ·simp
theorem twinsOf_some (f : Int × Int → List Int) : ∀ (rest met : List (Int × Int)) (q p : Int × Int), (met ++ rest).Nodup → twinsOf f met rest = some (q, p) → f q = f p ∧ q ≠ p ∧ q ∈ met ++ rest ∧ p ∈ met ++ rest
 | [], met, q, p, hn, h => by simp [twinsOf] at h
 | x :: rest, met, q, p, hn, h => by
  rw [twinsOf_cons] at h
  cases hf : met.find? fun q => f q == f x with
  | none =>
   rw [hf] at h
   have := twinsOf_some f rest (met ++ [x]) q p (by simpa using hn) h
   simpa using this
  | some y =>
   rw [hf] at h
   simp only [Option.some.injEq, Prod.mk.injEq] at h
   obtain ⟨rfl, rfl⟩ := h
   have hm1 := List.mem_of_find?_eq_some hf
   have hm2 := List.find?_some hf
   have hm3 : f y = f x := beq_iff_eq.1 hm2
   refine ⟨hm3, ?_, by simp [hm1], by simp⟩
   rintro rfl
   rw [List.nodup_append] at hn
   exact hn.2.2 _ hm1 _ (by simp) rfl
theorem times_cons (n : Nat) (p : Int × Int) : times (n + 1) p = p.1 :: p.2 :: times n p := by
 unfold times
 rw [List.range_succ_eq_map, List.flatMap_cons, List.flatMap_map]
 rfl
theorem times_length (n : Nat) (p : Int × Int) : (times n p).length = 2 * n := by
 induction n with
 | zero => rfl
 | succ n ih => rw [times_cons]; simp only [List.length_cons, ih]; omega
theorem times_mems (n : Nat) (p : Int × Int) (x : Int) (h : x ∈ times n p) : x = p.1 ∨ x = p.2 := by
 unfold times at h
 rw [List.mem_flatMap] at h
 obtain ⟨_, _, h⟩ := h
 simpa using h
end Go.Proofs.YtagkfkdoibnhfaaDoor.K
end
section
namespace Go.Proofs.YtagkfkdoibnhfaaDoor.H
open Go.RowKit Go.Proofs.YtagkfkdoibnhfaaDoorW.PrintWords Go.Proofs.YtagkfkdoibnhfaaDoorW.PrintLast Go.Proofs.YtagkfkdoibnhfaaDoorW.PrintMore
attribute [local go_sem] max2_int min2_int max_two min_two max_three min_three max_four min_four   -- for this text's walks alone
set_option linter.unusedVariables false
set_option linter.unusedSimpArgs false
mutual
def saronlaw06_sound.j0 : Nat → Bool → Int → Int → Int → List (S66) → Option (Bool)
 | 0, _, _, _, _, _ => none
 | k + 1, x3, x464000, x464001, x464002, x464003 => saronlaw06_sound.l0 k x3 0 x464000 x464001 x464002 x464003
def saronlaw06_sound.l0 : Nat → Bool → Int → Int → Int → Int → List (S66) → Option (Bool)
 | 0, _, _, _, _, _, _ => none
 | k + 1, x3, x4, x464000, x464001, x464002, x464003 => if x3 = true then (saronlaw06_sound.j2 k x3 x4 (decide (x4 < (x464003.length : Int))) x464000 x464001 x464002 x464003) else (saronlaw06_sound.j2 k x3 x4 false x464000 x464001 x464002 x464003)
def saronlaw06_sound.j2 : Nat → Bool → Int → Bool → Int → Int → Int → List (S66) → Option (Bool)
 | 0, _, _, _, _, _, _, _ => none
 | k + 1, x3, x4, x43, x464000, x464001, x464002, x464003 => if x43 = true then (if 0 ≤ x4 then (if x4 < (x464003.length : Int) then ((saronref00_Sits.f ((rd_T66 x464003 x4).f0) 0 4).bind fun t471 => (if t471 = true then ((saronref00_Band.f ((rd_T66 x464003 x4).f1) ((rd_T66 x464003 x4).f2)).bind fun bt472 => ((saronref00_Good.f bt472.1 bt472.2 0 (wrap64 ((wrap64 (x464000 * x464001)) - 1))).bind fun t474 => (if t474 = true then ((saronref00_Sits.f ((rd_T66 x464003 x4).f3) (-6) 6).bind fun t475 => (saronlaw06_sound.l0 k t475 (wrap64 (x4 + 1)) x464000 x464001 x464002 x464003)) else (saronlaw06_sound.l0 k false (wrap64 (x4 + 1)) x464000 x464001 x464002 x464003)))) else (saronlaw06_sound.l0 k false (wrap64 (x4 + 1)) x464000 x464001 x464002 x464003))) else (none)) else (none)) else (some x3)
end
def saronlaw06_sound.f (k : Nat) (a0_0 : Int) (a0_1 : Int) (a0_2 : Int) (l0_3 : List (S66)) : Option (Bool) := (kernel_Check.f k a0_0 a0_1 a0_2 l0_3).bind fun t464 => (if t464 = 0 then ((saronref00_Sits.f a0_0 2 7).bind fun t465 => (if t465 = true then ((saronref00_Sits.f a0_1 1 3).bind fun t466 => (if t466 = true then ((saronref00_Sits.f a0_2 2 16).bind fun t467 => (if t467 = true then (if (Int.tmod a0_2 2) = 0 then ((saronref00_Sits.f (l0_3.length : Int) 1 5).bind fun t468 => (saronlaw06_sound.j0 k t468 a0_0 a0_1 a0_2 l0_3)) else (saronlaw06_sound.j0 k false a0_0 a0_1 a0_2 l0_3)) else (saronlaw06_sound.j0 k false a0_0 a0_1 a0_2 l0_3))) else (saronlaw06_sound.j0 k false a0_0 a0_1 a0_2 l0_3))) else (saronlaw06_sound.j0 k false a0_0 a0_1 a0_2 l0_3))) else (saronlaw06_sound.j0 k false a0_0 a0_1 a0_2 l0_3))
def saronlaw06_sound.T6 : Bool × List (List Nat × List Nat) := (true, [([], []), ([0], [0]), ([1], [1]), ([2, 2], [2]), ([3], [3]), ([4, 3], [3, 4]), ([3], [3]), ([6, 3], [3, 6]), ([5, 7, 3, 3], [3, 5, 7]), ([3], [3]), ([9, 3], [3, 9]), ([3], [3]), ([11, 3], [3, 11]), ([10, 12, 3], [3, 10, 12]), ([13, 3], [3, 13]), ([8, 14, 8, 3], [3, 8, 14]), ([3, 15], [3, 15]), ([16, 15], [16]), ([17], [17]), ([18, 17], [17, 18]), ([19, 17, 17], [17, 19]), ([17, 20], [17, 20]), ([21, 20, 0, 1, 2, 3, 4, 5, 6, 7, 8, 9, 10, 11, 12, 13, 14, 15, 16, 17, 18, 19, 20, 21], [21])])
def saronlaw06_sound.B6 : List Nat := [0, 1, 3, 7, 15, 31, 15, 79, 255, 15, 527, 15, 2063, 7695, 15887, 32767, 65535, 131071, 262143, 524287, 1048575, 2097151, 4194303]
theorem saronlaw06_sound.tab6 : rtab .any (opsOf Tryd.f39 6) = saronlaw06_sound.T6 := by kernel_rfl
theorem saronlaw06_sound.bits6 : waitsOk saronlaw06_sound.T6.2 saronlaw06_sound.B6 = true := by kernel_rfl
set_option maxHeartbeats 8000000 in
set_option maxRecDepth 100000 in
theorem saronlaw06_sound.calls (k : Nat) (a0_0 : Int) (a0_1 : Int) (a0_2 : Int) (A0_3 : Option Addr) (c0_3 : Nat) (l0_3 : List (S66)) (r : Bool) (w : World) (hr0_3 : Kd.C k66 w A0_3 l0_3.length l0_3) (hc0_3 : l0_3.length ≤ c0_3) (h : saronlaw06_sound.f k a0_0 a0_1 a0_2 l0_3 = some r) :
  Calls Tryd.prog 39 #[.agg #[.int .i64 a0_0, .int .i64 a0_1, .int .i64 a0_2, .slice A0_3 l0_3.length c0_3]] w fun e w' => e = .returned (.bool r) ∧ Below w.heap.size w w' := by
 have hu24 := Tryd.underlying24
 have hu66 := Tryd.underlying66
 have HR0_3 := zh hr0_3
 have HC0_3 := zh hc0_3
 clear hr0_3 hc0_3
 have HB := zh (Below.refl w.heap.size w)
 have H : ((kernel_Check.f k a0_0 a0_1 a0_2 l0_3).bind fun t464 => (if t464 = 0 then ((saronref00_Sits.f a0_0 2 7).bind fun t465 => (if t465 = true then ((saronref00_Sits.f a0_1 1 3).bind fun t466 => (if t466 = true then ((saronref00_Sits.f a0_2 2 16).bind fun t467 => (if t467 = true then (if (Int.tmod a0_2 2) = 0 then ((saronref00_Sits.f (l0_3.length : Int) 1 5).bind fun t468 => (saronlaw06_sound.j0 k t468 a0_0 a0_1 a0_2 l0_3)) else (saronlaw06_sound.j0 k false a0_0 a0_1 a0_2 l0_3)) else (saronlaw06_sound.j0 k false a0_0 a0_1 a0_2 l0_3))) else (saronlaw06_sound.j0 k false a0_0 a0_1 a0_2 l0_3))) else (saronlaw06_sound.j0 k false a0_0 a0_1 a0_2 l0_3))) else (saronlaw06_sound.j0 k false a0_0 a0_1 a0_2 l0_3))) = some r := h
 clear h
 have HC2 := zh H
 clear H
 go_enter Tryd.func39, Tryd.ntmps39
 go_upto_region 1 with (first | ((with_reducible refine gate_dst (N := 1) rfl ?_); (try (refine gate_guard (by rfl) ?_; dsimp only)); refine box_event ?hg (N := 1) ?hd (cs := #[.int .i64 a0_0, .int .i64 a0_1, .int .i64 a0_2, .slice A0_3 l0_3.length c0_3]) (t := 24) ?hr ?_; (case hd => rfl); (case hg => rfl); (case hr => first | (go_simp; done) | (go_simp; rfl)); intro gb463 hg w3 hbox hb; have n0_ := zh (below_step zb hb); have n1_ := zh (hbox); have n2_ := zh ((by rw [hg]; exact (below_size zb) : w.heap.size ≤ gb463)); have n3_ := zh ((by rw [hg]; exact (below_size zb) : w.heap.size ≤ gb463)); clear HB; have HB := n0_; have BK463 := n1_; have GW463 := n2_; have GE463 := n3_; clear n0_ n1_ n2_ n3_; clear hb hbox hg))
 (try simp only [Act.put, List.setIfInBounds_toArray, List.set_cons_zero, List.set_cons_succ])
 go_cut [3] (fun v3 wc => ∃ (kq : Nat) (x3_1 : Bool), v3 = .bool x3_1 ∧ Aside0 (saronlaw06_sound.j0 kq x3_1 a0_0 a0_1 a0_2 l0_3 = some r) ∧ Aside0 (kq ≤ k) ∧ Aside0 (wc.heap[gb463]? = some (.cells #[.int .i64 a0_0, .int .i64 a0_1, .int .i64 a0_2, (.slice A0_3 l0_3.length c0_3)] 24 (0, 0))) ∧ Aside0 (Below w.heap.size w wc))
 case first =>
  have H := HC2.out
  clear HC2
  replace H := Option.bind_eq_some_iff.mp H
  obtain ⟨t464, A40, H⟩ := H
  replace H : (if t464 = 0 then ((saronref00_Sits.f a0_0 2 7).bind fun t465 => (if t465 = true then ((saronref00_Sits.f a0_1 1 3).bind fun t466 => (if t466 = true then ((saronref00_Sits.f a0_2 2 16).bind fun t467 => (if t467 = true then (if (Int.tmod a0_2 2) = 0 then ((saronref00_Sits.f (l0_3.length : Int) 1 5).bind fun t468 => (saronlaw06_sound.j0 k t468 a0_0 a0_1 a0_2 l0_3)) else (saronlaw06_sound.j0 k false a0_0 a0_1 a0_2 l0_3)) else (saronlaw06_sound.j0 k false a0_0 a0_1 a0_2 l0_3))) else (saronlaw06_sound.j0 k false a0_0 a0_1 a0_2 l0_3))) else (saronlaw06_sound.j0 k false a0_0 a0_1 a0_2 l0_3))) else (saronlaw06_sound.j0 k false a0_0 a0_1 a0_2 l0_3)) = some r := H
  have A4 := zh A40
  clear A40
  by_cases c5 : t464 = 0
  ·rw [if_pos c5] at H
   have c5b0 : (t464 == 0) = true := beq_iff_eq.mpr c5
   have c5b1 : (t464 != 0) = false := bne_eq_false_iff_eq.mpr c5
   clear c5
   (first | rw [c5b0] | (simp only [i64_w, i32_w]; rw [c5b0]) | skip)
   replace H := Option.bind_eq_some_iff.mp H
   obtain ⟨t465, A60, H⟩ := H
   replace H : (if t465 = true then ((saronref00_Sits.f a0_1 1 3).bind fun t466 => (if t466 = true then ((saronref00_Sits.f a0_2 2 16).bind fun t467 => (if t467 = true then (if (Int.tmod a0_2 2) = 0 then ((saronref00_Sits.f (l0_3.length : Int) 1 5).bind fun t468 => (saronlaw06_sound.j0 k t468 a0_0 a0_1 a0_2 l0_3)) else (saronlaw06_sound.j0 k false a0_0 a0_1 a0_2 l0_3)) else (saronlaw06_sound.j0 k false a0_0 a0_1 a0_2 l0_3))) else (saronlaw06_sound.j0 k false a0_0 a0_1 a0_2 l0_3))) else (saronlaw06_sound.j0 k false a0_0 a0_1 a0_2 l0_3)) = some r := H
   have A6 := zh A60
   clear A60
   by_cases c7 : t465 = true
   ·subst c7
    have H1 : ((saronref00_Sits.f a0_1 1 3).bind fun t466 => (if t466 = true then ((saronref00_Sits.f a0_2 2 16).bind fun t467 => (if t467 = true then (if (Int.tmod a0_2 2) = 0 then ((saronref00_Sits.f (l0_3.length : Int) 1 5).bind fun t468 => (saronlaw06_sound.j0 k t468 a0_0 a0_1 a0_2 l0_3)) else (saronlaw06_sound.j0 k false a0_0 a0_1 a0_2 l0_3)) else (saronlaw06_sound.j0 k false a0_0 a0_1 a0_2 l0_3))) else (saronlaw06_sound.j0 k false a0_0 a0_1 a0_2 l0_3))) = some r := by rw [if_pos rfl] at H; exact H
    clear H
    have H := H1
    clear H1
    replace H := Option.bind_eq_some_iff.mp H
    obtain ⟨t466, A80, H⟩ := H
    replace H : (if t466 = true then ((saronref00_Sits.f a0_2 2 16).bind fun t467 => (if t467 = true then (if (Int.tmod a0_2 2) = 0 then ((saronref00_Sits.f (l0_3.length : Int) 1 5).bind fun t468 => (saronlaw06_sound.j0 k t468 a0_0 a0_1 a0_2 l0_3)) else (saronlaw06_sound.j0 k false a0_0 a0_1 a0_2 l0_3)) else (saronlaw06_sound.j0 k false a0_0 a0_1 a0_2 l0_3))) else (saronlaw06_sound.j0 k false a0_0 a0_1 a0_2 l0_3)) = some r := H
    have A8 := zh A80
    clear A80
    by_cases c9 : t466 = true
    ·subst c9
     have H1 : ((saronref00_Sits.f a0_2 2 16).bind fun t467 => (if t467 = true then (if (Int.tmod a0_2 2) = 0 then ((saronref00_Sits.f (l0_3.length : Int) 1 5).bind fun t468 => (saronlaw06_sound.j0 k t468 a0_0 a0_1 a0_2 l0_3)) else (saronlaw06_sound.j0 k false a0_0 a0_1 a0_2 l0_3)) else (saronlaw06_sound.j0 k false a0_0 a0_1 a0_2 l0_3))) = some r := by rw [if_pos rfl] at H; exact H
     clear H
     have H := H1
     clear H1
     replace H := Option.bind_eq_some_iff.mp H
     obtain ⟨t467, A100, H⟩ := H
     replace H : (if t467 = true then (if (Int.tmod a0_2 2) = 0 then ((saronref00_Sits.f (l0_3.length : Int) 1 5).bind fun t468 => (saronlaw06_sound.j0 k t468 a0_0 a0_1 a0_2 l0_3)) else (saronlaw06_sound.j0 k false a0_0 a0_1 a0_2 l0_3)) else (saronlaw06_sound.j0 k false a0_0 a0_1 a0_2 l0_3)) = some r := H
     have A10 := zh A100
     clear A100
     by_cases c11 : t467 = true
     ·subst c11
      have H1 : (if (Int.tmod a0_2 2) = 0 then ((saronref00_Sits.f (l0_3.length : Int) 1 5).bind fun t468 => (saronlaw06_sound.j0 k t468 a0_0 a0_1 a0_2 l0_3)) else (saronlaw06_sound.j0 k false a0_0 a0_1 a0_2 l0_3)) = some r := by rw [if_pos rfl] at H; exact H
      clear H
      have H := H1
      clear H1
      by_cases c12 : (Int.tmod a0_2 2) = 0
      ·rw [if_pos c12] at H
       have c12b0 : ((Int.tmod a0_2 2) == 0) = true := beq_iff_eq.mpr c12
       have c12b1 : ((Int.tmod a0_2 2) != 0) = false := bne_eq_false_iff_eq.mpr c12
       clear c12
       replace H := Option.bind_eq_some_iff.mp H
       obtain ⟨t468, A130, H⟩ := H
       replace H : (saronlaw06_sound.j0 k t468 a0_0 a0_1 a0_2 l0_3) = some r := H
       have A13 := zh A130
       clear A130
       have H' := zh H
       clear H
       have hcz14_0 : w3.cell? ⟨gb463, 0, none⟩ = some (.int .i64 a0_0) := vb BK463 0
       have hcz14_1 : w3.cell? ⟨gb463, 1, none⟩ = some (.int .i64 a0_1) := vb BK463 1
       have hcz14_2 : w3.cell? ⟨gb463, 2, none⟩ = some (.int .i64 a0_2) := vb BK463 2
       have hcz14_3 : w3.cell? ⟨gb463, 3, none⟩ = some (.slice A0_3 l0_3.length c0_3) := vb BK463 3
       have hfz14_0 := blk_frozen BK463.out 0
       have hfz14_1 := blk_frozen BK463.out 1
       have hfz14_2 := blk_frozen BK463.out 2
       have hfz14_3 := blk_frozen BK463.out 3
       go_wp2_with (first | ((with_reducible refine gate_callee (f := 19) rfl ?_); refine goesL_ (some 7) rfl rfl Tryd.func19 zk rfl #[.agg #[.int .i64 a0_0, .int .i64 a0_1, .int .i64 a0_2, .slice A0_3 l0_3.length c0_3]] rfl zm ?_; (with_reducible refine (kernel_Check.calls k a0_0 a0_1 a0_2 _ _ l0_3 t464 _ ?side1 ?side2 A4.out).mono ?_); (case side1 => repeat (first | exact (Kd.C_below HR0_3.out HB.out) | (with_reducible refine Kd.C_alloc ?_ _) | (with_reducible refine Kd.C_drewN ?_ _) | (with_reducible refine Kd.C_drew ?_))); (case side2 => exact HC0_3.out); rintro e w15 ⟨rfl, hb⟩; refine ⟨_, rfl, ?_⟩; have n0_ := zh (blk_below (g := gb463) (o := .cells #[.int .i64 a0_0, .int .i64 a0_1, .int .i64 a0_2, .slice A0_3 l0_3.length c0_3] 24 (0, 0)) (zc BK463) hb); have n1_ := zh (below_step zb hb); clear BK463; clear HB; have BK463 := n0_; have HB := n1_; clear n0_ n1_; (try clear hb); (try clear hb2); (try clear hk); (try clear hi); have hcz16_0 : w15.cell? ⟨gb463, 0, none⟩ = some (.int .i64 a0_0) := vb BK463 0; have hcz16_1 : w15.cell? ⟨gb463, 1, none⟩ = some (.int .i64 a0_1) := vb BK463 1; have hcz16_2 : w15.cell? ⟨gb463, 2, none⟩ = some (.int .i64 a0_2) := vb BK463 2; have hcz16_3 : w15.cell? ⟨gb463, 3, none⟩ = some (.slice A0_3 l0_3.length c0_3) := vb BK463 3; have hfz16_0 := blk_frozen BK463.out 0; have hfz16_1 := blk_frozen BK463.out 1; have hfz16_2 := blk_frozen BK463.out 2; have hfz16_3 := blk_frozen BK463.out 3) | (go_at_call 45; (with_reducible refine (saronref00_Sits.calls a0_0 2 7 true _ A6.out).mono ?_); rintro e w' ⟨rfl, ⟨nd, rfl⟩⟩) | (go_at_call 45; (with_reducible refine (saronref00_Sits.calls a0_1 1 3 true _ A8.out).mono ?_); rintro e w' ⟨rfl, ⟨nd, rfl⟩⟩) | (go_at_call 45; (with_reducible refine (saronref00_Sits.calls a0_2 2 16 true _ A10.out).mono ?_); rintro e w' ⟨rfl, ⟨nd, rfl⟩⟩) | (go_at_call 45; (with_reducible refine (saronref00_Sits.calls (l0_3.length : Int) 1 5 t468 _ A13.out).mono ?_); rintro e w' ⟨rfl, ⟨nd, rfl⟩⟩))
       go_meet
       case rel => exact ⟨_, (t468), ze, H', ⟨zo1⟩, ⟨zc BK463⟩, ⟨zb⟩⟩
      ·rw [if_neg c12] at H
       have c12b0 : ((Int.tmod a0_2 2) == 0) = false := beq_eq_false_iff_ne.mpr c12
       have c12b1 : ((Int.tmod a0_2 2) != 0) = true := bne_iff_ne.mpr c12
       have H' := zh H
       clear H
       have hcz17_0 : w3.cell? ⟨gb463, 0, none⟩ = some (.int .i64 a0_0) := vb BK463 0
       have hcz17_1 : w3.cell? ⟨gb463, 1, none⟩ = some (.int .i64 a0_1) := vb BK463 1
       have hcz17_2 : w3.cell? ⟨gb463, 2, none⟩ = some (.int .i64 a0_2) := vb BK463 2
       have hcz17_3 : w3.cell? ⟨gb463, 3, none⟩ = some (.slice A0_3 l0_3.length c0_3) := vb BK463 3
       have hfz17_0 := blk_frozen BK463.out 0
       have hfz17_1 := blk_frozen BK463.out 1
       have hfz17_2 := blk_frozen BK463.out 2
       have hfz17_3 := blk_frozen BK463.out 3
       go_wp2_with (first | ((with_reducible refine gate_callee (f := 19) rfl ?_); refine goesL_ (some 7) rfl rfl Tryd.func19 zk rfl #[.agg #[.int .i64 a0_0, .int .i64 a0_1, .int .i64 a0_2, .slice A0_3 l0_3.length c0_3]] rfl zm ?_; (with_reducible refine (kernel_Check.calls k a0_0 a0_1 a0_2 _ _ l0_3 t464 _ ?side1 ?side2 A4.out).mono ?_); (case side1 => repeat (first | exact (Kd.C_below HR0_3.out HB.out) | (with_reducible refine Kd.C_alloc ?_ _) | (with_reducible refine Kd.C_drewN ?_ _) | (with_reducible refine Kd.C_drew ?_))); (case side2 => exact HC0_3.out); rintro e w18 ⟨rfl, hb⟩; refine ⟨_, rfl, ?_⟩; have n0_ := zh (blk_below (g := gb463) (o := .cells #[.int .i64 a0_0, .int .i64 a0_1, .int .i64 a0_2, .slice A0_3 l0_3.length c0_3] 24 (0, 0)) (zc BK463) hb); have n1_ := zh (below_step zb hb); clear BK463; clear HB; have BK463 := n0_; have HB := n1_; clear n0_ n1_; (try clear hb); (try clear hb2); (try clear hk); (try clear hi); have hcz19_0 : w18.cell? ⟨gb463, 0, none⟩ = some (.int .i64 a0_0) := vb BK463 0; have hcz19_1 : w18.cell? ⟨gb463, 1, none⟩ = some (.int .i64 a0_1) := vb BK463 1; have hcz19_2 : w18.cell? ⟨gb463, 2, none⟩ = some (.int .i64 a0_2) := vb BK463 2; have hcz19_3 : w18.cell? ⟨gb463, 3, none⟩ = some (.slice A0_3 l0_3.length c0_3) := vb BK463 3; have hfz19_0 := blk_frozen BK463.out 0; have hfz19_1 := blk_frozen BK463.out 1; have hfz19_2 := blk_frozen BK463.out 2; have hfz19_3 := blk_frozen BK463.out 3) | (go_at_call 45; (with_reducible refine (saronref00_Sits.calls a0_0 2 7 true _ A6.out).mono ?_); rintro e w' ⟨rfl, ⟨nd, rfl⟩⟩) | (go_at_call 45; (with_reducible refine (saronref00_Sits.calls a0_1 1 3 true _ A8.out).mono ?_); rintro e w' ⟨rfl, ⟨nd, rfl⟩⟩) | (go_at_call 45; (with_reducible refine (saronref00_Sits.calls a0_2 2 16 true _ A10.out).mono ?_); rintro e w' ⟨rfl, ⟨nd, rfl⟩⟩))
       go_meet
       case rel => exact ⟨_, (false), ze, H', ⟨zo1⟩, ⟨zc BK463⟩, ⟨zb⟩⟩
     ·replace c11 := Bool.eq_false_iff.mpr c11
      subst c11
      have H1 : (saronlaw06_sound.j0 k false a0_0 a0_1 a0_2 l0_3) = some r := by rw [if_neg (show ¬ (false = true) by decide)] at H; exact H
      clear H
      have H := H1
      clear H1
      have H' := zh H
      clear H
      have hcz20_0 : w3.cell? ⟨gb463, 0, none⟩ = some (.int .i64 a0_0) := vb BK463 0
      have hcz20_1 : w3.cell? ⟨gb463, 1, none⟩ = some (.int .i64 a0_1) := vb BK463 1
      have hcz20_2 : w3.cell? ⟨gb463, 2, none⟩ = some (.int .i64 a0_2) := vb BK463 2
      have hcz20_3 : w3.cell? ⟨gb463, 3, none⟩ = some (.slice A0_3 l0_3.length c0_3) := vb BK463 3
      have hfz20_0 := blk_frozen BK463.out 0
      have hfz20_1 := blk_frozen BK463.out 1
      have hfz20_2 := blk_frozen BK463.out 2
      have hfz20_3 := blk_frozen BK463.out 3
      go_wp2_with (first | ((with_reducible refine gate_callee (f := 19) rfl ?_); refine goesL_ (some 7) rfl rfl Tryd.func19 zk rfl #[.agg #[.int .i64 a0_0, .int .i64 a0_1, .int .i64 a0_2, .slice A0_3 l0_3.length c0_3]] rfl zm ?_; (with_reducible refine (kernel_Check.calls k a0_0 a0_1 a0_2 _ _ l0_3 t464 _ ?side1 ?side2 A4.out).mono ?_); (case side1 => repeat (first | exact (Kd.C_below HR0_3.out HB.out) | (with_reducible refine Kd.C_alloc ?_ _) | (with_reducible refine Kd.C_drewN ?_ _) | (with_reducible refine Kd.C_drew ?_))); (case side2 => exact HC0_3.out); rintro e w21 ⟨rfl, hb⟩; refine ⟨_, rfl, ?_⟩; have n0_ := zh (blk_below (g := gb463) (o := .cells #[.int .i64 a0_0, .int .i64 a0_1, .int .i64 a0_2, .slice A0_3 l0_3.length c0_3] 24 (0, 0)) (zc BK463) hb); have n1_ := zh (below_step zb hb); clear BK463; clear HB; have BK463 := n0_; have HB := n1_; clear n0_ n1_; (try clear hb); (try clear hb2); (try clear hk); (try clear hi); have hcz22_0 : w21.cell? ⟨gb463, 0, none⟩ = some (.int .i64 a0_0) := vb BK463 0; have hcz22_1 : w21.cell? ⟨gb463, 1, none⟩ = some (.int .i64 a0_1) := vb BK463 1; have hcz22_2 : w21.cell? ⟨gb463, 2, none⟩ = some (.int .i64 a0_2) := vb BK463 2; have hcz22_3 : w21.cell? ⟨gb463, 3, none⟩ = some (.slice A0_3 l0_3.length c0_3) := vb BK463 3; have hfz22_0 := blk_frozen BK463.out 0; have hfz22_1 := blk_frozen BK463.out 1; have hfz22_2 := blk_frozen BK463.out 2; have hfz22_3 := blk_frozen BK463.out 3) | (go_at_call 45; (with_reducible refine (saronref00_Sits.calls a0_0 2 7 true _ A6.out).mono ?_); rintro e w' ⟨rfl, ⟨nd, rfl⟩⟩) | (go_at_call 45; (with_reducible refine (saronref00_Sits.calls a0_1 1 3 true _ A8.out).mono ?_); rintro e w' ⟨rfl, ⟨nd, rfl⟩⟩) | (go_at_call 45; (with_reducible refine (saronref00_Sits.calls a0_2 2 16 false _ A10.out).mono ?_); rintro e w' ⟨rfl, ⟨nd, rfl⟩⟩))
      go_meet
      case rel => exact ⟨_, (false), ze, H', ⟨zo1⟩, ⟨zc BK463⟩, ⟨zb⟩⟩
    ·replace c9 := Bool.eq_false_iff.mpr c9
     subst c9
     have H1 : (saronlaw06_sound.j0 k false a0_0 a0_1 a0_2 l0_3) = some r := by rw [if_neg (show ¬ (false = true) by decide)] at H; exact H
     clear H
     have H := H1
     clear H1
     have H' := zh H
     clear H
     have hcz23_0 : w3.cell? ⟨gb463, 0, none⟩ = some (.int .i64 a0_0) := vb BK463 0
     have hcz23_1 : w3.cell? ⟨gb463, 1, none⟩ = some (.int .i64 a0_1) := vb BK463 1
     have hcz23_2 : w3.cell? ⟨gb463, 2, none⟩ = some (.int .i64 a0_2) := vb BK463 2
     have hcz23_3 : w3.cell? ⟨gb463, 3, none⟩ = some (.slice A0_3 l0_3.length c0_3) := vb BK463 3
     have hfz23_0 := blk_frozen BK463.out 0
     have hfz23_1 := blk_frozen BK463.out 1
     have hfz23_2 := blk_frozen BK463.out 2
     have hfz23_3 := blk_frozen BK463.out 3
     go_wp2_with (first | ((with_reducible refine gate_callee (f := 19) rfl ?_); refine goesL_ (some 7) rfl rfl Tryd.func19 zk rfl #[.agg #[.int .i64 a0_0, .int .i64 a0_1, .int .i64 a0_2, .slice A0_3 l0_3.length c0_3]] rfl zm ?_; (with_reducible refine (kernel_Check.calls k a0_0 a0_1 a0_2 _ _ l0_3 t464 _ ?side1 ?side2 A4.out).mono ?_); (case side1 => repeat (first | exact (Kd.C_below HR0_3.out HB.out) | (with_reducible refine Kd.C_alloc ?_ _) | (with_reducible refine Kd.C_drewN ?_ _) | (with_reducible refine Kd.C_drew ?_))); (case side2 => exact HC0_3.out); rintro e w24 ⟨rfl, hb⟩; refine ⟨_, rfl, ?_⟩; have n0_ := zh (blk_below (g := gb463) (o := .cells #[.int .i64 a0_0, .int .i64 a0_1, .int .i64 a0_2, .slice A0_3 l0_3.length c0_3] 24 (0, 0)) (zc BK463) hb); have n1_ := zh (below_step zb hb); clear BK463; clear HB; have BK463 := n0_; have HB := n1_; clear n0_ n1_; (try clear hb); (try clear hb2); (try clear hk); (try clear hi); have hcz25_0 : w24.cell? ⟨gb463, 0, none⟩ = some (.int .i64 a0_0) := vb BK463 0; have hcz25_1 : w24.cell? ⟨gb463, 1, none⟩ = some (.int .i64 a0_1) := vb BK463 1; have hcz25_2 : w24.cell? ⟨gb463, 2, none⟩ = some (.int .i64 a0_2) := vb BK463 2; have hcz25_3 : w24.cell? ⟨gb463, 3, none⟩ = some (.slice A0_3 l0_3.length c0_3) := vb BK463 3; have hfz25_0 := blk_frozen BK463.out 0; have hfz25_1 := blk_frozen BK463.out 1; have hfz25_2 := blk_frozen BK463.out 2; have hfz25_3 := blk_frozen BK463.out 3) | (go_at_call 45; (with_reducible refine (saronref00_Sits.calls a0_0 2 7 true _ A6.out).mono ?_); rintro e w' ⟨rfl, ⟨nd, rfl⟩⟩) | (go_at_call 45; (with_reducible refine (saronref00_Sits.calls a0_1 1 3 false _ A8.out).mono ?_); rintro e w' ⟨rfl, ⟨nd, rfl⟩⟩))
     go_meet
     case rel => exact ⟨_, (false), ze, H', ⟨zo1⟩, ⟨zc BK463⟩, ⟨zb⟩⟩
   ·replace c7 := Bool.eq_false_iff.mpr c7
    subst c7
    have H1 : (saronlaw06_sound.j0 k false a0_0 a0_1 a0_2 l0_3) = some r := by rw [if_neg (show ¬ (false = true) by decide)] at H; exact H
    clear H
    have H := H1
    clear H1
    have H' := zh H
    clear H
    have hcz26_0 : w3.cell? ⟨gb463, 0, none⟩ = some (.int .i64 a0_0) := vb BK463 0
    have hcz26_1 : w3.cell? ⟨gb463, 1, none⟩ = some (.int .i64 a0_1) := vb BK463 1
    have hcz26_2 : w3.cell? ⟨gb463, 2, none⟩ = some (.int .i64 a0_2) := vb BK463 2
    have hcz26_3 : w3.cell? ⟨gb463, 3, none⟩ = some (.slice A0_3 l0_3.length c0_3) := vb BK463 3
    have hfz26_0 := blk_frozen BK463.out 0
    have hfz26_1 := blk_frozen BK463.out 1
    have hfz26_2 := blk_frozen BK463.out 2
    have hfz26_3 := blk_frozen BK463.out 3
    go_wp2_with (first | ((with_reducible refine gate_callee (f := 19) rfl ?_); refine goesL_ (some 7) rfl rfl Tryd.func19 zk rfl #[.agg #[.int .i64 a0_0, .int .i64 a0_1, .int .i64 a0_2, .slice A0_3 l0_3.length c0_3]] rfl zm ?_; (with_reducible refine (kernel_Check.calls k a0_0 a0_1 a0_2 _ _ l0_3 t464 _ ?side1 ?side2 A4.out).mono ?_); (case side1 => repeat (first | exact (Kd.C_below HR0_3.out HB.out) | (with_reducible refine Kd.C_alloc ?_ _) | (with_reducible refine Kd.C_drewN ?_ _) | (with_reducible refine Kd.C_drew ?_))); (case side2 => exact HC0_3.out); rintro e w27 ⟨rfl, hb⟩; refine ⟨_, rfl, ?_⟩; have n0_ := zh (blk_below (g := gb463) (o := .cells #[.int .i64 a0_0, .int .i64 a0_1, .int .i64 a0_2, .slice A0_3 l0_3.length c0_3] 24 (0, 0)) (zc BK463) hb); have n1_ := zh (below_step zb hb); clear BK463; clear HB; have BK463 := n0_; have HB := n1_; clear n0_ n1_; (try clear hb); (try clear hb2); (try clear hk); (try clear hi); have hcz28_0 : w27.cell? ⟨gb463, 0, none⟩ = some (.int .i64 a0_0) := vb BK463 0; have hcz28_1 : w27.cell? ⟨gb463, 1, none⟩ = some (.int .i64 a0_1) := vb BK463 1; have hcz28_2 : w27.cell? ⟨gb463, 2, none⟩ = some (.int .i64 a0_2) := vb BK463 2; have hcz28_3 : w27.cell? ⟨gb463, 3, none⟩ = some (.slice A0_3 l0_3.length c0_3) := vb BK463 3; have hfz28_0 := blk_frozen BK463.out 0; have hfz28_1 := blk_frozen BK463.out 1; have hfz28_2 := blk_frozen BK463.out 2; have hfz28_3 := blk_frozen BK463.out 3) | (go_at_call 45; (with_reducible refine (saronref00_Sits.calls a0_0 2 7 false _ A6.out).mono ?_); rintro e w' ⟨rfl, ⟨nd, rfl⟩⟩))
    go_meet
    case rel => exact ⟨_, (false), ze, H', ⟨zo1⟩, ⟨zc BK463⟩, ⟨zb⟩⟩
  ·rw [if_neg c5] at H
   have c5b0 : (t464 == 0) = false := beq_eq_false_iff_ne.mpr c5
   have c5b1 : (t464 != 0) = true := bne_iff_ne.mpr c5
   (first | rw [c5b0] | (simp only [i64_w, i32_w]; rw [c5b0]) | skip)
   have H' := zh H
   clear H
   have hcz29_0 : w3.cell? ⟨gb463, 0, none⟩ = some (.int .i64 a0_0) := vb BK463 0
   have hcz29_1 : w3.cell? ⟨gb463, 1, none⟩ = some (.int .i64 a0_1) := vb BK463 1
   have hcz29_2 : w3.cell? ⟨gb463, 2, none⟩ = some (.int .i64 a0_2) := vb BK463 2
   have hcz29_3 : w3.cell? ⟨gb463, 3, none⟩ = some (.slice A0_3 l0_3.length c0_3) := vb BK463 3
   have hfz29_0 := blk_frozen BK463.out 0
   have hfz29_1 := blk_frozen BK463.out 1
   have hfz29_2 := blk_frozen BK463.out 2
   have hfz29_3 := blk_frozen BK463.out 3
   go_wp2_with (first | ((with_reducible refine gate_callee (f := 19) rfl ?_); refine goesL_ (some 7) rfl rfl Tryd.func19 zk rfl #[.agg #[.int .i64 a0_0, .int .i64 a0_1, .int .i64 a0_2, .slice A0_3 l0_3.length c0_3]] rfl zm ?_; (with_reducible refine (kernel_Check.calls k a0_0 a0_1 a0_2 _ _ l0_3 t464 _ ?side1 ?side2 A4.out).mono ?_); (case side1 => repeat (first | exact (Kd.C_below HR0_3.out HB.out) | (with_reducible refine Kd.C_alloc ?_ _) | (with_reducible refine Kd.C_drewN ?_ _) | (with_reducible refine Kd.C_drew ?_))); (case side2 => exact HC0_3.out); rintro e w30 ⟨rfl, hb⟩; refine ⟨_, rfl, ?_⟩; have n0_ := zh (blk_below (g := gb463) (o := .cells #[.int .i64 a0_0, .int .i64 a0_1, .int .i64 a0_2, .slice A0_3 l0_3.length c0_3] 24 (0, 0)) (zc BK463) hb); have n1_ := zh (below_step zb hb); clear BK463; clear HB; have BK463 := n0_; have HB := n1_; clear n0_ n1_; (try clear hb); (try clear hb2); (try clear hk); (try clear hi)))
   go_meet
   case rel => exact ⟨_, (false), ze, H', ⟨zo1⟩, ⟨zc BK463⟩, ⟨zb⟩⟩
 case rest =>
  clear HC2
  try clear c1
  try clear p2
  try clear c3
  try clear c5
  try clear c5b0
  try clear c5b1
  try clear c7
  try clear c9
  try clear c11
  try clear c12
  try clear c12b0
  try clear c12b1
  try clear c19
  try clear hcz14_0
  try clear hcz14_1
  try clear hcz14_2
  try clear hcz14_3
  try clear hcz16_0
  try clear hcz16_1
  try clear hcz16_2
  try clear hcz16_3
  try clear hcz17_0
  try clear hcz17_1
  try clear hcz17_2
  try clear hcz17_3
  try clear hcz19_0
  try clear hcz19_1
  try clear hcz19_2
  try clear hcz19_3
  try clear hcz20_0
  try clear hcz20_1
  try clear hcz20_2
  try clear hcz20_3
  try clear hcz22_0
  try clear hcz22_1
  try clear hcz22_2
  try clear hcz22_3
  try clear hcz23_0
  try clear hcz23_1
  try clear hcz23_2
  try clear hcz23_3
  try clear hcz25_0
  try clear hcz25_1
  try clear hcz25_2
  try clear hcz25_3
  try clear hcz26_0
  try clear hcz26_1
  try clear hcz26_2
  try clear hcz26_3
  try clear hcz28_0
  try clear hcz28_1
  try clear hcz28_2
  try clear hcz28_3
  try clear hcz29_0
  try clear hcz29_1
  try clear hcz29_2
  try clear hcz29_3
  try clear hfz14_0
  try clear hfz14_1
  try clear hfz14_2
  try clear hfz14_3
  try clear hfz16_0
  try clear hfz16_1
  try clear hfz16_2
  try clear hfz16_3
  try clear hfz17_0
  try clear hfz17_1
  try clear hfz17_2
  try clear hfz17_3
  try clear hfz19_0
  try clear hfz19_1
  try clear hfz19_2
  try clear hfz19_3
  try clear hfz20_0
  try clear hfz20_1
  try clear hfz20_2
  try clear hfz20_3
  try clear hfz22_0
  try clear hfz22_1
  try clear hfz22_2
  try clear hfz22_3
  try clear hfz23_0
  try clear hfz23_1
  try clear hfz23_2
  try clear hfz23_3
  try clear hfz25_0
  try clear hfz25_1
  try clear hfz25_2
  try clear hfz25_3
  try clear hfz26_0
  try clear hfz26_1
  try clear hfz26_2
  try clear hfz26_3
  try clear hfz28_0
  try clear hfz28_1
  try clear hfz28_2
  try clear hfz28_3
  try clear hfz29_0
  try clear hfz29_1
  try clear hfz29_2
  try clear hfz29_3
  obtain ⟨kq, x3_1, rfl, HA, HJ1, BK463, HB⟩ := hcut
  cases kq with
  | zero => exact absurd HA.out (by simp [saronlaw06_sound.j0])
  | succ kj1 =>
   have H := HA.out
   clear HA
   simp only [saronlaw06_sound.j0] at H
   have H' := zh H
   clear H
   go_wp2
   go_loopg [3, 4] kj1 (fun kq v3 v4 w' => ∃ (x3_2 : Bool) (x4_2 : Int), v3 = .bool x3_2 ∧ v4 = .int .i64 x4_2 ∧ Aside0 (saronlaw06_sound.l0 kq x3_2 x4_2 a0_0 a0_1 a0_2 l0_3 = some r) ∧ Aside0 (kq ≤ kj1) ∧ Aside0 (w'.heap[gb463]? = some (.cells #[.int .i64 a0_0, .int .i64 a0_1, .int .i64 a0_2, (.slice A0_3 l0_3.length c0_3)] 24 (0, 0))) ∧ Aside0 (Below w.heap.size w w'))
   case atStart => exact ⟨(x3_1), (0), ze, ze, H', ⟨Nat.le_refl _⟩, ⟨zc BK463⟩, ⟨zb⟩⟩
   case round =>
    clear H'
    try clear c1
    try clear p2
    try clear c3
    try clear c5
    try clear c5b0
    try clear c5b1
    try clear c7
    try clear c9
    try clear c11
    try clear c12
    try clear c12b0
    try clear c12b1
    try clear c19
    try clear hcz14_0
    try clear hcz14_1
    try clear hcz14_2
    try clear hcz14_3
    try clear hcz16_0
    try clear hcz16_1
    try clear hcz16_2
    try clear hcz16_3
    try clear hcz17_0
    try clear hcz17_1
    try clear hcz17_2
    try clear hcz17_3
    try clear hcz19_0
    try clear hcz19_1
    try clear hcz19_2
    try clear hcz19_3
    try clear hcz20_0
    try clear hcz20_1
    try clear hcz20_2
    try clear hcz20_3
    try clear hcz22_0
    try clear hcz22_1
    try clear hcz22_2
    try clear hcz22_3
    try clear hcz23_0
    try clear hcz23_1
    try clear hcz23_2
    try clear hcz23_3
    try clear hcz25_0
    try clear hcz25_1
    try clear hcz25_2
    try clear hcz25_3
    try clear hcz26_0
    try clear hcz26_1
    try clear hcz26_2
    try clear hcz26_3
    try clear hcz28_0
    try clear hcz28_1
    try clear hcz28_2
    try clear hcz28_3
    try clear hcz29_0
    try clear hcz29_1
    try clear hcz29_2
    try clear hcz29_3
    try clear hfz14_0
    try clear hfz14_1
    try clear hfz14_2
    try clear hfz14_3
    try clear hfz16_0
    try clear hfz16_1
    try clear hfz16_2
    try clear hfz16_3
    try clear hfz17_0
    try clear hfz17_1
    try clear hfz17_2
    try clear hfz17_3
    try clear hfz19_0
    try clear hfz19_1
    try clear hfz19_2
    try clear hfz19_3
    try clear hfz20_0
    try clear hfz20_1
    try clear hfz20_2
    try clear hfz20_3
    try clear hfz22_0
    try clear hfz22_1
    try clear hfz22_2
    try clear hfz22_3
    try clear hfz23_0
    try clear hfz23_1
    try clear hfz23_2
    try clear hfz23_3
    try clear hfz25_0
    try clear hfz25_1
    try clear hfz25_2
    try clear hfz25_3
    try clear hfz26_0
    try clear hfz26_1
    try clear hfz26_2
    try clear hfz26_3
    try clear hfz28_0
    try clear hfz28_1
    try clear hfz28_2
    try clear hfz28_3
    try clear hfz29_0
    try clear hfz29_1
    try clear hfz29_2
    try clear hfz29_3
    try clear p2
    obtain ⟨x3_2, x4_2, rfl, rfl, HA, HK2, BK463, HB⟩ := hrel
    cases gk with
    | zero => exact absurd HA.out (by simp [saronlaw06_sound.l0])
    | succ k2 =>
     have H := HA.out
     clear HA
     simp only [saronlaw06_sound.l0] at H
     have HC31 := zh H
     clear H
     go_upto_region 3 with (fail)
     go_cut [43] (fun v43 wc => ∃ (kq : Nat) (x43_30 : Bool), v43 = .bool x43_30 ∧ Aside0 (saronlaw06_sound.j2 kq x3_2 x4_2 x43_30 a0_0 a0_1 a0_2 l0_3 = some r) ∧ Aside0 (kq ≤ k2) ∧ Aside0 (wc.heap[gb463]? = some (.cells #[.int .i64 a0_0, .int .i64 a0_1, .int .i64 a0_2, (.slice A0_3 l0_3.length c0_3)] 24 (0, 0))) ∧ Aside0 (Below w.heap.size w wc))
     case first =>
      have H := HC31.out
      clear HC31
      by_cases c32 : x3_2 = true
      ·subst c32
       have H1 : (saronlaw06_sound.j2 k2 true x4_2 (decide (x4_2 < (l0_3.length : Int))) a0_0 a0_1 a0_2 l0_3) = some r := by rw [if_pos rfl] at H; exact H
       clear H
       have H := H1
       clear H1
       have H' := zh H
       clear H
       have hcz33_0 : wr.cell? ⟨gb463, 0, none⟩ = some (.int .i64 a0_0) := vb BK463 0
       have hcz33_1 : wr.cell? ⟨gb463, 1, none⟩ = some (.int .i64 a0_1) := vb BK463 1
       have hcz33_2 : wr.cell? ⟨gb463, 2, none⟩ = some (.int .i64 a0_2) := vb BK463 2
       have hcz33_3 : wr.cell? ⟨gb463, 3, none⟩ = some (.slice A0_3 l0_3.length c0_3) := vb BK463 3
       have hfz33_0 := blk_frozen BK463.out 0
       have hfz33_1 := blk_frozen BK463.out 1
       have hfz33_2 := blk_frozen BK463.out 2
       have hfz33_3 := blk_frozen BK463.out 3
       go_wp2
       go_meet
       case rel => exact ⟨_, (decide (x4_2 < (l0_3.length : Int))), ze, H', ⟨by have := HJ1.out; have := HK2.out; first | omega | exact Nat.le_refl _⟩, ⟨zc BK463⟩, ⟨zb⟩⟩
      ·replace c32 := Bool.eq_false_iff.mpr c32
       subst c32
       have H1 : (saronlaw06_sound.j2 k2 false x4_2 false a0_0 a0_1 a0_2 l0_3) = some r := by rw [if_neg (show ¬ (false = true) by decide)] at H; exact H
       clear H
       have H := H1
       clear H1
       have H' := zh H
       clear H
       go_wp2
       go_meet
       case rel => exact ⟨_, (false), ze, H', ⟨by have := HJ1.out; have := HK2.out; first | omega | exact Nat.le_refl _⟩, ⟨zc BK463⟩, ⟨zb⟩⟩
     case rest =>
      clear HC31
      try clear c1
      try clear p2
      try clear c3
      try clear c5
      try clear c5b0
      try clear c5b1
      try clear c7
      try clear c9
      try clear c11
      try clear c12
      try clear c12b0
      try clear c12b1
      try clear c19
      try clear c32
      try clear hcz14_0
      try clear hcz14_1
      try clear hcz14_2
      try clear hcz14_3
      try clear hcz16_0
      try clear hcz16_1
      try clear hcz16_2
      try clear hcz16_3
      try clear hcz17_0
      try clear hcz17_1
      try clear hcz17_2
      try clear hcz17_3
      try clear hcz19_0
      try clear hcz19_1
      try clear hcz19_2
      try clear hcz19_3
      try clear hcz20_0
      try clear hcz20_1
      try clear hcz20_2
      try clear hcz20_3
      try clear hcz22_0
      try clear hcz22_1
      try clear hcz22_2
      try clear hcz22_3
      try clear hcz23_0
      try clear hcz23_1
      try clear hcz23_2
      try clear hcz23_3
      try clear hcz25_0
      try clear hcz25_1
      try clear hcz25_2
      try clear hcz25_3
      try clear hcz26_0
      try clear hcz26_1
      try clear hcz26_2
      try clear hcz26_3
      try clear hcz28_0
      try clear hcz28_1
      try clear hcz28_2
      try clear hcz28_3
      try clear hcz29_0
      try clear hcz29_1
      try clear hcz29_2
      try clear hcz29_3
      try clear hcz33_0
      try clear hcz33_1
      try clear hcz33_2
      try clear hcz33_3
      try clear hfz14_0
      try clear hfz14_1
      try clear hfz14_2
      try clear hfz14_3
      try clear hfz16_0
      try clear hfz16_1
      try clear hfz16_2
      try clear hfz16_3
      try clear hfz17_0
      try clear hfz17_1
      try clear hfz17_2
      try clear hfz17_3
      try clear hfz19_0
      try clear hfz19_1
      try clear hfz19_2
      try clear hfz19_3
      try clear hfz20_0
      try clear hfz20_1
      try clear hfz20_2
      try clear hfz20_3
      try clear hfz22_0
      try clear hfz22_1
      try clear hfz22_2
      try clear hfz22_3
      try clear hfz23_0
      try clear hfz23_1
      try clear hfz23_2
      try clear hfz23_3
      try clear hfz25_0
      try clear hfz25_1
      try clear hfz25_2
      try clear hfz25_3
      try clear hfz26_0
      try clear hfz26_1
      try clear hfz26_2
      try clear hfz26_3
      try clear hfz28_0
      try clear hfz28_1
      try clear hfz28_2
      try clear hfz28_3
      try clear hfz29_0
      try clear hfz29_1
      try clear hfz29_2
      try clear hfz29_3
      try clear hfz33_0
      try clear hfz33_1
      try clear hfz33_2
      try clear hfz33_3
      try clear p2
      obtain ⟨kq, x43_30, rfl, HA, HJ30, BK463, HB⟩ := hcut
      cases kq with
      | zero => exact absurd HA.out (by simp [saronlaw06_sound.j2])
      | succ kj30 =>
       have H := HA.out
       clear HA
       simp only [saronlaw06_sound.j2] at H
       by_cases c34 : x43_30 = true
       ·subst c34
        have H1 : (if 0 ≤ x4_2 then (if x4_2 < (l0_3.length : Int) then ((saronref00_Sits.f ((rd_T66 l0_3 x4_2).f0) 0 4).bind fun t471 => (if t471 = true then ((saronref00_Band.f ((rd_T66 l0_3 x4_2).f1) ((rd_T66 l0_3 x4_2).f2)).bind fun bt472 => ((saronref00_Good.f bt472.1 bt472.2 0 (wrap64 ((wrap64 (a0_0 * a0_1)) - 1))).bind fun t474 => (if t474 = true then ((saronref00_Sits.f ((rd_T66 l0_3 x4_2).f3) (-6) 6).bind fun t475 => (saronlaw06_sound.l0 kj30 t475 (wrap64 (x4_2 + 1)) a0_0 a0_1 a0_2 l0_3)) else (saronlaw06_sound.l0 kj30 false (wrap64 (x4_2 + 1)) a0_0 a0_1 a0_2 l0_3)))) else (saronlaw06_sound.l0 kj30 false (wrap64 (x4_2 + 1)) a0_0 a0_1 a0_2 l0_3))) else (none)) else (none)) = some r := by rw [if_pos rfl] at H; exact H
        clear H
        have H := H1
        clear H1
        by_cases c35 : 0 ≤ x4_2
        ·rw [if_pos c35] at H
         have c35b0 : decide (0 ≤ x4_2) = true := decide_eq_true c35
         clear c35
         by_cases c36 : x4_2 < (l0_3.length : Int)
         ·rw [if_pos c36] at H
          have c36b0 : decide (x4_2 < (l0_3.length : Int)) = true := decide_eq_true c36
          clear c36
          replace H := Option.bind_eq_some_iff.mp H
          obtain ⟨t471, A370, H⟩ := H
          replace H : (if t471 = true then ((saronref00_Band.f ((rd_T66 l0_3 x4_2).f1) ((rd_T66 l0_3 x4_2).f2)).bind fun bt472 => ((saronref00_Good.f bt472.1 bt472.2 0 (wrap64 ((wrap64 (a0_0 * a0_1)) - 1))).bind fun t474 => (if t474 = true then ((saronref00_Sits.f ((rd_T66 l0_3 x4_2).f3) (-6) 6).bind fun t475 => (saronlaw06_sound.l0 kj30 t475 (wrap64 (x4_2 + 1)) a0_0 a0_1 a0_2 l0_3)) else (saronlaw06_sound.l0 kj30 false (wrap64 (x4_2 + 1)) a0_0 a0_1 a0_2 l0_3)))) else (saronlaw06_sound.l0 kj30 false (wrap64 (x4_2 + 1)) a0_0 a0_1 a0_2 l0_3)) = some r := H
          have A37 := zh A370
          clear A370
          by_cases c38 : t471 = true
          ·subst c38
           have H1 : ((saronref00_Band.f ((rd_T66 l0_3 x4_2).f1) ((rd_T66 l0_3 x4_2).f2)).bind fun bt472 => ((saronref00_Good.f bt472.1 bt472.2 0 (wrap64 ((wrap64 (a0_0 * a0_1)) - 1))).bind fun t474 => (if t474 = true then ((saronref00_Sits.f ((rd_T66 l0_3 x4_2).f3) (-6) 6).bind fun t475 => (saronlaw06_sound.l0 kj30 t475 (wrap64 (x4_2 + 1)) a0_0 a0_1 a0_2 l0_3)) else (saronlaw06_sound.l0 kj30 false (wrap64 (x4_2 + 1)) a0_0 a0_1 a0_2 l0_3)))) = some r := by rw [if_pos rfl] at H; exact H
           clear H
           have H := H1
           clear H1
           replace H := Option.bind_eq_some_iff.mp H
           obtain ⟨⟨t472, t473⟩, A390, H⟩ := H
           replace H : ((saronref00_Good.f t472 t473 0 (wrap64 ((wrap64 (a0_0 * a0_1)) - 1))).bind fun t474 => (if t474 = true then ((saronref00_Sits.f ((rd_T66 l0_3 x4_2).f3) (-6) 6).bind fun t475 => (saronlaw06_sound.l0 kj30 t475 (wrap64 (x4_2 + 1)) a0_0 a0_1 a0_2 l0_3)) else (saronlaw06_sound.l0 kj30 false (wrap64 (x4_2 + 1)) a0_0 a0_1 a0_2 l0_3))) = some r := H
           have A39 := zh A390
           clear A390
           replace H := Option.bind_eq_some_iff.mp H
           obtain ⟨t474, A400, H⟩ := H
           replace H : (if t474 = true then ((saronref00_Sits.f ((rd_T66 l0_3 x4_2).f3) (-6) 6).bind fun t475 => (saronlaw06_sound.l0 kj30 t475 (wrap64 (x4_2 + 1)) a0_0 a0_1 a0_2 l0_3)) else (saronlaw06_sound.l0 kj30 false (wrap64 (x4_2 + 1)) a0_0 a0_1 a0_2 l0_3)) = some r := H
           have A40 := zh A400
           clear A400
           by_cases c41 : t474 = true
           ·subst c41
            have H1 : ((saronref00_Sits.f ((rd_T66 l0_3 x4_2).f3) (-6) 6).bind fun t475 => (saronlaw06_sound.l0 kj30 t475 (wrap64 (x4_2 + 1)) a0_0 a0_1 a0_2 l0_3)) = some r := by rw [if_pos rfl] at H; exact H
            clear H
            have H := H1
            clear H1
            replace H := Option.bind_eq_some_iff.mp H
            obtain ⟨t475, A420, H⟩ := H
            replace H : (saronlaw06_sound.l0 kj30 t475 (wrap64 (x4_2 + 1)) a0_0 a0_1 a0_2 l0_3) = some r := H
            have A42 := zh A420
            clear A420
            have H' := zh H
            clear H
            have hcz43_0 : wc.cell? ⟨gb463, 0, none⟩ = some (.int .i64 a0_0) := vb BK463 0
            have hcz43_1 : wc.cell? ⟨gb463, 1, none⟩ = some (.int .i64 a0_1) := vb BK463 1
            have hcz43_2 : wc.cell? ⟨gb463, 2, none⟩ = some (.int .i64 a0_2) := vb BK463 2
            have hcz43_3 : wc.cell? ⟨gb463, 3, none⟩ = some (.slice A0_3 l0_3.length c0_3) := vb BK463 3
            have hfz43_0 := blk_frozen BK463.out 0
            have hfz43_1 := blk_frozen BK463.out 1
            have hfz43_2 := blk_frozen BK463.out 2
            have hfz43_3 := blk_frozen BK463.out 3
            have p469 : 0 ≤ (x4_2 : Int) := of_decide_eq_true zs
            have q469 : x4_2 < (l0_3.length : Int) := of_decide_eq_true zs
            obtain ⟨ad469, e469, hx469_0, hx469_1, hx469_2, hx469_3⟩ := at_T66 HR0_3.out x4_2 p469 q469
            cases e469
            replace hx469_0 := ve HB.out hx469_0
            replace hx469_1 := ve HB.out hx469_1
            replace hx469_2 := ve HB.out hx469_2
            replace hx469_3 := ve HB.out hx469_3
            replace p469 := eq_true p469
            replace q469 := eq_true q469
            try go_wp2_with (first | ((with_reducible refine gate_dst (N := 5) rfl ?_); (try (refine gate_guard (by rfl) ?_; dsimp only)); refine box_event ?hg (N := 5) ?hd (cs := #[.int .i64 0, .int .i64 0, .int .i64 0, .int .i64 0]) (t := 66) ?hr ?_; (case hd => rfl); (case hg => rfl); (case hr => first | (go_simp; done) | (go_simp; rfl)); intro gb470 hg w44 hbox hb; have n0_ := zh (blk_below (g := gb463) (o := .cells #[.int .i64 a0_0, .int .i64 a0_1, .int .i64 a0_2, .slice (some ad469) l0_3.length c0_3] 24 (0, 0)) (zc BK463) hb); have n1_ := zh (below_step zb hb); have n2_ := zh (hbox); have n3_ := zh ((by rw [hg]; exact (below_size zb) : w.heap.size ≤ gb470)); have n4_ := zh ((by rw [hg]; exact (below_size zb) : w.heap.size ≤ gb470)); have n5_ := zh ((by rw [hg]; exact Nat.ne_of_lt (blk_lt (g := gb463) (o := .cells #[.int .i64 a0_0, .int .i64 a0_1, .int .i64 a0_2, .slice (some ad469) l0_3.length c0_3] 24 (0, 0)) (zc BK463)) : gb463 ≠ gb470)); have n6_ := zh ((by rw [hg]; exact Nat.ne_of_gt (blk_lt (g := gb463) (o := .cells #[.int .i64 a0_0, .int .i64 a0_1, .int .i64 a0_2, .slice (some ad469) l0_3.length c0_3] 24 (0, 0)) (zc BK463)) : gb470 ≠ gb463)); clear BK463; clear HB; have BK463 := n0_; have HB := n1_; have BK470 := n2_; have GW470 := n3_; have GE470 := n4_; have NB463_470 := n5_; have NB470_463 := n6_; clear n0_ n1_ n2_ n3_ n4_ n5_ n6_; clear hb hbox hg; have hnb45 := NB470_463.out; have hnc45 := NB463_470.out; have hcz46_0 : w44.cell? ⟨gb470, 0, none⟩ = some (.int .i64 0) := vb BK470 0; have hcz46_1 : w44.cell? ⟨gb470, 1, none⟩ = some (.int .i64 0) := vb BK470 1; have hcz46_2 : w44.cell? ⟨gb470, 2, none⟩ = some (.int .i64 0) := vb BK470 2; have hcz46_3 : w44.cell? ⟨gb470, 3, none⟩ = some (.int .i64 0) := vb BK470 3; have hfz46_0 := blk_frozen BK470.out 0; have hfz46_1 := blk_frozen BK470.out 1; have hfz46_2 := blk_frozen BK470.out 2; have hfz46_3 := blk_frozen BK470.out 3))
            have n0_ : Aside0 (((((w44.setCell ⟨gb470, 0, none⟩ (.int .i64 ((rd_T66 l0_3 x4_2).f0))).setCell ⟨gb470, 1, none⟩ (.int .i64 ((rd_T66 l0_3 x4_2).f1))).setCell ⟨gb470, 2, none⟩ (.int .i64 ((rd_T66 l0_3 x4_2).f2))).setCell ⟨gb470, 3, none⟩ (.int .i64 ((rd_T66 l0_3 x4_2).f3))).heap[gb463]? = some (.cells #[.int .i64 a0_0, .int .i64 a0_1, .int .i64 a0_2, .slice (some ad469) l0_3.length c0_3] 24 (0, 0))) := ⟨by (with_reducible repeat (first | refine blk_drewN ?_ _ | refine blk_drew ?_ | refine blk_alloc ?_ _)); refine blk_far ?_ NB463_470.out _; (with_reducible repeat (first | refine blk_drewN ?_ _ | refine blk_drew ?_ | refine blk_alloc ?_ _)); refine blk_far ?_ NB463_470.out _; (with_reducible repeat (first | refine blk_drewN ?_ _ | refine blk_drew ?_ | refine blk_alloc ?_ _)); refine blk_far ?_ NB463_470.out _; (with_reducible repeat (first | refine blk_drewN ?_ _ | refine blk_drew ?_ | refine blk_alloc ?_ _)); refine blk_far ?_ NB463_470.out _; (with_reducible repeat (first | refine blk_drewN ?_ _ | refine blk_drew ?_ | refine blk_alloc ?_ _)); exact BK463.out⟩
            have n1_ : Aside0 (((((w44.setCell ⟨gb470, 0, none⟩ (.int .i64 ((rd_T66 l0_3 x4_2).f0))).setCell ⟨gb470, 1, none⟩ (.int .i64 ((rd_T66 l0_3 x4_2).f1))).setCell ⟨gb470, 2, none⟩ (.int .i64 ((rd_T66 l0_3 x4_2).f2))).setCell ⟨gb470, 3, none⟩ (.int .i64 ((rd_T66 l0_3 x4_2).f3))).heap[gb470]? = some (.cells #[.int .i64 ((rd_T66 l0_3 x4_2).f0), .int .i64 ((rd_T66 l0_3 x4_2).f1), .int .i64 ((rd_T66 l0_3 x4_2).f2), .int .i64 ((rd_T66 l0_3 x4_2).f3)] 66 (0, 0))) := ⟨by (with_reducible repeat (first | refine blk_drewN ?_ _ | refine blk_drew ?_ | refine blk_alloc ?_ _)); refine blk_put (cs := #[.int .i64 ((rd_T66 l0_3 x4_2).f0), .int .i64 ((rd_T66 l0_3 x4_2).f1), .int .i64 ((rd_T66 l0_3 x4_2).f2), .int .i64 0]) ?_ 3 _ rfl; (with_reducible repeat (first | refine blk_drewN ?_ _ | refine blk_drew ?_ | refine blk_alloc ?_ _)); refine blk_put (cs := #[.int .i64 ((rd_T66 l0_3 x4_2).f0), .int .i64 ((rd_T66 l0_3 x4_2).f1), .int .i64 0, .int .i64 0]) ?_ 2 _ rfl; (with_reducible repeat (first | refine blk_drewN ?_ _ | refine blk_drew ?_ | refine blk_alloc ?_ _)); refine blk_put (cs := #[.int .i64 ((rd_T66 l0_3 x4_2).f0), .int .i64 0, .int .i64 0, .int .i64 0]) ?_ 1 _ rfl; (with_reducible repeat (first | refine blk_drewN ?_ _ | refine blk_drew ?_ | refine blk_alloc ?_ _)); refine blk_put (cs := #[.int .i64 0, .int .i64 0, .int .i64 0, .int .i64 0]) ?_ 0 _ rfl; (with_reducible repeat (first | refine blk_drewN ?_ _ | refine blk_drew ?_ | refine blk_alloc ?_ _)); exact BK470.out⟩
            have n2_ : Aside0 (Below w.heap.size w ((((w44.setCell ⟨gb470, 0, none⟩ (.int .i64 ((rd_T66 l0_3 x4_2).f0))).setCell ⟨gb470, 1, none⟩ (.int .i64 ((rd_T66 l0_3 x4_2).f1))).setCell ⟨gb470, 2, none⟩ (.int .i64 ((rd_T66 l0_3 x4_2).f2))).setCell ⟨gb470, 3, none⟩ (.int .i64 ((rd_T66 l0_3 x4_2).f3)))) := ⟨zb⟩
            (try clear BK463)
            (try clear BK470)
            (try clear HB)
            generalize ((((w44.setCell ⟨gb470, 0, none⟩ (.int .i64 ((rd_T66 l0_3 x4_2).f0))).setCell ⟨gb470, 1, none⟩ (.int .i64 ((rd_T66 l0_3 x4_2).f1))).setCell ⟨gb470, 2, none⟩ (.int .i64 ((rd_T66 l0_3 x4_2).f2))).setCell ⟨gb470, 3, none⟩ (.int .i64 ((rd_T66 l0_3 x4_2).f3))) = w47 at n0_ n1_ n2_ ⊢
            have BK463 := n0_
            have BK470 := n1_
            have HB := n2_
            clear n0_ n1_ n2_
            replace BK463 := zh (blk_drew BK463.out)
            replace BK470 := zh (blk_drew BK470.out)
            replace HB := zh (below_drew1 HB.out)
            refine start_ (n := 23) (S := fun w' => w'.cell? ⟨gb470, 0, none⟩ = some (.int .i64 ((rd_T66 l0_3 x4_2).f0)) ∧ w'.cell? ⟨gb470, 1, none⟩ = some (.int .i64 ((rd_T66 l0_3 x4_2).f1)) ∧ w'.cell? ⟨gb470, 2, none⟩ = some (.int .i64 ((rd_T66 l0_3 x4_2).f2)) ∧ w'.cell? ⟨gb470, 3, none⟩ = some (.int .i64 ((rd_T66 l0_3 x4_2).f3)) ∧ w'.cell? ⟨gb463, 0, none⟩ = some (.int .i64 a0_0) ∧ w'.cell? ⟨gb463, 1, none⟩ = some (.int .i64 a0_1) ∧ w'.cell? ⟨gb463, 2, none⟩ = some (.int .i64 a0_2) ∧ w'.cell? ⟨gb463, 3, none⟩ = some (.slice (some ad469) l0_3.length c0_3)) (ds := []) (Array.replicate 23 false) zk rfl rfl ⟨vb BK470 0, vb BK470 1, vb BK470 2, vb BK470 3, vb BK463 0, vb BK463 1, vb BK463 2, vb BK463 3⟩ (fun hHeld => ?_); refine with_tabW saronlaw06_sound.tab6 saronlaw06_sound.bits6 (fun HT_ HW_ => ?_)
            generalize w47.drew = w48 at BK463 BK470 HB hHeld ⊢
            refine zu 0 ?_
            refine zt 1 ?_
            refine zo 2 (fun K hK => ?_)
            refine goes_ Tryd.func45 zk rfl #[.int .i64 ((rd_T66 l0_3 x4_2).f0), .int .i64 0, .int .i64 4] (by rfl) rfl rfl zm ?_
            with_reducible refine (saronref00_Sits.calls ((rd_T66 l0_3 x4_2).f0) 0 4 true _ A37.out).mono ?_
            rintro e w' ⟨rfl, ⟨nd, rfl⟩⟩
            refine ⟨_, rfl, ?_⟩
            refine hK.out _ _ ⟨vb BK470 0, vb BK470 1, vb BK470 2, vb BK470 3, vb BK463 0, vb BK463 1, vb BK463 2, vb BK463 3⟩ (fun hHeld => ?_)
            clear hK K
            refine zr 53 _ ?_
            refine zu 3 ?_
            refine zu 4 ?_
            refine zu 6 ?_
            refine zu 9 ?_
            refine zu 11 ?_
            refine zt 5 ?_
            refine zt 7 ?_
            refine zt 10 ?_
            refine zt 12 ?_
            refine zu 13 ?_
            refine zu 14 ?_
            refine zo 8 (fun K hK => ?_)
            refine goes_ Tryd.func61 zk rfl #[.int .i64 ((rd_T66 l0_3 x4_2).f1), .int .i64 ((rd_T66 l0_3 x4_2).f2)] (by rfl) rfl rfl zm ?_
            with_reducible refine (saronref00_Band.calls ((rd_T66 l0_3 x4_2).f1) ((rd_T66 l0_3 x4_2).f2) t472 t473 _ A39.out).mono ?_
            rintro e w49 ⟨rfl, hb⟩
            refine ⟨_, rfl, ?_⟩
            replace BK463 := zh (blk_below (g := gb463) (o := .cells #[.int .i64 a0_0, .int .i64 a0_1, .int .i64 a0_2, .slice (some ad469) l0_3.length c0_3] 24 (0, 0)) (zc BK463) hb)
            replace BK470 := zh (blk_below (g := gb470) (o := .cells #[.int .i64 ((rd_T66 l0_3 x4_2).f0), .int .i64 ((rd_T66 l0_3 x4_2).f1), .int .i64 ((rd_T66 l0_3 x4_2).f2), .int .i64 ((rd_T66 l0_3 x4_2).f3)] 66 (0, 0)) (zc BK470) hb)
            replace HB := zh (below_step zb hb)
            (try clear hb)
            (try clear hb2)
            (try clear hk)
            (try clear hi)
            refine hK.out _ _ ⟨vb BK470 0, vb BK470 1, vb BK470 2, vb BK470 3, vb BK463 0, vb BK463 1, vb BK463 2, vb BK463 3⟩ (fun hHeld => ?_)
            clear hK K
            refine zr 59 _ ?_
            refine zo 15 (fun K hK => ?_)
            refine goes_ Tryd.func60 zk rfl #[.agg #[.int .i64 t472, .int .i64 t473], .int .i64 0, .int .i64 (wrap64 ((wrap64 (a0_0 * a0_1)) - 1))] (by rfl) rfl rfl zm ?_
            with_reducible refine (saronref00_Good.calls t472 t473 0 (wrap64 ((wrap64 (a0_0 * a0_1)) - 1)) true _ A40.out).mono ?_
            rintro e w50 ⟨rfl, hb⟩
            refine ⟨_, rfl, ?_⟩
            replace BK463 := zh (blk_below (g := gb463) (o := .cells #[.int .i64 a0_0, .int .i64 a0_1, .int .i64 a0_2, .slice (some ad469) l0_3.length c0_3] 24 (0, 0)) (zc BK463) hb)
            replace BK470 := zh (blk_below (g := gb470) (o := .cells #[.int .i64 ((rd_T66 l0_3 x4_2).f0), .int .i64 ((rd_T66 l0_3 x4_2).f1), .int .i64 ((rd_T66 l0_3 x4_2).f2), .int .i64 ((rd_T66 l0_3 x4_2).f3)] 66 (0, 0)) (zc BK470) hb)
            replace HB := zh (below_step zb hb)
            (try clear hb)
            (try clear hb2)
            (try clear hk)
            (try clear hi)
            refine hK.out _ _ ⟨vb BK470 0, vb BK470 1, vb BK470 2, vb BK470 3, vb BK463 0, vb BK463 1, vb BK463 2, vb BK463 3⟩ (fun hHeld => ?_)
            clear hK K
            refine zr 66 _ ?_
            refine zu 16 ?_
            refine zu 17 ?_
            refine zu 18 ?_
            refine zt 19 ?_
            refine zo 20 (fun K hK => ?_)
            refine goes_ Tryd.func45 zk rfl #[.int .i64 ((rd_T66 l0_3 x4_2).f3), .int .i64 (-6), .int .i64 6] (by rfl) rfl rfl zm ?_
            with_reducible refine (saronref00_Sits.calls ((rd_T66 l0_3 x4_2).f3) (-6) 6 t475 _ A42.out).mono ?_
            rintro e w' ⟨rfl, ⟨nd, rfl⟩⟩
            refine ⟨_, rfl, ?_⟩
            refine hK.out _ _ ⟨vb BK470 0, vb BK470 1, vb BK470 2, vb BK470 3, vb BK463 0, vb BK463 1, vb BK463 2, vb BK463 3⟩ (fun hHeld => ?_)
            clear hK K
            refine zr 71 _ ?_
            refine zu 21 ?_
            refine zu 22 ?_
            refine zd ?_
            try go_wp2
            go_roundg kj30
            case measure => have := HJ1.out; have := HK2.out; have := HJ30.out; omega
            case rel => exact ⟨(t475), (wrap64 (x4_2 + 1)), ze, ze, H', ⟨by have := HJ1.out; have := HK2.out; have := HJ30.out; omega⟩, ⟨zc BK463⟩, ⟨zb⟩⟩
           ·replace c41 := Bool.eq_false_iff.mpr c41
            subst c41
            have H1 : (saronlaw06_sound.l0 kj30 false (wrap64 (x4_2 + 1)) a0_0 a0_1 a0_2 l0_3) = some r := by rw [if_neg (show ¬ (false = true) by decide)] at H; exact H
            clear H
            have H := H1
            clear H1
            have H' := zh H
            clear H
            have hcz51_0 : wc.cell? ⟨gb463, 0, none⟩ = some (.int .i64 a0_0) := vb BK463 0
            have hcz51_1 : wc.cell? ⟨gb463, 1, none⟩ = some (.int .i64 a0_1) := vb BK463 1
            have hcz51_2 : wc.cell? ⟨gb463, 2, none⟩ = some (.int .i64 a0_2) := vb BK463 2
            have hcz51_3 : wc.cell? ⟨gb463, 3, none⟩ = some (.slice A0_3 l0_3.length c0_3) := vb BK463 3
            have hfz51_0 := blk_frozen BK463.out 0
            have hfz51_1 := blk_frozen BK463.out 1
            have hfz51_2 := blk_frozen BK463.out 2
            have hfz51_3 := blk_frozen BK463.out 3
            have p469 : 0 ≤ (x4_2 : Int) := of_decide_eq_true zs
            have q469 : x4_2 < (l0_3.length : Int) := of_decide_eq_true zs
            obtain ⟨ad469, e469, hx469_0, hx469_1, hx469_2, hx469_3⟩ := at_T66 HR0_3.out x4_2 p469 q469
            cases e469
            replace hx469_0 := ve HB.out hx469_0
            replace hx469_1 := ve HB.out hx469_1
            replace hx469_2 := ve HB.out hx469_2
            replace hx469_3 := ve HB.out hx469_3
            replace p469 := eq_true p469
            replace q469 := eq_true q469
            try go_wp2_with (first | ((with_reducible refine gate_dst (N := 5) rfl ?_); (try (refine gate_guard (by rfl) ?_; dsimp only)); refine box_event ?hg (N := 5) ?hd (cs := #[.int .i64 0, .int .i64 0, .int .i64 0, .int .i64 0]) (t := 66) ?hr ?_; (case hd => rfl); (case hg => rfl); (case hr => first | (go_simp; done) | (go_simp; rfl)); intro gb470 hg w52 hbox hb; have n0_ := zh (blk_below (g := gb463) (o := .cells #[.int .i64 a0_0, .int .i64 a0_1, .int .i64 a0_2, .slice (some ad469) l0_3.length c0_3] 24 (0, 0)) (zc BK463) hb); have n1_ := zh (below_step zb hb); have n2_ := zh (hbox); have n3_ := zh ((by rw [hg]; exact (below_size zb) : w.heap.size ≤ gb470)); have n4_ := zh ((by rw [hg]; exact (below_size zb) : w.heap.size ≤ gb470)); have n5_ := zh ((by rw [hg]; exact Nat.ne_of_lt (blk_lt (g := gb463) (o := .cells #[.int .i64 a0_0, .int .i64 a0_1, .int .i64 a0_2, .slice (some ad469) l0_3.length c0_3] 24 (0, 0)) (zc BK463)) : gb463 ≠ gb470)); have n6_ := zh ((by rw [hg]; exact Nat.ne_of_gt (blk_lt (g := gb463) (o := .cells #[.int .i64 a0_0, .int .i64 a0_1, .int .i64 a0_2, .slice (some ad469) l0_3.length c0_3] 24 (0, 0)) (zc BK463)) : gb470 ≠ gb463)); clear BK463; clear HB; have BK463 := n0_; have HB := n1_; have BK470 := n2_; have GW470 := n3_; have GE470 := n4_; have NB463_470 := n5_; have NB470_463 := n6_; clear n0_ n1_ n2_ n3_ n4_ n5_ n6_; clear hb hbox hg; have hnb53 := NB470_463.out; have hnc53 := NB463_470.out; have hcz54_0 : w52.cell? ⟨gb470, 0, none⟩ = some (.int .i64 0) := vb BK470 0; have hcz54_1 : w52.cell? ⟨gb470, 1, none⟩ = some (.int .i64 0) := vb BK470 1; have hcz54_2 : w52.cell? ⟨gb470, 2, none⟩ = some (.int .i64 0) := vb BK470 2; have hcz54_3 : w52.cell? ⟨gb470, 3, none⟩ = some (.int .i64 0) := vb BK470 3; have hfz54_0 := blk_frozen BK470.out 0; have hfz54_1 := blk_frozen BK470.out 1; have hfz54_2 := blk_frozen BK470.out 2; have hfz54_3 := blk_frozen BK470.out 3))
            have n0_ : Aside0 (((((w52.setCell ⟨gb470, 0, none⟩ (.int .i64 ((rd_T66 l0_3 x4_2).f0))).setCell ⟨gb470, 1, none⟩ (.int .i64 ((rd_T66 l0_3 x4_2).f1))).setCell ⟨gb470, 2, none⟩ (.int .i64 ((rd_T66 l0_3 x4_2).f2))).setCell ⟨gb470, 3, none⟩ (.int .i64 ((rd_T66 l0_3 x4_2).f3))).heap[gb463]? = some (.cells #[.int .i64 a0_0, .int .i64 a0_1, .int .i64 a0_2, .slice (some ad469) l0_3.length c0_3] 24 (0, 0))) := ⟨by (with_reducible repeat (first | refine blk_drewN ?_ _ | refine blk_drew ?_ | refine blk_alloc ?_ _)); refine blk_far ?_ NB463_470.out _; (with_reducible repeat (first | refine blk_drewN ?_ _ | refine blk_drew ?_ | refine blk_alloc ?_ _)); refine blk_far ?_ NB463_470.out _; (with_reducible repeat (first | refine blk_drewN ?_ _ | refine blk_drew ?_ | refine blk_alloc ?_ _)); refine blk_far ?_ NB463_470.out _; (with_reducible repeat (first | refine blk_drewN ?_ _ | refine blk_drew ?_ | refine blk_alloc ?_ _)); refine blk_far ?_ NB463_470.out _; (with_reducible repeat (first | refine blk_drewN ?_ _ | refine blk_drew ?_ | refine blk_alloc ?_ _)); exact BK463.out⟩
            have n1_ : Aside0 (((((w52.setCell ⟨gb470, 0, none⟩ (.int .i64 ((rd_T66 l0_3 x4_2).f0))).setCell ⟨gb470, 1, none⟩ (.int .i64 ((rd_T66 l0_3 x4_2).f1))).setCell ⟨gb470, 2, none⟩ (.int .i64 ((rd_T66 l0_3 x4_2).f2))).setCell ⟨gb470, 3, none⟩ (.int .i64 ((rd_T66 l0_3 x4_2).f3))).heap[gb470]? = some (.cells #[.int .i64 ((rd_T66 l0_3 x4_2).f0), .int .i64 ((rd_T66 l0_3 x4_2).f1), .int .i64 ((rd_T66 l0_3 x4_2).f2), .int .i64 ((rd_T66 l0_3 x4_2).f3)] 66 (0, 0))) := ⟨by (with_reducible repeat (first | refine blk_drewN ?_ _ | refine blk_drew ?_ | refine blk_alloc ?_ _)); refine blk_put (cs := #[.int .i64 ((rd_T66 l0_3 x4_2).f0), .int .i64 ((rd_T66 l0_3 x4_2).f1), .int .i64 ((rd_T66 l0_3 x4_2).f2), .int .i64 0]) ?_ 3 _ rfl; (with_reducible repeat (first | refine blk_drewN ?_ _ | refine blk_drew ?_ | refine blk_alloc ?_ _)); refine blk_put (cs := #[.int .i64 ((rd_T66 l0_3 x4_2).f0), .int .i64 ((rd_T66 l0_3 x4_2).f1), .int .i64 0, .int .i64 0]) ?_ 2 _ rfl; (with_reducible repeat (first | refine blk_drewN ?_ _ | refine blk_drew ?_ | refine blk_alloc ?_ _)); refine blk_put (cs := #[.int .i64 ((rd_T66 l0_3 x4_2).f0), .int .i64 0, .int .i64 0, .int .i64 0]) ?_ 1 _ rfl; (with_reducible repeat (first | refine blk_drewN ?_ _ | refine blk_drew ?_ | refine blk_alloc ?_ _)); refine blk_put (cs := #[.int .i64 0, .int .i64 0, .int .i64 0, .int .i64 0]) ?_ 0 _ rfl; (with_reducible repeat (first | refine blk_drewN ?_ _ | refine blk_drew ?_ | refine blk_alloc ?_ _)); exact BK470.out⟩
            have n2_ : Aside0 (Below w.heap.size w ((((w52.setCell ⟨gb470, 0, none⟩ (.int .i64 ((rd_T66 l0_3 x4_2).f0))).setCell ⟨gb470, 1, none⟩ (.int .i64 ((rd_T66 l0_3 x4_2).f1))).setCell ⟨gb470, 2, none⟩ (.int .i64 ((rd_T66 l0_3 x4_2).f2))).setCell ⟨gb470, 3, none⟩ (.int .i64 ((rd_T66 l0_3 x4_2).f3)))) := ⟨zb⟩
            (try clear BK463)
            (try clear BK470)
            (try clear HB)
            generalize ((((w52.setCell ⟨gb470, 0, none⟩ (.int .i64 ((rd_T66 l0_3 x4_2).f0))).setCell ⟨gb470, 1, none⟩ (.int .i64 ((rd_T66 l0_3 x4_2).f1))).setCell ⟨gb470, 2, none⟩ (.int .i64 ((rd_T66 l0_3 x4_2).f2))).setCell ⟨gb470, 3, none⟩ (.int .i64 ((rd_T66 l0_3 x4_2).f3))) = w55 at n0_ n1_ n2_ ⊢
            have BK463 := n0_
            have BK470 := n1_
            have HB := n2_
            clear n0_ n1_ n2_
            replace BK463 := zh (blk_drew BK463.out)
            replace BK470 := zh (blk_drew BK470.out)
            replace HB := zh (below_drew1 HB.out)
            refine start_ (n := 23) (S := fun w' => w'.cell? ⟨gb470, 0, none⟩ = some (.int .i64 ((rd_T66 l0_3 x4_2).f0)) ∧ w'.cell? ⟨gb470, 1, none⟩ = some (.int .i64 ((rd_T66 l0_3 x4_2).f1)) ∧ w'.cell? ⟨gb470, 2, none⟩ = some (.int .i64 ((rd_T66 l0_3 x4_2).f2)) ∧ w'.cell? ⟨gb470, 3, none⟩ = some (.int .i64 ((rd_T66 l0_3 x4_2).f3)) ∧ w'.cell? ⟨gb463, 0, none⟩ = some (.int .i64 a0_0) ∧ w'.cell? ⟨gb463, 1, none⟩ = some (.int .i64 a0_1) ∧ w'.cell? ⟨gb463, 2, none⟩ = some (.int .i64 a0_2) ∧ w'.cell? ⟨gb463, 3, none⟩ = some (.slice (some ad469) l0_3.length c0_3)) (ds := []) (Array.replicate 23 false) zk rfl rfl ⟨vb BK470 0, vb BK470 1, vb BK470 2, vb BK470 3, vb BK463 0, vb BK463 1, vb BK463 2, vb BK463 3⟩ (fun hHeld => ?_); refine with_tabW saronlaw06_sound.tab6 saronlaw06_sound.bits6 (fun HT_ HW_ => ?_)
            generalize w55.drew = w56 at BK463 BK470 HB hHeld ⊢
            refine zu 0 ?_
            refine zt 1 ?_
            refine zo 2 (fun K hK => ?_)
            refine goes_ Tryd.func45 zk rfl #[.int .i64 ((rd_T66 l0_3 x4_2).f0), .int .i64 0, .int .i64 4] (by rfl) rfl rfl zm ?_
            with_reducible refine (saronref00_Sits.calls ((rd_T66 l0_3 x4_2).f0) 0 4 true _ A37.out).mono ?_
            rintro e w' ⟨rfl, ⟨nd, rfl⟩⟩
            refine ⟨_, rfl, ?_⟩
            refine hK.out _ _ ⟨vb BK470 0, vb BK470 1, vb BK470 2, vb BK470 3, vb BK463 0, vb BK463 1, vb BK463 2, vb BK463 3⟩ (fun hHeld => ?_)
            clear hK K
            refine zr 53 _ ?_
            refine zu 3 ?_
            refine zu 4 ?_
            refine zu 6 ?_
            refine zu 9 ?_
            refine zu 11 ?_
            refine zt 5 ?_
            refine zt 7 ?_
            refine zt 10 ?_
            refine zt 12 ?_
            refine zu 13 ?_
            refine zu 14 ?_
            refine zo 8 (fun K hK => ?_)
            refine goes_ Tryd.func61 zk rfl #[.int .i64 ((rd_T66 l0_3 x4_2).f1), .int .i64 ((rd_T66 l0_3 x4_2).f2)] (by rfl) rfl rfl zm ?_
            with_reducible refine (saronref00_Band.calls ((rd_T66 l0_3 x4_2).f1) ((rd_T66 l0_3 x4_2).f2) t472 t473 _ A39.out).mono ?_
            rintro e w57 ⟨rfl, hb⟩
            refine ⟨_, rfl, ?_⟩
            replace BK463 := zh (blk_below (g := gb463) (o := .cells #[.int .i64 a0_0, .int .i64 a0_1, .int .i64 a0_2, .slice (some ad469) l0_3.length c0_3] 24 (0, 0)) (zc BK463) hb)
            replace BK470 := zh (blk_below (g := gb470) (o := .cells #[.int .i64 ((rd_T66 l0_3 x4_2).f0), .int .i64 ((rd_T66 l0_3 x4_2).f1), .int .i64 ((rd_T66 l0_3 x4_2).f2), .int .i64 ((rd_T66 l0_3 x4_2).f3)] 66 (0, 0)) (zc BK470) hb)
            replace HB := zh (below_step zb hb)
            (try clear hb)
            (try clear hb2)
            (try clear hk)
            (try clear hi)
            refine hK.out _ _ ⟨vb BK470 0, vb BK470 1, vb BK470 2, vb BK470 3, vb BK463 0, vb BK463 1, vb BK463 2, vb BK463 3⟩ (fun hHeld => ?_)
            clear hK K
            refine zr 59 _ ?_
            refine zo 15 (fun K hK => ?_)
            refine goes_ Tryd.func60 zk rfl #[.agg #[.int .i64 t472, .int .i64 t473], .int .i64 0, .int .i64 (wrap64 ((wrap64 (a0_0 * a0_1)) - 1))] (by rfl) rfl rfl zm ?_
            with_reducible refine (saronref00_Good.calls t472 t473 0 (wrap64 ((wrap64 (a0_0 * a0_1)) - 1)) false _ A40.out).mono ?_
            rintro e w58 ⟨rfl, hb⟩
            refine ⟨_, rfl, ?_⟩
            replace BK463 := zh (blk_below (g := gb463) (o := .cells #[.int .i64 a0_0, .int .i64 a0_1, .int .i64 a0_2, .slice (some ad469) l0_3.length c0_3] 24 (0, 0)) (zc BK463) hb)
            replace BK470 := zh (blk_below (g := gb470) (o := .cells #[.int .i64 ((rd_T66 l0_3 x4_2).f0), .int .i64 ((rd_T66 l0_3 x4_2).f1), .int .i64 ((rd_T66 l0_3 x4_2).f2), .int .i64 ((rd_T66 l0_3 x4_2).f3)] 66 (0, 0)) (zc BK470) hb)
            replace HB := zh (below_step zb hb)
            (try clear hb)
            (try clear hb2)
            (try clear hk)
            (try clear hi)
            refine hK.out _ _ ⟨vb BK470 0, vb BK470 1, vb BK470 2, vb BK470 3, vb BK463 0, vb BK463 1, vb BK463 2, vb BK463 3⟩ (fun hHeld => ?_)
            clear hK K
            refine zr 66 _ ?_
            refine zu 16 ?_
            refine zu 17 ?_
            refine zn 18 ?_
            refine zn 19 ?_
            refine zn 20 ?_
            refine zu 21 ?_
            refine zu 22 ?_
            refine zd ?_
            try go_wp2
            go_roundg kj30
            case measure => have := HJ1.out; have := HK2.out; have := HJ30.out; omega
            case rel => exact ⟨(false), (wrap64 (x4_2 + 1)), ze, ze, H', ⟨by have := HJ1.out; have := HK2.out; have := HJ30.out; omega⟩, ⟨zc BK463⟩, ⟨zb⟩⟩
          ·replace c38 := Bool.eq_false_iff.mpr c38
           subst c38
           have H1 : (saronlaw06_sound.l0 kj30 false (wrap64 (x4_2 + 1)) a0_0 a0_1 a0_2 l0_3) = some r := by rw [if_neg (show ¬ (false = true) by decide)] at H; exact H
           clear H
           have H := H1
           clear H1
           have H' := zh H
           clear H
           have hcz59_0 : wc.cell? ⟨gb463, 0, none⟩ = some (.int .i64 a0_0) := vb BK463 0
           have hcz59_1 : wc.cell? ⟨gb463, 1, none⟩ = some (.int .i64 a0_1) := vb BK463 1
           have hcz59_2 : wc.cell? ⟨gb463, 2, none⟩ = some (.int .i64 a0_2) := vb BK463 2
           have hcz59_3 : wc.cell? ⟨gb463, 3, none⟩ = some (.slice A0_3 l0_3.length c0_3) := vb BK463 3
           have hfz59_0 := blk_frozen BK463.out 0
           have hfz59_1 := blk_frozen BK463.out 1
           have hfz59_2 := blk_frozen BK463.out 2
           have hfz59_3 := blk_frozen BK463.out 3
           have p469 : 0 ≤ (x4_2 : Int) := of_decide_eq_true zs
           have q469 : x4_2 < (l0_3.length : Int) := of_decide_eq_true zs
           obtain ⟨ad469, e469, hx469_0, hx469_1, hx469_2, hx469_3⟩ := at_T66 HR0_3.out x4_2 p469 q469
           cases e469
           replace hx469_0 := ve HB.out hx469_0
           replace hx469_1 := ve HB.out hx469_1
           replace hx469_2 := ve HB.out hx469_2
           replace hx469_3 := ve HB.out hx469_3
           replace p469 := eq_true p469
           replace q469 := eq_true q469
           try go_wp2_with (first | ((with_reducible refine gate_dst (N := 5) rfl ?_); (try (refine gate_guard (by rfl) ?_; dsimp only)); refine box_event ?hg (N := 5) ?hd (cs := #[.int .i64 0, .int .i64 0, .int .i64 0, .int .i64 0]) (t := 66) ?hr ?_; (case hd => rfl); (case hg => rfl); (case hr => first | (go_simp; done) | (go_simp; rfl)); intro gb470 hg w60 hbox hb; have n0_ := zh (blk_below (g := gb463) (o := .cells #[.int .i64 a0_0, .int .i64 a0_1, .int .i64 a0_2, .slice (some ad469) l0_3.length c0_3] 24 (0, 0)) (zc BK463) hb); have n1_ := zh (below_step zb hb); have n2_ := zh (hbox); have n3_ := zh ((by rw [hg]; exact (below_size zb) : w.heap.size ≤ gb470)); have n4_ := zh ((by rw [hg]; exact (below_size zb) : w.heap.size ≤ gb470)); have n5_ := zh ((by rw [hg]; exact Nat.ne_of_lt (blk_lt (g := gb463) (o := .cells #[.int .i64 a0_0, .int .i64 a0_1, .int .i64 a0_2, .slice (some ad469) l0_3.length c0_3] 24 (0, 0)) (zc BK463)) : gb463 ≠ gb470)); have n6_ := zh ((by rw [hg]; exact Nat.ne_of_gt (blk_lt (g := gb463) (o := .cells #[.int .i64 a0_0, .int .i64 a0_1, .int .i64 a0_2, .slice (some ad469) l0_3.length c0_3] 24 (0, 0)) (zc BK463)) : gb470 ≠ gb463)); clear BK463; clear HB; have BK463 := n0_; have HB := n1_; have BK470 := n2_; have GW470 := n3_; have GE470 := n4_; have NB463_470 := n5_; have NB470_463 := n6_; clear n0_ n1_ n2_ n3_ n4_ n5_ n6_; clear hb hbox hg; have hnb61 := NB470_463.out; have hnc61 := NB463_470.out; have hcz62_0 : w60.cell? ⟨gb470, 0, none⟩ = some (.int .i64 0) := vb BK470 0; have hcz62_1 : w60.cell? ⟨gb470, 1, none⟩ = some (.int .i64 0) := vb BK470 1; have hcz62_2 : w60.cell? ⟨gb470, 2, none⟩ = some (.int .i64 0) := vb BK470 2; have hcz62_3 : w60.cell? ⟨gb470, 3, none⟩ = some (.int .i64 0) := vb BK470 3; have hfz62_0 := blk_frozen BK470.out 0; have hfz62_1 := blk_frozen BK470.out 1; have hfz62_2 := blk_frozen BK470.out 2; have hfz62_3 := blk_frozen BK470.out 3))
           have n0_ : Aside0 (((((w60.setCell ⟨gb470, 0, none⟩ (.int .i64 ((rd_T66 l0_3 x4_2).f0))).setCell ⟨gb470, 1, none⟩ (.int .i64 ((rd_T66 l0_3 x4_2).f1))).setCell ⟨gb470, 2, none⟩ (.int .i64 ((rd_T66 l0_3 x4_2).f2))).setCell ⟨gb470, 3, none⟩ (.int .i64 ((rd_T66 l0_3 x4_2).f3))).heap[gb463]? = some (.cells #[.int .i64 a0_0, .int .i64 a0_1, .int .i64 a0_2, .slice (some ad469) l0_3.length c0_3] 24 (0, 0))) := ⟨by (with_reducible repeat (first | refine blk_drewN ?_ _ | refine blk_drew ?_ | refine blk_alloc ?_ _)); refine blk_far ?_ NB463_470.out _; (with_reducible repeat (first | refine blk_drewN ?_ _ | refine blk_drew ?_ | refine blk_alloc ?_ _)); refine blk_far ?_ NB463_470.out _; (with_reducible repeat (first | refine blk_drewN ?_ _ | refine blk_drew ?_ | refine blk_alloc ?_ _)); refine blk_far ?_ NB463_470.out _; (with_reducible repeat (first | refine blk_drewN ?_ _ | refine blk_drew ?_ | refine blk_alloc ?_ _)); refine blk_far ?_ NB463_470.out _; (with_reducible repeat (first | refine blk_drewN ?_ _ | refine blk_drew ?_ | refine blk_alloc ?_ _)); exact BK463.out⟩
           have n1_ : Aside0 (((((w60.setCell ⟨gb470, 0, none⟩ (.int .i64 ((rd_T66 l0_3 x4_2).f0))).setCell ⟨gb470, 1, none⟩ (.int .i64 ((rd_T66 l0_3 x4_2).f1))).setCell ⟨gb470, 2, none⟩ (.int .i64 ((rd_T66 l0_3 x4_2).f2))).setCell ⟨gb470, 3, none⟩ (.int .i64 ((rd_T66 l0_3 x4_2).f3))).heap[gb470]? = some (.cells #[.int .i64 ((rd_T66 l0_3 x4_2).f0), .int .i64 ((rd_T66 l0_3 x4_2).f1), .int .i64 ((rd_T66 l0_3 x4_2).f2), .int .i64 ((rd_T66 l0_3 x4_2).f3)] 66 (0, 0))) := ⟨by (with_reducible repeat (first | refine blk_drewN ?_ _ | refine blk_drew ?_ | refine blk_alloc ?_ _)); refine blk_put (cs := #[.int .i64 ((rd_T66 l0_3 x4_2).f0), .int .i64 ((rd_T66 l0_3 x4_2).f1), .int .i64 ((rd_T66 l0_3 x4_2).f2), .int .i64 0]) ?_ 3 _ rfl; (with_reducible repeat (first | refine blk_drewN ?_ _ | refine blk_drew ?_ | refine blk_alloc ?_ _)); refine blk_put (cs := #[.int .i64 ((rd_T66 l0_3 x4_2).f0), .int .i64 ((rd_T66 l0_3 x4_2).f1), .int .i64 0, .int .i64 0]) ?_ 2 _ rfl; (with_reducible repeat (first | refine blk_drewN ?_ _ | refine blk_drew ?_ | refine blk_alloc ?_ _)); refine blk_put (cs := #[.int .i64 ((rd_T66 l0_3 x4_2).f0), .int .i64 0, .int .i64 0, .int .i64 0]) ?_ 1 _ rfl; (with_reducible repeat (first | refine blk_drewN ?_ _ | refine blk_drew ?_ | refine blk_alloc ?_ _)); refine blk_put (cs := #[.int .i64 0, .int .i64 0, .int .i64 0, .int .i64 0]) ?_ 0 _ rfl; (with_reducible repeat (first | refine blk_drewN ?_ _ | refine blk_drew ?_ | refine blk_alloc ?_ _)); exact BK470.out⟩
           have n2_ : Aside0 (Below w.heap.size w ((((w60.setCell ⟨gb470, 0, none⟩ (.int .i64 ((rd_T66 l0_3 x4_2).f0))).setCell ⟨gb470, 1, none⟩ (.int .i64 ((rd_T66 l0_3 x4_2).f1))).setCell ⟨gb470, 2, none⟩ (.int .i64 ((rd_T66 l0_3 x4_2).f2))).setCell ⟨gb470, 3, none⟩ (.int .i64 ((rd_T66 l0_3 x4_2).f3)))) := ⟨zb⟩
           (try clear BK463)
           (try clear BK470)
           (try clear HB)
           generalize ((((w60.setCell ⟨gb470, 0, none⟩ (.int .i64 ((rd_T66 l0_3 x4_2).f0))).setCell ⟨gb470, 1, none⟩ (.int .i64 ((rd_T66 l0_3 x4_2).f1))).setCell ⟨gb470, 2, none⟩ (.int .i64 ((rd_T66 l0_3 x4_2).f2))).setCell ⟨gb470, 3, none⟩ (.int .i64 ((rd_T66 l0_3 x4_2).f3))) = w63 at n0_ n1_ n2_ ⊢
           have BK463 := n0_
           have BK470 := n1_
           have HB := n2_
           clear n0_ n1_ n2_
           replace BK463 := zh (blk_drew BK463.out)
           replace BK470 := zh (blk_drew BK470.out)
           replace HB := zh (below_drew1 HB.out)
           refine start_ (n := 23) (S := fun w' => w'.cell? ⟨gb470, 0, none⟩ = some (.int .i64 ((rd_T66 l0_3 x4_2).f0)) ∧ w'.cell? ⟨gb470, 1, none⟩ = some (.int .i64 ((rd_T66 l0_3 x4_2).f1)) ∧ w'.cell? ⟨gb470, 2, none⟩ = some (.int .i64 ((rd_T66 l0_3 x4_2).f2)) ∧ w'.cell? ⟨gb470, 3, none⟩ = some (.int .i64 ((rd_T66 l0_3 x4_2).f3))) (ds := []) (Array.replicate 23 false) zk rfl rfl ⟨vb BK470 0, vb BK470 1, vb BK470 2, vb BK470 3⟩ (fun hHeld => ?_); refine with_tabW saronlaw06_sound.tab6 saronlaw06_sound.bits6 (fun HT_ HW_ => ?_)
           generalize w63.drew = w64 at BK463 BK470 HB hHeld ⊢
           refine zu 0 ?_
           refine zt 1 ?_
           refine zo 2 (fun K hK => ?_)
           refine goes_ Tryd.func45 zk rfl #[.int .i64 ((rd_T66 l0_3 x4_2).f0), .int .i64 0, .int .i64 4] (by rfl) rfl rfl zm ?_
           with_reducible refine (saronref00_Sits.calls ((rd_T66 l0_3 x4_2).f0) 0 4 false _ A37.out).mono ?_
           rintro e w' ⟨rfl, ⟨nd, rfl⟩⟩
           refine ⟨_, rfl, ?_⟩
           refine hK.out _ _ ⟨vb BK470 0, vb BK470 1, vb BK470 2, vb BK470 3⟩ (fun hHeld => ?_)
           clear hK K
           refine zr 53 _ ?_
           refine zu 3 ?_
           refine zn 4 ?_
           refine zn 5 ?_
           refine zn 6 ?_
           refine zn 7 ?_
           refine zn 8 ?_
           refine zn 9 ?_
           refine zn 10 ?_
           refine zn 11 ?_
           refine zn 12 ?_
           refine zn 13 ?_
           refine zn 14 ?_
           refine zn 15 ?_
           refine zu 16 ?_
           refine zu 17 ?_
           refine zn 18 ?_
           refine zn 19 ?_
           refine zn 20 ?_
           refine zu 21 ?_
           refine zu 22 ?_
           refine zd ?_
           try go_wp2
           go_roundg kj30
           case measure => have := HJ1.out; have := HK2.out; have := HJ30.out; omega
           case rel => exact ⟨(false), (wrap64 (x4_2 + 1)), ze, ze, H', ⟨by have := HJ1.out; have := HK2.out; have := HJ30.out; omega⟩, ⟨zc BK463⟩, ⟨zb⟩⟩
         ·rw [if_neg c36] at H
          exact absurd H (by simp)
        ·rw [if_neg c35] at H
         exact absurd H (by simp)
       ·replace c34 := Bool.eq_false_iff.mpr c34
        subst c34
        have H1 : (some x3_2) = some r := by rw [if_neg (show ¬ (false = true) by decide)] at H; exact H
        clear H
        have H := H1
        clear H1
        obtain rfl := Option.some.inj H
        go_wp2
        go_ret
        exact ⟨zf, zb⟩
end Go.Proofs.YtagkfkdoibnhfaaDoor.H
end
section
namespace Go.Proofs.YtagkfkdoibnhfaaDoor.K
open Go.RowKit Go.Proofs.YtagkfkdoibnhfaaDoorW.PrintWords Go.Proofs.YtagkfkdoibnhfaaDoorW.PrintMore Go.Proofs.YtagkfkdoibnhfaaDoor.H
namespace O
theorem sits_f (a b c : Int) : saronref00_Sits.f a b c = some (decide (b ≤ a) && decide (a ≤ c)) := by
 unfold saronref00_Sits.f
 by_cases h : b ≤ a <;> simp [h]
theorem good_f (x y a b : Int) : saronref00_Good.f x y a b = some (decide (a ≤ x) && decide (x ≤ y) && decide (y ≤ b)) := by
 unfold saronref00_Good.f
 by_cases h : a ≤ x <;> by_cases h' : x ≤ y <;> simp [h, h']
theorem turn_f (a b : Int) (hb : 1 ≤ b) (hb' : b ≤ 1000) : saronref00_Turn.f a b = some (a % b) := by
 unfold saronref00_Turn.f
 rw [if_neg (by omega), if_neg (by omega)]
 have h := Int.tmod_eq_emod (a := a) (b := b)
 have h1 := Int.emod_nonneg a (by omega : b ≠ 0)
 have h2 := Int.emod_lt_of_pos a (by omega : 0 < b)
 have hn : (b.natAbs : Int) = b := by omega
 split at h
 ·rw [if_neg (by omega), h]; simp
 ·rw [if_pos (by omega), w64 (by omega) (by omega)]
  congr 1
  omega
theorem up1 (i : Nat) (h : (i : Int) < 9223372036854775807) : wrap64 ((i : Int) + 1) = ((i + 1 : Nat) : Int) := by rw [w64 (by omega) (by omega)]; simp
theorem rd61 (l : List S61) (i : Nat) (h : i < l.length) : rd_T61 l (i : Int) = l[i] := by
 unfold rd_T61
 simp [h]
theorem okScale_get {T O L : Int} {R : List S66} (h : okScale T O L R = true) (i : Nat) (hi : i < R.length) : okReg (T * O) R[i] = true := by
 unfold okScale at h
 simp only [Bool.and_eq_true, List.all_eq_true] at h
 exact h.2 _ (List.getElem_mem hi)
theorem sound_false (T O L : Int) (R : List S66) (k : Nat) (i : Int) (hk : 2 ≤ k) : saronlaw06_sound.l0 k false i T O L R = some false := by
 obtain ⟨k, rfl⟩ : ∃ z, k = z + 2 := ⟨k - 2, by omega⟩
 simp [saronlaw06_sound.l0, saronlaw06_sound.j2]
theorem sound_l0 (T O L : Int) (R : List S66) (hS : okScale T O L R = true) (d : Nat) : ∀ (k i : Nat), R.length - i = d → i ≤ R.length → 2 * d + 2 ≤ k → saronlaw06_sound.l0 k true (i : Int) T O L R = some true := by
 obtain ⟨t1, t2, t3, t4, t5, t6, t7, t8, t9, hok⟩ := okScale_regs hS
 have mr := mul_range t1 t2 t3 t4
 induction d with
 | zero =>
  intro k i hd hi hk
  obtain ⟨k, rfl⟩ : ∃ z, k = z + 2 := ⟨k - 2, by omega⟩
  have hdec : decide ((i : Int) < (R.length : Int)) = false := decide_eq_false (by omega)
  simp only [saronlaw06_sound.l0, saronlaw06_sound.j2, hdec, if_true]
  rw [if_neg (by simp)]
 | succ d ih =>
  intro k i hd hi hk
  obtain ⟨k, rfl⟩ : ∃ z, k = z + 2 := ⟨k - 2, by omega⟩
  have hlt : i < R.length := by omega
  have hdec : decide ((i : Int) < (R.length : Int)) = true := decide_eq_true (by omega)
  have e : regAt R (i : Int) = R[i] := by unfold regAt; simp [hlt]
  have hr := okScale_get hS i hlt
  simp only [okReg, Bool.and_eq_true, decide_eq_true_eq] at hr
  obtain ⟨⟨⟨⟨⟨⟨⟨r1, r2⟩, r3⟩, r4⟩, r5⟩, r6⟩, r7⟩, r8⟩ := hr
  simp only [saronlaw06_sound.l0, saronlaw06_sound.j2, hdec, if_true]
  rw [if_pos (by omega), if_pos (by omega), rd66 R i hlt, sits_f, Option.bind_some, if_pos (by rw [decide_eq_true r1, decide_eq_true r2]; rfl)]
  simp only [saronref00_Band.f, Option.bind_some]
  rw [good_f, Option.bind_some, w64 (n := T * O) (by omega) (by omega), w64 (by omega) (by omega), if_pos (by rw [decide_eq_true r3, decide_eq_true r4, decide_eq_true r6]; rfl), sits_f, Option.bind_some, decide_eq_true r7, decide_eq_true r8, up1 i (by omega)]
  exact ih k (i + 1) (by omega) (by omega) (by omega)
theorem sound_f (T O L : Int) (R : List S66) (hR : R.length ≤ 9223372036854775807) (k : Nat) (hk : 2 * R.length + 10 ≤ k) : saronlaw06_sound.f k T O L R = some (okScale T O L R) := by
 unfold saronlaw06_sound.f
 rw [check_f T O L R hR k (by omega), Option.bind_some]
 obtain ⟨k, rfl⟩ : ∃ z, k = z + 1 := ⟨k - 1, by omega⟩
 cases hS : okScale T O L R
 ·rw [if_neg (by simp)]
  simp only [saronlaw06_sound.j0]
  exact sound_false _ _ _ _ _ _ (by omega)
 ·obtain ⟨t1, t2, t3, t4, t5, t6, t7, t8, t9, hok⟩ := okScale_regs hS
  rw [if_pos rfl, if_pos rfl, sits_f, Option.bind_some, if_pos (by rw [decide_eq_true t1, decide_eq_true t2]; rfl), sits_f, Option.bind_some, if_pos (by rw [decide_eq_true t3, decide_eq_true t4]; rfl), sits_f, Option.bind_some, if_pos (by rw [decide_eq_true t5, decide_eq_true t6]; rfl), if_pos ((tmod_zero _ _).2 t7), sits_f, Option.bind_some, decide_eq_true (by omega : (1 : Int) ≤ (R.length : Int)), decide_eq_true (by omega : (R.length : Int) ≤ 5)]
  simp only [saronlaw06_sound.j0]
  exact sound_l0 T O L R hS R.length k 0 (Nat.sub_zero _) (Nat.zero_le _) (by omega)
end O
end Go.Proofs.YtagkfkdoibnhfaaDoor.K
end
section
namespace Go.Proofs.YtagkfkdoibnhfaaDoor.H
open Go.RowKit Go.Proofs.YtagkfkdoibnhfaaDoorW.PrintWords Go.Proofs.YtagkfkdoibnhfaaDoorW.PrintLast Go.Proofs.YtagkfkdoibnhfaaDoorW.PrintMore
attribute [local go_sem] max2_int min2_int max_two min_two max_three min_three max_four min_four   -- for this text's walks alone
set_option linter.unusedVariables false
set_option linter.unusedSimpArgs false
open Go.Proofs.YtagkfkdoibnhfaaDoor.K
end Go.Proofs.YtagkfkdoibnhfaaDoor.H
end
section
namespace Go.Proofs.YtagkfkdoibnhfaaDoor.K
open Go.RowKit Go.Proofs.YtagkfkdoibnhfaaDoorW.PrintWords Go.Proofs.YtagkfkdoibnhfaaDoorW.PrintMore Go.Proofs.YtagkfkdoibnhfaaDoor.H
namespace O
theorem twinsOf_cons (f : Int × Int → List Int) (met : List (Int × Int)) (p : Int × Int) (rest : List (Int × Int)) : twinsOf f met (p :: rest) = match met.find? fun q => f q == f p with
  | some q => some (q, p)
  | none => twinsOf f (met ++ [p]) rest := by
 conv => lhs; unfold twinsOf
 cases met.find? fun q => f q == f p <;> rfl
theorem twinsOf_none (f : Int × Int → List Int) : ∀ (rest met : List (Int × Int)), (met ++ rest).Nodup → (∀ p ∈ met ++ rest, ∀ q ∈ met ++ rest, f p = f q → p = q) → twinsOf f met rest = none
 | [], met, _, _ => rfl
 | x :: rest, met, hn, h => by
  rw [twinsOf_cons]
  cases hf : met.find? fun q => f q == f x with
  | none => exact twinsOf_none f rest (met ++ [x]) (by simpa using hn) (by simpa using h)
  | some y =>
   exfalso
   have hm1 := List.mem_of_find?_eq_some hf
   have hm2 := List.find?_some hf
   have hm3 : f y = f x := beq_iff_eq.1 hm2
   have := h y (by simp [hm1]) x (by simp) hm3
   subst this
   rw [List.nodup_append] at hn
   exact hn.2.2 _ hm1 _ (by simp) rfl
def pr61 (p : Nat × Nat) : S61 := ⟨(p.1 : Int), (p.2 : Int)⟩
def alone (T O : Int) (R : List S66) (p : Nat × Nat) : Bool := (twins T O R (p.1 : Int) (p.2 : Int)).isNone
theorem Pairs_ok {T O L : Int} {R : List S66} (h : okScale T O L R = true) : Pairs T O L R = (((registerPairs R.length).filter (alone T O R)).map pr61, 0) := by
 unfold Pairs
 rw [if_pos h]
 rfl
def row (n i : Nat) : List (Nat × Nat) := (List.range (n - (i + 1))).map fun k => (i, i + 1 + k)
theorem row_mem (n i : Nat) (p : Nat × Nat) (h : p ∈ row n i) : p.1 = i ∧ i < p.2 ∧ p.2 < n := by
 unfold row at h
 rw [List.mem_map] at h
 obtain ⟨k, hk, rfl⟩ := h
 rw [List.mem_range] at hk
 exact ⟨rfl, by show i < i + 1 + k; omega, by show i + 1 + k < n; omega⟩
theorem registerPairs_rows (n : Nat) : registerPairs n = (List.range n).flatMap (row n) := rfl
theorem flatMap_len_le {α β : Type} (f : α → List β) (B : Nat) : ∀ l : List α, (∀ x ∈ l, (f x).length ≤ B) → (l.flatMap f).length ≤ l.length * B
 | [], _ => by simp
 | x :: l, h => by
  have h1 := h x (by simp)
  have h2 := flatMap_len_le f B l (fun y hy => h y (by simp [hy]))
  rw [List.flatMap_cons, List.length_append, List.length_cons, Nat.add_mul, Nat.one_mul]
  omega
end O
end Go.Proofs.YtagkfkdoibnhfaaDoor.K
end
section
namespace Go.Proofs.YtagkfkdoibnhfaaDoor.K
open Go.RowKit Go.Proofs.YtagkfkdoibnhfaaDoorW.PrintWords Go.Proofs.YtagkfkdoibnhfaaDoorW.PrintMore Go.Proofs.YtagkfkdoibnhfaaDoor.H
namespace O
theorem irange_mem_iff {x lo hi : Int} : x ∈ irange lo hi ↔ lo ≤ x ∧ x ≤ hi := by
 unfold irange
 rw [List.mem_map]
 constructor
 ·rintro ⟨i, hi, rfl⟩
  rw [List.mem_range] at hi
  omega
 ·rintro ⟨h1, h2⟩
  exact ⟨(x - lo).toNat, by rw [List.mem_range]; omega, by omega⟩
theorem irange_len (lo hi : Int) : (irange lo hi).length = (hi + 1 - lo).toNat := by unfold irange; simp
theorem choices_mem' {T O : Int} {R : List S66} {hs : List S60} {p : Int} {q : Int × Int} : q ∈ choices T O R hs p ↔ q ∈ pairsOf (T * O) ∧ miss T R hs p q.1 q.2 = 0 := by
 unfold choices
 rw [List.mem_filter, decide_eq_true_eq]
theorem pairs_mem_iff {m : Int} {q : Int × Int} : q ∈ pairsOf m ↔ (0 ≤ q.1 ∧ q.1 ≤ m - 1) ∧ 0 ≤ q.2 ∧ q.2 ≤ m - 1 := by
 unfold pairsOf
 rw [List.mem_flatMap]
 constructor
 ·rintro ⟨a, ha, h⟩
  rw [List.mem_map] at h
  obtain ⟨b, hb, rfl⟩ := h
  exact ⟨irange_mem_iff.1 ha, irange_mem_iff.1 hb⟩
 ·rintro ⟨h1, h2⟩
  exact ⟨q.1, irange_mem_iff.2 h1, List.mem_map.2 ⟨q.2, irange_mem_iff.2 h2, rfl⟩⟩
theorem canAll_pos {T O L : Int} {R : List S66} {hs : List S60} (h : canAll T O L R hs = true) (p : Int) (h0 : 0 ≤ p) (h1 : p ≤ L / 2 - 1) : ∃ q, q ∈ choices T O R hs p := by
 unfold canAll at h
 rw [List.all_eq_true] at h
 have := h p (irange_mem_iff.2 ⟨h0, h1⟩)
 cases hc : choices T O R hs p
 ·rw [hc] at this; simp at this
 ·exact ⟨_, List.mem_cons_self⟩
theorem nodup_one {α : Type} {l : List α} (hn : l.Nodup) (x : α) (h : ∀ y ∈ l, y = x) : l.length ≤ 1 := by
 match l, hn with
 | [], _ => simp
 | [_], _ => simp
 | a :: b :: r, hn =>
  have h1 := h a (by simp)
  have h2 := h b (by simp)
  rw [h1, h2] at hn
  simp at hn
theorem missOf_zero {was l : List Int} (h : missOf was l = 0) (k : Nat) (hk : k < l.length) : was.getD k 0 = -2 ∨ was.getD k 0 = l.getD k 0 := by
 unfold missOf at h
 rw [List.countP_eq_zero] at h
 have := h k (List.mem_range.2 hk)
 simp only [Bool.and_eq_true, decide_eq_true_eq, ne_eq] at this
 by_cases h1 : was.getD k 0 = -2
 ·exact .inl h1
 ·by_cases h2 : was.getD k 0 = l.getD k 0
  ·exact .inr h2
  ·exact absurd ⟨h1, h2⟩ this
theorem mem_le_sum : ∀ (l : List Nat) (x : Nat), x ∈ l → x ≤ l.sum
 | [], x, h => by simp at h
 | y :: r, x, h => by
  rw [List.sum_cons]
  rcases List.mem_cons.1 h with rfl | h
  ·omega
  ·have := mem_le_sum r x h
   omega
theorem miss_zero {T : Int} {R : List S66} {hs : List S60} {place a b : Int} (h : miss T R hs place a b = 0) (x : S60) (hx : x ∈ hs) : missOf (x.f1.drop (place.toNat * width (regAt R x.f0))) (strokes T R x.f0 a b) = 0 := by
 unfold miss at h
 have hle : missOf (x.f1.drop (place.toNat * width (regAt R x.f0))) (strokes T R x.f0 a b) ≤ (hs.map fun h => missOf (h.f1.drop (place.toNat * width (regAt R h.f0))) (strokes T R h.f0 a b)).sum :=
  mem_le_sum _ _ (List.mem_map.2 ⟨x, hx, rfl⟩)
 omega
end O
end Go.Proofs.YtagkfkdoibnhfaaDoor.K
end
section
namespace Go.Proofs.YtagkfkdoibnhfaaDoor.K
open Go.RowKit Go.Proofs.YtagkfkdoibnhfaaDoorW.PrintWords Go.Proofs.YtagkfkdoibnhfaaDoorW.PrintMore Go.Proofs.YtagkfkdoibnhfaaDoor.H
namespace O
theorem flatMap_getD {α : Type} (f : α → List Int) (W : Nat) (hW : ∀ x, (f x).length = W) : ∀ (l : List α) (p k : Nat) (hp : p < l.length), k < W → (l.flatMap f).getD (p * W + k) 0 = (f l[p]).getD k 0
 | x :: l, 0, k, hp, hk => by
  rw [List.flatMap_cons, List.getD_eq_getElem?_getD, List.getD_eq_getElem?_getD, Nat.zero_mul, Nat.zero_add, List.getElem?_append_left (by rw [hW]; exact hk)]
  rfl
 | x :: l, p + 1, k, hp, hk => by
  have ih := flatMap_getD f W hW l p k (by simpa using hp) hk
  rw [List.flatMap_cons, List.getD_eq_getElem?_getD, List.getElem?_append_right (by rw [hW, Nat.add_mul]; omega), ← List.getD_eq_getElem?_getD, hW]
  rw [show (p + 1) * W + k - W = p * W + k by rw [Nat.add_mul]; omega, ih]
  rfl
theorem flatMap_length {α : Type} (f : α → List Int) (W : Nat) (hW : ∀ x, (f x).length = W) : ∀ l : List α, (l.flatMap f).length = l.length * W
 | [] => by simp
 | x :: l => by rw [List.flatMap_cons, List.length_append, hW, flatMap_length f W hW l, List.length_cons, Nat.add_mul, Nat.one_mul, Nat.add_comm]
def Single (T O L : Int) (R : List S66) (hs : List S60) (q : Int → Int × Int) : Prop := ∀ p, 0 ≤ p → p ≤ L / 2 - 1 → choices T O R hs p = [q p]
theorem won_flat {T O L : Int} {R : List S66} {hs : List S60} {q : Int → Int × Int} (h : Single T O L R hs q) : wonOf T O L R hs = (irange 0 (L / 2 - 1)).flatMap fun p => [(q p).1, (q p).2] := by
 unfold wonOf
 rw [List.flatMap_def, List.flatMap_def]
 congr 1
 apply List.map_congr_left
 intro p hp
 obtain ⟨h0, h1⟩ := irange_mem_iff.1 hp
 rw [h p h0 h1]
theorem irange_get {lo hi : Int} (p : Nat) (hp : p < (irange lo hi).length) : (irange lo hi)[p] = lo + (p : Int) := by
 have h1 : p < (hi + 1 - lo).toNat := by rw [irange_len] at hp; exact hp
 have h2 : (irange lo hi)[p]? = some (lo + (p : Int)) := by
  unfold irange
  rw [List.getElem?_map, List.getElem?_range h1]
  rfl
 exact Option.some.inj ((List.getElem?_eq_getElem hp).symm.trans h2)
section
variable {T O L : Int} {R : List S66} {hs : List S60} {q : Int → Int × Int} (hS : okScale T O L R = true) (hH : okHeard L R hs = true) (h : Single T O L R hs q)
include hS h
theorem won_len : ((wonOf T O L R hs).length : Int) = L := by
 obtain ⟨t1, t2, t3, t4, t5, t6, t7, t8, t9, hok⟩ := okScale_regs hS
 rw [won_flat h, flatMap_length _ 2 (fun _ => rfl), irange_len]
 omega
theorem won_get (i : Nat) (hi : (i : Int) < L) : (wonOf T O L R hs).getD i 0 = side (q ((i : Int) / 2)) (i : Int) := by
 obtain ⟨t1, t2, t3, t4, t5, t6, t7, t8, t9, hok⟩ := okScale_regs hS
 have hl : (irange 0 (L / 2 - 1)).length = (L / 2).toNat := by rw [irange_len]; omega
 have e : i = i / 2 * 2 + i % 2 := by omega
 have hp : i / 2 < (irange 0 (L / 2 - 1)).length := by omega
 have := flatMap_getD (fun p => [(q p).1, (q p).2]) 2 (fun _ => rfl) (irange 0 (L / 2 - 1)) (i / 2) (i % 2) hp (Nat.mod_lt _ (by omega))
 rw [← e, irange_get _ hp] at this
 rw [won_flat h, this]
 unfold side
 have e2 : (0 : Int) + ((i / 2 : Nat) : Int) = (i : Int) / 2 := by omega
 rw [e2]
 have h2 := Nat.mod_two_eq_zero_or_one i
 rcases h2 with h2 | h2
 ·rw [h2, if_pos (by omega)]; rfl
 ·rw [h2, if_neg (by omega)]; rfl
theorem single_mem (p : Int) (h0 : 0 ≤ p) (h1 : p ≤ L / 2 - 1) : ((0 ≤ (q p).1 ∧ (q p).1 ≤ T * O - 1) ∧ 0 ≤ (q p).2 ∧ (q p).2 ≤ T * O - 1) ∧ miss T R hs p (q p).1 (q p).2 = 0 := by
 have := choices_mem'.1 (show q p ∈ choices T O R hs p by rw [h p h0 h1]; simp)
 exact ⟨pairs_mem_iff.1 this.1, this.2⟩
theorem won_ok (r : Int) (h0 : 0 ≤ r) (h1 : r < R.length) : okPart T O L R (wonOf T O L R hs) r = true := by
 unfold okPart
 simp only [Bool.and_eq_true, decide_eq_true_eq, List.all_eq_true]
 refine ⟨⟨⟨won_len hS h, h0⟩, h1⟩, fun x hx => ?_⟩
 rw [won_flat h, List.mem_flatMap] at hx
 obtain ⟨p, hp, hx⟩ := hx
 obtain ⟨g0, g1⟩ := irange_mem_iff.1 hp
 have := (single_mem hS h p g0 g1).1
 simp only [List.mem_cons, List.not_mem_nil, or_false] at hx
 rcases hx with rfl | rfl <;> omega
include hH
end
end O
end Go.Proofs.YtagkfkdoibnhfaaDoor.K
end
section
namespace Go.Proofs.YtagkfkdoibnhfaaDoor.H
open Go.RowKit Go.Proofs.YtagkfkdoibnhfaaDoorW.PrintWords Go.Proofs.YtagkfkdoibnhfaaDoorW.PrintLast Go.Proofs.YtagkfkdoibnhfaaDoorW.PrintMore
attribute [local go_sem] max2_int min2_int max_two min_two max_three min_three max_four min_four   -- for this text's walks alone
set_option linter.unusedVariables false
set_option linter.unusedSimpArgs false
open Go.Proofs.YtagkfkdoibnhfaaDoor.K
end Go.Proofs.YtagkfkdoibnhfaaDoor.H
end
section
namespace Go.Proofs.YtagkfkdoibnhfaaDoor.K
open Go.RowKit Go.Proofs.YtagkfkdoibnhfaaDoorW.PrintWords Go.Proofs.YtagkfkdoibnhfaaDoorW.PrintMore Go.Proofs.YtagkfkdoibnhfaaDoor.H
namespace O
theorem equal_self_l0 (l : List Int) (hl : l.length ≤ 9223372036854775807) : ∀ (d k i : Nat), l.length - i = d → i ≤ l.length → d + 1 ≤ k → saronref00_Equal.l0 k l l true (i : Int) = some true
 | 0, k, i, hd, hi, hk => by
  obtain ⟨k, rfl⟩ : ∃ m, k = m + 1 := ⟨k - 1, by omega⟩
  simp only [saronref00_Equal.l0, if_true]
  rw [if_neg (by omega)]
 | d + 1, k, i, hd, hi, hk => by
  obtain ⟨k, rfl⟩ : ∃ m, k = m + 1 := ⟨k - 1, by omega⟩
  simp only [saronref00_Equal.l0, if_true]
  rw [if_pos (by omega), if_pos (by omega), if_pos (by omega), up1 i (by omega), beq_self_eq_true]
  exact equal_self_l0 l hl d k (i + 1) (by omega) (by omega) (by omega)
theorem equal_self' (l : List Int) (hl : l.length ≤ 9223372036854775807) (k : Nat) (hk : l.length + 1 ≤ k) : saronref00_Equal.f k l l = some true := by
 unfold saronref00_Equal.f
 rw [beq_self_eq_true]
 exact equal_self_l0 l hl l.length k 0 rfl (by omega) (by omega)
def several (T O L : Int) (R : List S66) (hs : List S60) : Bool := (irange 0 (L / 2 - 1)).any (severalAt T O R hs)
theorem choices_nodup (T O : Int) (R : List S66) (hs : List S60) (p : Int) : (choices T O R hs p).Nodup := by
 unfold choices
 exact (pairs_nodup _).filter _
theorem single_of {T O L : Int} {R : List S66} {hs : List S60} (h : canAll T O L R hs = true) (h1 : several T O L R hs = false) : Single T O L R hs (fun p => ((choices T O R hs p).head?).getD (0, 0)) := by
 intro p hp0 hp1
 obtain ⟨q, hq⟩ := canAll_pos h p hp0 hp1
 have hl : ¬ 1 < (choices T O R hs p).length := by
  intro hl
  have : several T O L R hs = true := by
   unfold several
   rw [List.any_eq_true]
   exact ⟨p, irange_mem_iff.2 ⟨hp0, hp1⟩, by unfold severalAt; exact decide_eq_true hl⟩
  rw [this] at h1
  cases h1
 match hc : choices T O R hs p, hl, hq with
 | [], _, hq => simp at hq
 | [x], _, _ => show [x] = [((choices T O R hs p).head?).getD (0, 0)]; rw [hc]; rfl
 | _ :: _ :: _, hl, _ => simp at hl
section
variable (T O L : Int) (R : List S66) (hs : List S60) (hS : okScale T O L R = true) (hH : okHeard L R hs = true) (hC : canAll T O L R hs = true)
include hS hH hC
end
end O
end Go.Proofs.YtagkfkdoibnhfaaDoor.K
end
section
namespace Go.Proofs.YtagkfkdoibnhfaaDoor.K
open Go.RowKit Go.Proofs.YtagkfkdoibnhfaaDoorW.PrintWords Go.Proofs.YtagkfkdoibnhfaaDoorW.PrintMore Go.Proofs.YtagkfkdoibnhfaaDoor.H
namespace O
theorem part_length (T : Int) (R : List S66) (r : Int) : ∀ (n : Nat) (t : List Int), t.length = 2 * n → (partOf T R r t).length = n * width (regAt R r)
 | 0, t, h => by
  match t, h with
  | [], _ => simp [partOf]
 | n + 1, t, h => by
  match t, h with
  | a :: b :: rest, h =>
   have ih := part_length T R r n rest (by simp at h; omega)
   rw [partOf, List.length_append, strokes_width, ih, Nat.add_mul, Nat.one_mul, Nat.add_comm]
theorem part_getD (T : Int) (R : List S66) (r : Int) : ∀ (t : List Int) (p k : Nat), 2 * p + 1 < t.length → k < width (regAt R r) → (partOf T R r t).getD (p * width (regAt R r) + k) 0 = (strokes T R r (t.getD (2 * p) 0) (t.getD (2 * p + 1) 0)).getD k 0
 | a :: b :: rest, 0, k, h, hk => by
  rw [partOf, List.getD_eq_getElem?_getD, Nat.zero_mul, Nat.zero_add, List.getElem?_append_left (by rw [strokes_width]; exact hk), ← List.getD_eq_getElem?_getD]
  rfl
 | a :: b :: rest, p + 1, k, h, hk => by
  have ih := part_getD T R r rest p k (by simp at h; omega) hk
  rw [partOf, List.getD_eq_getElem?_getD, List.getElem?_append_right (by rw [strokes_width, Nat.add_mul]; omega), ← List.getD_eq_getElem?_getD, strokes_width]
  rw [show (p + 1) * width (regAt R r) + k - width (regAt R r) = p * width (regAt R r) + k by rw [Nat.add_mul]; omega, ih]
  rfl
 | [a], p, k, h, hk => by simp at h
 | [], p, k, h, hk => by simp at h
theorem plays_range {m T : Int} {x : S66} (h : okReg m x = true) (n : Int) : -1 ≤ plays T x n ∧ plays T x n ≤ m - 1 := by
 unfold okReg at h
 simp only [Bool.and_eq_true, decide_eq_true_eq] at h
 unfold plays
 split
 ·omega
 ·cases hf : (irange x.f1 x.f2).find? (fun t => decide ((t - n) % T = 0)) with
  | none => simp; omega
  | some v =>
   have := irange_mem_iff.1 (List.mem_of_find?_eq_some hf)
   simp; omega
def True1 (T : Int) (R : List S66) (t : List Int) (x : S60) : Prop :=
 0 ≤ x.f0 ∧ x.f0 < R.length ∧ x.f1.length = (partOf T R x.f0 t).length ∧ ∀ k, k < x.f1.length → x.f1.getD k 0 = -2 ∨ x.f1.getD k 0 = (partOf T R x.f0 t).getD k 0
section
variable {T O L : Int} {R : List S66} {hs : List S60} {t : List Int} (hS : okScale T O L R = true) (hL : (t.length : Int) = L) (ht : ∀ x ∈ t, 0 ≤ x ∧ x < T * O) (hT : ∀ x ∈ hs, True1 T R t x)
def pairAt (t : List Int) (p : Int) : Int × Int := (t.getD (2 * p.toNat) 0, t.getD (2 * p.toNat + 1) 0)
include hS hL
theorem true_len (r : Int) : (partOf T R r t).length = (L / 2).toNat * width (regAt R r) := by
 obtain ⟨t1, t2, t3, t4, t5, t6, t7, t8, t9, hok⟩ := okScale_regs hS
 exact part_length T R r _ t (by omega)
include ht
theorem true_pair (p : Int) (h0 : 0 ≤ p) (h1 : p ≤ L / 2 - 1) : pairAt t p ∈ pairsOf (T * O) := by
 obtain ⟨t1, t2, t3, t4, t5, t6, t7, t8, t9, hok⟩ := okScale_regs hS
 have g : ∀ i, i < t.length → 0 ≤ t.getD i 0 ∧ t.getD i 0 ≤ T * O - 1 := fun i hi => by
  rw [List.getD_eq_getElem?_getD, List.getElem?_eq_getElem hi]
  have := ht t[i] (List.getElem_mem hi)
  simp only [Option.getD_some]
  omega
 exact pairs_mem_iff.2 ⟨g _ (by omega), g _ (by omega)⟩
omit ht
include hT
theorem true_miss (p : Int) (h0 : 0 ≤ p) (h1 : p ≤ L / 2 - 1) : miss T R hs p (pairAt t p).1 (pairAt t p).2 = 0 := by
 obtain ⟨t1, t2, t3, t4, t5, t6, t7, t8, t9, hok⟩ := okScale_regs hS
 unfold miss
 have : ∀ l : List S60, (∀ x ∈ l, x ∈ hs) → (l.map fun h => missOf (h.f1.drop (p.toNat * width (regAt R h.f0))) (strokes T R h.f0 (pairAt t p).1 (pairAt t p).2)).sum = 0 := by
  intro l
  induction l with
  | nil => intro _; rfl
  | cons x l ih =>
   intro hl
   rw [List.map_cons, List.sum_cons, ih (fun y hy => hl y (by simp [hy])), Nat.add_zero]
   obtain ⟨g1, g2, g3, g4⟩ := hT x (hl x (by simp))
   have hlen := true_len (t := t) hS hL x.f0
   unfold missOf
   rw [List.countP_eq_zero]
   intro k hk
   rw [List.mem_range, strokes_width] at hk
   have hx : p.toNat * width (regAt R x.f0) + k < x.f1.length := by
    rw [g3, hlen]
    have h2 : p.toNat * width (regAt R x.f0) + width (regAt R x.f0) ≤ (L / 2).toNat * width (regAt R x.f0) := by
     have := Nat.mul_le_mul_right (width (regAt R x.f0)) (show p.toNat + 1 ≤ (L / 2).toNat by omega)
     rw [Nat.add_mul, Nat.one_mul] at this
     exact this
    omega
   have h4 := g4 _ hx
   rw [part_getD T R x.f0 t p.toNat k (by omega) hk] at h4
   have e : (x.f1.drop (p.toNat * width (regAt R x.f0))).getD k 0 = x.f1.getD (p.toNat * width (regAt R x.f0) + k) 0 := by
    rw [List.getD_eq_getElem?_getD, List.getElem?_drop, ← List.getD_eq_getElem?_getD]
   rw [e]
   simp only [Bool.and_eq_true, decide_eq_true_eq, ne_eq, not_and, Decidable.not_not]
   intro h5
   rcases h4 with h4 | h4
   ·exact absurd h4 h5
   ·exact h4
 exact this hs (fun _ h => h)
include ht
theorem true_choice (p : Int) (h0 : 0 ≤ p) (h1 : p ≤ L / 2 - 1) : pairAt t p ∈ choices T O R hs p :=
 choices_mem'.2 ⟨true_pair hS hL ht p h0 h1, true_miss hS hL hT p h0 h1⟩
theorem true_canAll : canAll T O L R hs = true := by
 unfold canAll
 rw [List.all_eq_true]
 intro p hp
 obtain ⟨h0, h1⟩ := irange_mem_iff.1 hp
 have := true_choice hS hL ht hT p h0 h1
 cases hc : choices T O R hs p with
 | nil => rw [hc] at this; simp at this
 | cons => rfl
omit ht
theorem true_heard (h1 : 1 ≤ hs.length) (h5 : hs.length ≤ 5) : okHeard L R hs = true := by
 obtain ⟨t1, t2, t3, t4, t5, t6, t7, t8, t9, hok⟩ := okScale_regs hS
 unfold okHeard
 simp only [Bool.and_eq_true, decide_eq_true_eq, List.all_eq_true]
 refine ⟨⟨h1, h5⟩, fun x hx => ?_⟩
 obtain ⟨g1, g2, g3, g4⟩ := hT x hx
 have hlen := true_len (t := t) hS hL x.f0
 have hreg : okReg (T * O) (regAt R x.f0) = true := by
  unfold okScale at hS
  simp only [Bool.and_eq_true, List.all_eq_true] at hS
  refine hS.2 _ ?_
  unfold regAt
  rw [List.getD_eq_getElem?_getD, List.getElem?_eq_getElem (by omega)]
  exact List.getElem_mem _
 have hTO : T * O ≤ 21 := Int.mul_le_mul (c := 7) (d := 3) t2 t4 (by omega) (by omega)
 unfold okHeard1
 simp only [Bool.and_eq_true, decide_eq_true_eq, List.all_eq_true]
 refine ⟨⟨⟨g1, g2⟩, ?_⟩, fun n hn => ?_⟩
 ·rw [g3, hlen, Int.natCast_mul, Int.toNat_of_nonneg (by omega)]
 ·obtain ⟨k, hk, rfl⟩ := List.getElem_of_mem hn
  have h4 := g4 k hk
  rw [List.getD_eq_getElem?_getD, List.getElem?_eq_getElem hk, Option.getD_some] at h4
  rcases h4 with h4 | h4
  ·omega
  ·have hk2 : k < (partOf T R x.f0 t).length := by omega
   rw [List.getD_eq_getElem?_getD, List.getElem?_eq_getElem hk2, Option.getD_some] at h4
   have hm : (partOf T R x.f0 t)[k] ∈ partOf T R x.f0 t := List.getElem_mem hk2
   have : ∀ (m : Nat) (l : List Int), l.length ≤ m → ∀ y ∈ partOf T R x.f0 l, -1 ≤ y ∧ y ≤ T * O - 1 := by
    intro m
    induction m with
    | zero => intro l hl y hy; match l, hl with | [], _ => simp [partOf] at hy
    | succ m ih =>
     intro l hl y hy
     match l, hl, hy with
     | [], _, hy => simp [partOf] at hy
     | [_], _, hy => simp [partOf] at hy
     | a :: b :: rest, hl, hy =>
      rw [partOf, List.mem_append] at hy
      rcases hy with hy | hy
      ·unfold strokes at hy
       obtain ⟨z, _, rfl⟩ := List.mem_map.1 hy
       exact plays_range hreg z
      ·exact ih rest (by simp at hl; omega) y hy
   have := this t.length t (Nat.le_refl _) _ hm
   omega
include ht
theorem true_won {q : Int → Int × Int} (h : Single T O L R hs q) : wonOf T O L R hs = t := by
 obtain ⟨t1, t2, t3, t4, t5, t6, t7, t8, t9, hok⟩ := okScale_regs hS
 have hwl := won_len hS h
 apply List.ext_getElem (by omega)
 intro i h1 h2
 have hw := won_get hS h i (by omega)
 have hc := true_choice hS hL ht hT ((i : Int) / 2) (by omega) (by omega)
 rw [h ((i : Int) / 2) (by omega) (by omega), List.mem_singleton] at hc
 rw [← hc, List.getD_eq_getElem?_getD, List.getElem?_eq_getElem h1, Option.getD_some] at hw
 rw [hw]
 have e : ∀ j, j = i → t.getD j 0 = t[i] := fun j hj => by rw [hj, List.getD_eq_getElem?_getD, List.getElem?_eq_getElem h2, Option.getD_some]
 unfold side pairAt
 split
 ·exact e _ (by omega)
 ·exact e _ (by omega)
end
end O
end Go.Proofs.YtagkfkdoibnhfaaDoor.K
end
section
namespace Go.Proofs.YtagkfkdoibnhfaaDoor.H
open Go.RowKit Go.Proofs.YtagkfkdoibnhfaaDoorW.PrintWords Go.Proofs.YtagkfkdoibnhfaaDoorW.PrintLast Go.Proofs.YtagkfkdoibnhfaaDoorW.PrintMore
attribute [local go_sem] max2_int min2_int max_two min_two max_three min_three max_four min_four   -- for this text's walks alone
set_option linter.unusedVariables false
set_option linter.unusedSimpArgs false
open Go.Proofs.YtagkfkdoibnhfaaDoor.K
end Go.Proofs.YtagkfkdoibnhfaaDoor.H
end
section
namespace Go.Proofs.YtagkfkdoibnhfaaDoor.H
open Go.RowKit Go.Proofs.YtagkfkdoibnhfaaDoorW.PrintWords Go.Proofs.YtagkfkdoibnhfaaDoorW.PrintLast Go.Proofs.YtagkfkdoibnhfaaDoorW.PrintMore
attribute [local go_sem] max2_int min2_int max_two min_two max_three min_three max_four min_four   -- for this text's walks alone
set_option linter.unusedVariables false
set_option linter.unusedSimpArgs false
def saronlaw06_truly.l0 : Nat → List Int → List Int → Int → Int → Int → Int → List (S66) → Option (List Int)
 | 0, _, _, _, _, _, _, _ => none
 | k + 1, x1, x5, x6, x479000, x479001, x479002, x479003 => if x6 < x479002 then ((saronref00_Nth.f x1 x6).bind fun t479 => ((saronref00_Turn.f t479 (wrap64 (x479000 * x479001))).bind fun t480 => (if x5.length < 17592186044416 then (saronlaw06_truly.l0 k x1 (x5 ++ [t480]) (wrap64 (x6 + 1)) x479000 x479001 x479002 x479003) else (none)))) else (some x5)
def saronlaw06_truly.f (k : Nat) (a0_0 : Int) (a0_1 : Int) (a0_2 : Int) (l0_3 : List (S66)) (l1 : List Int) : Option (List Int) := saronlaw06_truly.l0 k l1 ([] : List Int) 0 a0_0 a0_1 a0_2 l0_3
def saronlaw06_truly.T5 : Bool × List (List Nat × List Nat) := (true, [([], []), ([], []), ([], []), ([1, 2], [1, 2]), ([], []), ([4], [4]), ([], []), ([6], [6]), ([5, 7], [5, 7]), ([3, 8, 3], [3, 8]), ([9], [9]), ([0, 10, 9], [0, 10]), ([11, 11, 0, 1, 2, 3, 4, 5, 6, 7, 8, 9, 10, 11], [0, 11])])
def saronlaw06_truly.B5 : List Nat := [0, 0, 0, 6, 0, 16, 0, 64, 240, 510, 1022, 2047, 4095]
theorem saronlaw06_truly.tab5 : rtab .any (opsOf Tryd.f40 5) = saronlaw06_truly.T5 := by kernel_rfl
theorem saronlaw06_truly.bits5 : waitsOk saronlaw06_truly.T5.2 saronlaw06_truly.B5 = true := by kernel_rfl
set_option maxHeartbeats 8000000 in
set_option maxRecDepth 100000 in
theorem saronlaw06_truly.calls (k : Nat) (a0_0 : Int) (a0_1 : Int) (a0_2 : Int) (A0_3 : Option Addr) (c0_3 : Nat) (l0_3 : List (S66)) (A1 : Option Addr) (c1 : Nat) (l1 : List Int) (r : List Int) (w : World) (hr0_3 : Kd.C k66 w A0_3 l0_3.length l0_3) (hc0_3 : l0_3.length ≤ c0_3) (hr1 : Kd.C (Kd.int .i64) w A1 l1.length l1) (hc1 : l1.length ≤ c1) (h : saronlaw06_truly.f k a0_0 a0_1 a0_2 l0_3 l1 = some r) :
  Calls Tryd.prog 40 #[.agg #[.int .i64 a0_0, .int .i64 a0_1, .int .i64 a0_2, .slice A0_3 l0_3.length c0_3], .slice A1 l1.length c1] w fun e w' => ∃ v0_ : Value, e = .returned (v0_) ∧ Kd.R (Kd.int .i64) 3 w' w.heap.size (fun _ => True) v0_ r ∧ Below w.heap.size w w' := by
 have hu24 := Tryd.underlying24
 have HR0_3 := zh hr0_3
 have HC0_3 := zh hc0_3
 clear hr0_3 hc0_3
 have HR1 := zh hr1
 have HC1 := zh hc1
 clear hr1 hc1
 have HB := zh (Below.refl w.heap.size w)
 have H : (saronlaw06_truly.l0 k l1 ([] : List Int) 0 a0_0 a0_1 a0_2 l0_3) = some r := h
 clear h
 have H' := zh H
 clear H
 go_enter Tryd.func40, Tryd.ntmps40
 go_wp2_with (first | ((with_reducible refine gate_dst (N := 2) rfl ?_); refine box_event ?hg (N := 2) ?hd (cs := #[.int .i64 a0_0, .int .i64 a0_1, .int .i64 a0_2, .slice A0_3 l0_3.length c0_3]) (t := 24) ?hr ?_; (case hd => rfl); (case hg => rfl); (case hr => first | (go_simp; done) | (go_simp; rfl)); intro gb478 hg w3 hbox hb; have n0_ := zh (below_step zb hb); have n1_ := zh (hbox); have n2_ := zh ((by rw [hg]; exact (below_size zb) : w.heap.size ≤ gb478)); have n3_ := zh ((by rw [hg]; exact (below_size zb) : w.heap.size ≤ gb478)); clear HB; have HB := n0_; have BK478 := n1_; have GW478 := n2_; have GE478 := n3_; clear n0_ n1_ n2_ n3_; clear hb hbox hg))
 go_loopg [5, 6] k (fun kq v5 v6 w' => ∃ (x5_1 : List Int) (x6_1 : Int), v6 = .int .i64 x6_1 ∧ Aside0 (saronlaw06_truly.l0 kq l1 x5_1 x6_1 a0_0 a0_1 a0_2 l0_3 = some r) ∧ Aside0 (kq ≤ k) ∧ Aside0 (Kd.R (Kd.int .i64) 3 w' w.heap.size (fun _ => True) v5 x5_1) ∧ Aside0 (w'.heap[gb478]? = some (.cells #[.int .i64 a0_0, .int .i64 a0_1, .int .i64 a0_2, (.slice A0_3 l0_3.length c0_3)] 24 (0, 0))) ∧ Aside0 (Below w.heap.size w w'))
 case atStart => exact ⟨(([] : List Int)), (0), ze, H', ⟨Nat.le_refl _⟩, ⟨by first | exact Kd.R_nil _ _ _ _ _ | exact Kd.N_nil _ _ _ _ _ | exact Kd.V_nil _ _ _ _ _ | exact Kd.Q_nil _ _ _ _ _ | exact Kd.S_nil _ _ _ _ _⟩, ⟨zc BK478⟩, ⟨zb⟩⟩
 case round =>
  clear H'
  try clear c1
  try clear p2
  obtain ⟨x5_1, x6_1, rfl, HA, HK1, HO_5, BK478, HB⟩ := hrel
  cases gk with
  | zero => exact absurd HA.out (by simp [saronlaw06_truly.l0])
  | succ k1 =>
   have H := HA.out
   clear HA
   simp only [saronlaw06_truly.l0] at H
   by_cases c4 : x6_1 < a0_2
   ·rw [if_pos c4] at H
    have c4b0 : decide (x6_1 < a0_2) = true := decide_eq_true c4
    clear c4
    replace H := Option.bind_eq_some_iff.mp H
    obtain ⟨t479, A50, H⟩ := H
    replace H : ((saronref00_Turn.f t479 (wrap64 (a0_0 * a0_1))).bind fun t480 => (if x5_1.length < 17592186044416 then (saronlaw06_truly.l0 k1 l1 (x5_1 ++ [t480]) (wrap64 (x6_1 + 1)) a0_0 a0_1 a0_2 l0_3) else (none))) = some r := H
    have A5 := zh A50
    clear A50
    replace H := Option.bind_eq_some_iff.mp H
    obtain ⟨t480, A60, H⟩ := H
    replace H : (if x5_1.length < 17592186044416 then (saronlaw06_truly.l0 k1 l1 (x5_1 ++ [t480]) (wrap64 (x6_1 + 1)) a0_0 a0_1 a0_2 l0_3) else (none)) = some r := H
    have A6 := zh A60
    clear A60
    by_cases c7 : x5_1.length < 17592186044416
    ·rw [if_pos c7] at H
     have LMc7 := zh c7
     clear c7
     obtain ⟨y481, hy481⟩ : ∃ y_ : List Int, y_ = (x5_1 ++ [t480]) := ⟨_, rfl⟩
     replace H : (saronlaw06_truly.l0 k1 l1 y481 (wrap64 (x6_1 + 1)) a0_0 a0_1 a0_2 l0_3) = some r := by first | (rw [hy481]; with_reducible exact H) | (have H2_ := (Option.bind_some _ _).symm.trans H; rw [hy481]; with_reducible exact H2_) | (have H2_ := (Option.bind_some _ _).symm.trans H; with_reducible exact H2_) | with_reducible exact H | (rw [hy481]; exact H) | exact H
     have Ny481 := zh hy481
     clear hy481
     have H' := zh H
     clear H
     have hcz8_0 : wr.cell? ⟨gb478, 0, none⟩ = some (.int .i64 a0_0) := vb BK478 0
     have hcz8_1 : wr.cell? ⟨gb478, 1, none⟩ = some (.int .i64 a0_1) := vb BK478 1
     have hcz8_2 : wr.cell? ⟨gb478, 2, none⟩ = some (.int .i64 a0_2) := vb BK478 2
     have hcz8_3 : wr.cell? ⟨gb478, 3, none⟩ = some (.slice A0_3 l0_3.length c0_3) := vb BK478 3
     have hfz8_0 := blk_frozen BK478.out 0
     have hfz8_1 := blk_frozen BK478.out 1
     have hfz8_2 := blk_frozen BK478.out 2
     have hfz8_3 := blk_frozen BK478.out 3
     try go_wp2
     replace HO_5 := zh (Kd.R_drew HO_5.out)
     replace BK478 := zh (blk_drew BK478.out)
     replace HB := zh (below_drew1 HB.out)
     refine start_ (n := 13) (S := fun w' => w'.cell? ⟨gb478, 0, none⟩ = some (.int .i64 a0_0) ∧ w'.cell? ⟨gb478, 1, none⟩ = some (.int .i64 a0_1) ∧ w'.cell? ⟨gb478, 2, none⟩ = some (.int .i64 a0_2) ∧ w'.cell? ⟨gb478, 3, none⟩ = some (.slice A0_3 l0_3.length c0_3)) (ds := []) (Array.replicate 13 false) zk rfl rfl ⟨vb BK478 0, vb BK478 1, vb BK478 2, vb BK478 3⟩ (fun hHeld => ?_); refine with_tabW saronlaw06_truly.tab5 saronlaw06_truly.bits5 (fun HT_ HW_ => ?_)
     generalize wr.drew = w9 at HO_5 BK478 HB hHeld ⊢
     refine zu 0 ?_
     refine zu 1 ?_
     refine zu 2 ?_
     refine zu 4 ?_
     refine zu 6 ?_
     refine zt 5 ?_
     refine zt 7 ?_
     refine zu 8 ?_
     refine zo 3 (fun K hK => ?_)
     refine goes_ Tryd.func47 zk rfl #[.slice A1 l1.length c1, .int .i64 x6_1] (by rfl) rfl rfl zm ?_
     with_reducible refine (saronref00_Nth.calls _ _ l1 x6_1 t479 _ ?side1 ?side2 A5.out).mono ?_
     (case side1 => repeat (first | exact (Kd.C_below HR1.out HB.out) | (with_reducible refine Kd.C_alloc ?_ _) | (with_reducible refine Kd.C_drewN ?_ _) | (with_reducible refine Kd.C_drew ?_)))
     (case side2 => exact HC1.out)
     rintro e w' ⟨rfl, ⟨nd, rfl⟩⟩
     refine ⟨_, rfl, ?_⟩
     refine hK.out _ _ ⟨vb BK478 0, vb BK478 1, vb BK478 2, vb BK478 3⟩ (fun hHeld => ?_)
     clear hK K
     refine zr 16 _ ?_
     refine zo 9 (fun K hK => ?_)
     refine goes_ Tryd.func42 zk rfl #[.int .i64 t479, .int .i64 (wrap64 (a0_0 * a0_1))] (by rfl) rfl rfl zm ?_
     with_reducible refine (saronref00_Turn.calls t479 (wrap64 (a0_0 * a0_1)) t480 _ A6.out).mono ?_
     rintro e w' ⟨rfl, ⟨nd, rfl⟩⟩
     refine ⟨_, rfl, ?_⟩
     refine hK.out _ _ ⟨vb BK478 0, vb BK478 1, vb BK478 2, vb BK478 3⟩ (fun hHeld => ?_)
     clear hK K
     refine zr 22 _ ?_
     refine zo 10 (fun K hK => ?_)
     refine value_ (w1 := ?_) (v := ?_) (by rfl) rfl ?_ ?_
     rotate_left 2
     ·go_simp
      constructor
      ·rfl
      ·rfl
     refine hK.out _ _ ⟨(blk_cell (blk_alloc BK478.out _) 0).trans rfl, (blk_cell (blk_alloc BK478.out _) 1).trans rfl, (blk_cell (blk_alloc BK478.out _) 2).trans rfl, (blk_cell (blk_alloc BK478.out _) 3).trans rfl⟩ (fun hHeld => ?_)
     clear hK K
     refine zr 23 _ ?_
     refine zo 11 (fun K hK => ?_)
     refine Kd.R_append_step (Kd.int .i64) (w0 := w) w.heap.size (by rfl) (.tmp 13) (.tmp 23) 25 3 (.int .i64 0) 8 rfl Tryd.underlying25 info3 rfl (by decide) (by omega) u5 x5_1 t480 [.int .i64 t480] (fun _ => True) (fun _ => False) rfl rfl ?aP (fun _ hk => hk.elim) ?aF ?aO ?aB ?aS ?aL ?_
     (case aP => exact rfl)
     (case aB => exact zb)
     (case aF => exact (fun _ _ => trivial))
     (case aO => exact (zR HO_5))
     (case aS => exact (below_size zb))
     (case aL => have := LMc7.out; omega)
     intro v482 w10 ho hb hg hat
     rw [← Ny481.out] at ho
     replace BK478 := zh (blk_grown (g := gb478) (o := .cells #[.int .i64 a0_0, .int .i64 a0_1, .int .i64 a0_2, .slice A0_3 l0_3.length c0_3] 24 (0, 0)) (zc BK478) hg (Kd.R_ne HO_5.out BK478.out (by decide)))
     replace HB := zh (hb)
     have HO483 := zh (ho)
     clear HO_5 ho hb hg hat
     refine hK.out _ _ ⟨vb BK478 0, vb BK478 1, vb BK478 2, vb BK478 3⟩ (fun hHeld => ?_)
     clear hK K
     refine zr 24 _ ?_
     refine zu 12 ?_
     refine zd ?_
     try go_wp2
     go_roundg k1
     case measure => have := HK1.out; omega
     case rel => exact ⟨(y481), (wrap64 (x6_1 + 1)), ze, H', ⟨by have := HK1.out; omega⟩, ⟨zR HO483⟩, ⟨zc BK478⟩, ⟨zb⟩⟩
    ·rw [if_neg c7] at H
     exact absurd H (by simp)
   ·rw [if_neg c4] at H
    have c4b0 : decide (x6_1 < a0_2) = false := decide_eq_false c4
    clear c4
    obtain rfl := Option.some.inj H
    have hcz11_0 : wr.cell? ⟨gb478, 0, none⟩ = some (.int .i64 a0_0) := vb BK478 0
    have hcz11_1 : wr.cell? ⟨gb478, 1, none⟩ = some (.int .i64 a0_1) := vb BK478 1
    have hcz11_2 : wr.cell? ⟨gb478, 2, none⟩ = some (.int .i64 a0_2) := vb BK478 2
    have hcz11_3 : wr.cell? ⟨gb478, 3, none⟩ = some (.slice A0_3 l0_3.length c0_3) := vb BK478 3
    have hfz11_0 := blk_frozen BK478.out 0
    have hfz11_1 := blk_frozen BK478.out 1
    have hfz11_2 := blk_frozen BK478.out 2
    have hfz11_3 := blk_frozen BK478.out 3
    go_wp2
    go_ret
    exact ⟨_, zf, (zR HO_5), zb⟩
end Go.Proofs.YtagkfkdoibnhfaaDoor.H
end
section
namespace Go.Proofs.YtagkfkdoibnhfaaDoor.H
open Go.RowKit Go.Proofs.YtagkfkdoibnhfaaDoorW.PrintWords Go.Proofs.YtagkfkdoibnhfaaDoorW.PrintLast Go.Proofs.YtagkfkdoibnhfaaDoorW.PrintMore
attribute [local go_sem] max2_int min2_int max_two min_two max_three min_three max_four min_four   -- for this text's walks alone
set_option linter.unusedVariables false
set_option linter.unusedSimpArgs false
open Go.Proofs.YtagkfkdoibnhfaaDoor.K
end Go.Proofs.YtagkfkdoibnhfaaDoor.H
end
section
namespace Go.Proofs.YtagkfkdoibnhfaaDoor.K
open Go.RowKit Go.Proofs.YtagkfkdoibnhfaaDoorW.PrintWords Go.Proofs.YtagkfkdoibnhfaaDoorW.PrintMore Go.Proofs.YtagkfkdoibnhfaaDoor.H
namespace O
theorem turn_any (a b : Int) (hb : 1 ≤ b) (hb' : b ≤ 9223372036854775807) : saronref00_Turn.f a b = some (a % b) := by
 unfold saronref00_Turn.f
 rw [if_neg (by omega), if_neg (by omega)]
 have h := Int.tmod_eq_emod (a := a) (b := b)
 have h1 := Int.emod_nonneg a (by omega : b ≠ 0)
 have h2 := Int.emod_lt_of_pos a (by omega : 0 < b)
 have hn : (b.natAbs : Int) = b := by omega
 split at h
 ·rw [if_neg (by omega), h]; simp
 ·rw [if_pos (by omega), w64 (by omega) (by omega)]
  congr 1
  omega
theorem nth_any (l : List Int) (hl : l.length ≤ 9223372036854775807) (n : Int) : ∃ v, saronref00_Nth.f l n = some v := by
 unfold saronref00_Nth.f
 by_cases h : (l.length : Int) = 0
 ·exact ⟨_, if_pos h⟩
 ·have h1 := Int.emod_nonneg n h
  have h2 := Int.emod_lt_of_pos n (by omega : 0 < (l.length : Int))
  rw [if_neg h, turn_any n _ (by omega) (by omega), Option.bind_some, if_pos h1, if_pos h2]
  exact ⟨_, rfl⟩
section
variable {T O L : Int} {R : List S66} (hS : okScale T O L R = true)
include hS
theorem truly_l0 (l : List Int) (hl : l.length ≤ 9223372036854775807) : ∀ (d k i : Nat) (acc : List Int), L.toNat - i = d → (i : Int) ≤ L → acc.length = i → (∀ x ∈ acc, 0 ≤ x ∧ x < T * O) → d + 1 ≤ k →
  ∃ t, saronlaw06_truly.l0 k l acc (i : Int) T O L R = some t ∧ (t.length : Int) = L ∧ ∀ x ∈ t, 0 ≤ x ∧ x < T * O
 | d, k, i, acc, hd, hi, ha, hx, hk => by
  obtain ⟨t1, t2, t3, t4, t5, t6, t7, t8, t9, hok⟩ := okScale_regs hS
  obtain ⟨k, rfl⟩ : ∃ z, k = z + 1 := ⟨k - 1, by omega⟩
  simp only [saronlaw06_truly.l0]
  by_cases hlt : (i : Int) < L
  ·obtain ⟨v, hv⟩ := nth_any l hl (i : Int)
   have hTO : T * O ≤ 21 := Int.mul_le_mul (c := 7) (d := 3) t2 t4 (by omega) (by omega)
   have hTO1 : 2 * 1 ≤ T * O := Int.mul_le_mul (by omega) (by omega) (by omega) (by omega)
   rw [if_pos hlt, hv, Option.bind_some, w64 (by omega) (by omega), turn_f v (T * O) (by omega) (by omega), Option.bind_some, if_pos (by omega), up1 i (by omega)]
   refine truly_l0 l hl (d - 1) k (i + 1) _ (by omega) (by omega) (by simp [ha]) (fun x h => ?_) (by omega)
   rcases List.mem_append.1 h with h | h
   ·exact hx x h
   ·rw [List.mem_singleton] at h
    subst h
    exact ⟨Int.emod_nonneg _ (by omega), Int.emod_lt_of_pos _ (by omega)⟩
  ·rw [if_neg hlt]
   exact ⟨acc, rfl, by omega, hx⟩
 termination_by d => d
theorem truly_f (l : List Int) (hl : l.length ≤ 9223372036854775807) (k : Nat) (hk : 20 ≤ k) : ∃ t, saronlaw06_truly.f k T O L R l = some t ∧ (t.length : Int) = L ∧ ∀ x ∈ t, 0 ≤ x ∧ x < T * O := by
 obtain ⟨t1, t2, t3, t4, t5, t6, t7, t8, t9, hok⟩ := okScale_regs hS
 exact truly_l0 hS l hl L.toNat k 0 [] (by omega) (by omega) rfl (by simp) (by omega)
end
end O
end Go.Proofs.YtagkfkdoibnhfaaDoor.K
end
section
namespace Go.Proofs.YtagkfkdoibnhfaaDoor.K
open Go.RowKit Go.Proofs.YtagkfkdoibnhfaaDoorW.PrintWords Go.Proofs.YtagkfkdoibnhfaaDoorW.PrintMore Go.Proofs.YtagkfkdoibnhfaaDoor.H
namespace O
theorem twinsOf_inj (f : Int × Int → List Int) : ∀ (rest met : List (Int × Int)), (∀ p ∈ met, ∀ q ∈ met, f p = f q → p = q) → twinsOf f met rest = none → ∀ p ∈ met ++ rest, ∀ q ∈ met ++ rest, f p = f q → p = q
 | [], met, hm, _ => by simpa using hm
 | x :: rest, met, hm, h => by
  rw [twinsOf_cons] at h
  cases hf : met.find? fun q => f q == f x with
  | some y => rw [hf] at h; simp at h
  | none =>
   rw [hf] at h
   have hx : ∀ y ∈ met, f y ≠ f x := fun y hy e => by
    have := List.find?_eq_none.1 hf y hy
    simp [e] at this
   have ih := twinsOf_inj f rest (met ++ [x]) (fun p hp q hq e => by
    simp only [List.mem_append, List.mem_singleton] at hp hq
    rcases hp with hp | rfl <;> rcases hq with hq | rfl
    ·exact hm p hp q hq e
    ·exact absurd e (hx p hp)
    ·exact absurd e.symm (hx q hq)
    ·rfl) h
   simpa using ih
def Apart2 (T O : Int) (R : List S66) (one other : Int) : Prop := ∀ p ∈ pairsOf (T * O), ∀ q ∈ pairsOf (T * O), strokes T R one p.1 p.2 = strokes T R one q.1 q.2 → strokes T R other p.1 p.2 = strokes T R other q.1 q.2 → p = q
theorem twins_apart (T O : Int) (R : List S66) (one other : Int) : twins T O R one other = none ↔ Apart2 T O R one other := by
 constructor
 ·intro h p hp q hq e1 e2
  exact twinsOf_inj _ _ [] (by simp) h p (by simpa using hp) q (by simpa using hq) (by unfold both; rw [e1, e2])
 ·intro h
  unfold twins
  refine twinsOf_none _ _ _ (by simpa using pairs_nodup _) fun p hp q hq e => ?_
  obtain ⟨e1, e2⟩ := List.append_inj e (by rw [strokes_width, strokes_width])
  exact h p (by simpa using hp) q (by simpa using hq) e1 e2
theorem twins_swap (T O : Int) (R : List S66) (one other : Int) : (twins T O R one other).isNone = (twins T O R other one).isNone := by
 have : ∀ a b : Int, Apart2 T O R a b → Apart2 T O R b a := fun a b h p hp q hq e1 e2 => h p hp q hq e2 e1
 have := (twins_apart T O R one other).trans ((⟨this _ _, this _ _⟩ : Apart2 T O R one other ↔ Apart2 T O R other one).trans (twins_apart T O R other one).symm)
 cases h1 : twins T O R one other with
 | none => rw [this.1 h1]
 | some x =>
  cases h2 : twins T O R other one with
  | none => rw [this.2 h2] at h1; cases h1
  | some y => rfl
section
variable {T O L : Int} {R : List S66} {t : List Int} (hS : okScale T O L R = true) (hL : (t.length : Int) = L) (ht : ∀ x ∈ t, 0 ≤ x ∧ x < T * O)
def two (T : Int) (R : List S66) (t : List Int) (one other : Int) : List S60 := [⟨one, partOf T R one t⟩, ⟨other, partOf T R other t⟩]
variable {one other : Int} (h1 : 0 ≤ one) (h1' : one < R.length) (h2 : 0 ≤ other) (h2' : other < R.length)
include h1 h1' h2 h2'
theorem two_true : ∀ x ∈ two T R t one other, True1 T R t x := by
 intro x hx
 unfold two at hx
 simp only [List.mem_cons, List.not_mem_nil, or_false] at hx
 rcases hx with rfl | rfl
 ·exact ⟨h1, h1', rfl, fun _ _ => .inr rfl⟩
 ·exact ⟨h2, h2', rfl, fun _ _ => .inr rfl⟩
include hS hL ht
theorem strokes_of_miss (x : S60) (hx : x ∈ two T R t one other) (p : Int) (h0 : 0 ≤ p) (hp : p ≤ L / 2 - 1) (q : Int × Int) (hm : miss T R (two T R t one other) p q.1 q.2 = 0) : strokes T R x.f0 q.1 q.2 = strokes T R x.f0 (pairAt t p).1 (pairAt t p).2 := by
 obtain ⟨t1, t2, t3, t4, t5, t6, t7, t8, t9, hok⟩ := okScale_regs hS
 have hz := miss_zero hm x hx
 have hxf : x.f1 = partOf T R x.f0 t := by
  unfold two at hx
  simp only [List.mem_cons, List.not_mem_nil, or_false] at hx
  rcases hx with rfl | rfl <;> rfl
 obtain ⟨g1, g2, _, _⟩ := two_true h1 h1' h2 h2' x hx
 have hreg : okReg (T * O) (regAt R x.f0) = true := by
  have := okScale_get hS x.f0.toNat (by omega)
  unfold regAt
  rw [List.getD_eq_getElem?_getD, List.getElem?_eq_getElem (by omega)]
  exact this
 apply List.ext_getElem (by rw [strokes_width, strokes_width])
 intro k k1 k2
 have kw := k1
 rw [strokes_width] at kw
 have hg := missOf_zero hz k k1
 have hp2 := part_getD T R x.f0 t p.toNat k (by omega) kw
 rw [hxf, List.getD_eq_getElem?_getD, List.getElem?_drop, ← List.getD_eq_getElem?_getD, hp2] at hg
 have e1 : (strokes T R x.f0 q.1 q.2).getD k 0 = (strokes T R x.f0 q.1 q.2)[k] := by rw [List.getD_eq_getElem?_getD, List.getElem?_eq_getElem k1, Option.getD_some]
 have e2 : (strokes T R x.f0 (t.getD (2 * p.toNat) 0) (t.getD (2 * p.toNat + 1) 0)).getD k 0 = (strokes T R x.f0 (pairAt t p).1 (pairAt t p).2)[k] := by
  show (strokes T R x.f0 (pairAt t p).1 (pairAt t p).2).getD k 0 = _
  rw [List.getD_eq_getElem?_getD, List.getElem?_eq_getElem k2, Option.getD_some]
 rw [e1, e2] at hg
 rcases hg with hg | hg
 ·exfalso
  have hm := List.getElem_mem k2
  unfold strokes at hm
  obtain ⟨z, _, hz⟩ := List.mem_map.1 hm
  have hr := (plays_range (T := T) hreg z).1
  rw [hz] at hr
  unfold strokes at hg
  omega
 ·exact hg.symm
theorem two_single (ha : Apart2 T O R one other) : Single T O L R (two T R t one other) (pairAt t) := by
 intro p h0 hp
 have hT := two_true (T := T) (t := t) h1 h1' h2 h2'
 have hin := true_choice hS hL ht hT p h0 hp
 have hall : ∀ q ∈ choices T O R (two T R t one other) p, q = pairAt t p := by
  intro q hq
  obtain ⟨hq1, hq2⟩ := choices_mem'.1 hq
  exact ha q hq1 _ (true_pair hS hL ht p h0 hp) (strokes_of_miss hS hL ht h1 h1' h2 h2' ⟨one, partOf T R one t⟩ (by unfold two; simp) p h0 hp q hq2) (strokes_of_miss hS hL ht h1 h1' h2 h2' ⟨other, partOf T R other t⟩ (by unfold two; simp) p h0 hp q hq2)
 have hn := nodup_one (choices_nodup T O R (two T R t one other) p) _ hall
 match hc : choices T O R (two T R t one other) p, hin, hn, hall with
 | [x], _, _, hall => rw [hall x (by simp)]
theorem two_asked : askedErr T O L R (two T R t one other) true = 0 := by
 have hT := two_true (T := T) (t := t) h1 h1' h2 h2'
 have hC := true_canAll hS hL ht hT
 have hH := true_heard hS hL hT (by unfold two; simp) (by unfold two; simp)
 unfold askedErr
 rw [hS, hH, hC]
 rfl
theorem two_won : Won T O L R (two T R t one other) = (t, 0) ∨ Won T O L R (two T R t one other) = ([], 63) := by
 have hT := two_true (T := T) (t := t) h1 h1' h2 h2'
 have hC := true_canAll hS hL ht hT
 unfold Won
 rw [if_pos (two_asked hS hL ht h1 h1' h2 h2')]
 cases hs : several T O L R (two T R t one other)
 ·left
  unfold several at hs
  rw [hs, if_neg (by simp), true_won hS hL ht hT (single_of hC hs)]
 ·right
  unfold several at hs
  rw [hs, if_pos rfl]
theorem two_back (ha : Apart2 T O R one other) : Won T O L R (two T R t one other) = (t, 0) := by
 have hT := two_true (T := T) (t := t) h1 h1' h2 h2'
 have hsg := two_single hS hL ht h1 h1' h2 h2' ha
 unfold Won
 rw [if_pos (two_asked hS hL ht h1 h1' h2 h2'), true_won hS hL ht hT hsg, if_neg]
 rw [List.any_eq_true]
 rintro ⟨p, hp, h3⟩
 obtain ⟨h0, hp⟩ := irange_mem_iff.1 hp
 unfold severalAt at h3
 rw [hsg p h0 hp] at h3
 simp at h3
end
theorem rp_mem (n : Nat) (p : Nat × Nat) : p ∈ registerPairs n ↔ p.1 < p.2 ∧ p.2 < n := by
 rw [registerPairs_rows, List.mem_flatMap]
 constructor
 ·rintro ⟨i, hi, h⟩
  have := row_mem n i p h
  rw [List.mem_range] at hi
  omega
 ·rintro ⟨ha, hb⟩
  refine ⟨p.1, List.mem_range.2 (by omega), ?_⟩
  unfold row
  rw [List.mem_map]
  exact ⟨p.2 - (p.1 + 1), List.mem_range.2 (by omega), Prod.ext rfl (by show p.1 + 1 + (p.2 - (p.1 + 1)) = p.2; omega)⟩
theorem told_pairs {T O L : Int} {R : List S66} (h : okScale T O L R = true) : ∀ x ∈ (Pairs T O L R).1, 0 ≤ x.f0 ∧ x.f0 < x.f1 ∧ x.f1 < R.length := by
 intro x hx
 rw [Pairs_ok h] at hx
 obtain ⟨p, hp, rfl⟩ := List.mem_map.1 hx
 have := (rp_mem R.length p).1 (List.mem_filter.1 hp).1
 unfold pr61
 simp only []
 omega
theorem told_any {T O L : Int} {R : List S66} (h : okScale T O L R = true) (a b : Int) (h0 : 0 ≤ a) (hab : a < b) (hb : b < R.length) : ((Pairs T O L R).1.any fun x => decide (x.f0 = a) && decide (x.f1 = b)) = (twins T O R a b).isNone := by
 rw [Pairs_ok h]
 have ea : ((a.toNat : Nat) : Int) = a := Int.toNat_of_nonneg h0
 have eb : ((b.toNat : Nat) : Int) = b := Int.toNat_of_nonneg (by omega)
 have hal : alone T O R (a.toNat, b.toNat) = (twins T O R a b).isNone := by unfold alone; simp only []; rw [ea, eb]
 rw [← hal, Bool.eq_iff_iff, List.any_eq_true]
 constructor
 ·rintro ⟨x, hx, hx2⟩
  obtain ⟨p, hp, rfl⟩ := List.mem_map.1 hx
  unfold pr61 at hx2
  simp only [Bool.and_eq_true, decide_eq_true_eq] at hx2
  have e : p = (a.toNat, b.toNat) := Prod.ext (by show p.1 = a.toNat; omega) (by show p.2 = b.toNat; omega)
  rw [← e]
  exact (List.mem_filter.1 hp).2
 ·intro hh
  refine ⟨pr61 (a.toNat, b.toNat), List.mem_map.2 ⟨_, List.mem_filter.2 ⟨(rp_mem R.length _).2 ⟨by show a.toNat < b.toNat; omega, by show b.toNat < _; omega⟩, hh⟩, rfl⟩, ?_⟩
  unfold pr61
  simp only [Bool.and_eq_true, decide_eq_true_eq]
  exact ⟨ea, eb⟩
end O
end Go.Proofs.YtagkfkdoibnhfaaDoor.K
end
section
namespace Go.Proofs.YtagkfkdoibnhfaaDoor.K
open Go.RowKit Go.Proofs.YtagkfkdoibnhfaaDoorW.PrintWords Go.Proofs.YtagkfkdoibnhfaaDoorW.PrintMore Go.Proofs.YtagkfkdoibnhfaaDoor.H
theorem flatMap_len_le {α β : Type} (f : α → List β) (B : Nat) : ∀ l : List α, (∀ x ∈ l, (f x).length ≤ B) → (l.flatMap f).length ≤ l.length * B
 | [], _ => by simp
 | x :: l, h => by
  have h1 := h x (by simp)
  have h2 := flatMap_len_le f B l (fun y hy => h y (by simp [hy]))
  rw [List.flatMap_cons, List.length_append, List.length_cons, Nat.add_mul, Nat.one_mul]
  omega
theorem Pairs_len (T O L : Int) (R : List S66) : (Pairs T O L R).1.length ≤ 25 := by
 unfold Pairs
 split
 ·rename_i hS
  obtain ⟨t1, t2, t3, t4, t5, t6, t7, t8, t9, hok⟩ := okScale_regs hS
  show (List.map _ (List.filter _ _)).length ≤ 25
  rw [List.length_map]
  refine Nat.le_trans (List.length_filter_le _ _) ?_
  unfold registerPairs
  refine Nat.le_trans (flatMap_len_le _ 5 _ (fun x _ => by rw [List.length_map, List.length_range]; omega)) ?_
  rw [List.length_range]
  omega
 ·simp
end Go.Proofs.YtagkfkdoibnhfaaDoor.K
end
section
namespace Go.Proofs.YtagkfkdoibnhfaaDoor.H
open Go.RowKit Go.Proofs.YtagkfkdoibnhfaaDoorW.PrintWords Go.Proofs.YtagkfkdoibnhfaaDoorW.PrintLast Go.Proofs.YtagkfkdoibnhfaaDoorW.PrintMore
attribute [local go_sem] max2_int min2_int max_two min_two max_three min_three max_four min_four   -- for this text's walks alone
set_option linter.unusedVariables false
set_option linter.unusedSimpArgs false
open Go.Proofs.YtagkfkdoibnhfaaDoor.K
mutual
def saronlaw06_KernelBack.j0 : Nat → List (S61) → Int → Int → List Int → List Int → Int → List Int → List Int → Int → Bool → Int → Int → Int → List (S66) → Option (Bool)
 | 0, _, _, _, _, _, _, _, _, _, _, _, _, _, _ => none
 | k + 1, x7, x9, x10, x11, x17, x18, x19, x20, x21, x115, x189000, x189001, x189002, x189003 => if x115 = true then (some false) else (saronlaw06_KernelBack.l0 k x7 x9 x10 x11 x17 x18 x19 x20 x21 false 0 x189000 x189001 x189002 x189003)
def saronlaw06_KernelBack.l0 : Nat → List (S61) → Int → Int → List Int → List Int → Int → List Int → List Int → Int → Bool → Int → Int → Int → Int → List (S66) → Option (Bool)
 | 0, _, _, _, _, _, _, _, _, _, _, _, _, _, _, _ => none
 | k + 1, x7, x9, x10, x11, x17, x18, x19, x20, x21, x22, x23, x189000, x189001, x189002, x189003 => if x23 < (x7.length : Int) then (if 0 ≤ x23 then ((saronref00_Sits.f ((rd_T61 x7 x23).f0) 0 (wrap64 ((x189003.length : Int) - 1))).bind fun t232 => (if t232 = true then (if ((rd_T61 x7 x23).f1) ≤ ((rd_T61 x7 x23).f0) then (some false) else (if ((rd_T61 x7 x23).f1) ≥ (x189003.length : Int) then (some false) else (if x22 = true then (saronlaw06_KernelBack.l0 k x7 x9 x10 x11 x17 x18 x19 x20 x21 true (wrap64 (x23 + 1)) x189000 x189001 x189002 x189003) else (if ((rd_T61 x7 x23).f0) = (mn x9 x10) then (saronlaw06_KernelBack.l0 k x7 x9 x10 x11 x17 x18 x19 x20 x21 (((rd_T61 x7 x23).f1) == (mx x9 x10)) (wrap64 (x23 + 1)) x189000 x189001 x189002 x189003) else (saronlaw06_KernelBack.l0 k x7 x9 x10 x11 x17 x18 x19 x20 x21 false (wrap64 (x23 + 1)) x189000 x189001 x189002 x189003))))) else (some false))) else (none)) else (if x9 = x10 then (saronlaw06_KernelBack.j2 k x9 x10 x11 x17 x18 x19 x20 x21 false x189000 x189001 x189002 x189003) else (saronlaw06_KernelBack.j2 k x9 x10 x11 x17 x18 x19 x20 x21 (x22 != (x21 == 4)) x189000 x189001 x189002 x189003))
def saronlaw06_KernelBack.j2 : Nat → Int → Int → List Int → List Int → Int → List Int → List Int → Int → Bool → Int → Int → Int → List (S66) → Option (Bool)
 | 0, _, _, _, _, _, _, _, _, _, _, _, _, _ => none
 | k + 1, x9, x10, x11, x17, x18, x19, x20, x21, x188, x189000, x189001, x189002, x189003 => if x188 = true then (some false) else (if x21 = 4 then (if (wrap64 ((x19.length : Int) + (x20.length : Int))) = 0 then (if x18 = 0 then ((saronref00_Equal.f k x17 x11).bind fun t238 => (if t238 = true then ((saronlaw06_works.f).bind fun t239 => (some t239)) else (some false))) else (some false)) else (some false)) else (saronlaw06_KernelBack.l1 k x9 x10 x11 x17 x18 x19 x20 0 x189000 x189001 x189002 x189003))
def saronlaw06_KernelBack.l1 : Nat → Int → Int → List Int → List Int → Int → List Int → List Int → Int → Int → Int → Int → List (S66) → Option (Bool)
 | 0, _, _, _, _, _, _, _, _, _, _, _, _ => none
 | k + 1, x9, x10, x11, x17, x18, x19, x20, x24, x189000, x189001, x189002, x189003 => if x24 < 2 then (if x24 = 1 then (saronlaw06_KernelBack.j4 k x9 x10 x11 x17 x18 x19 x20 x24 x10 x189000 x189001 x189002 x189003) else (saronlaw06_KernelBack.j4 k x9 x10 x11 x17 x18 x19 x20 x24 x9 x189000 x189001 x189002 x189003)) else ((saronref00_Equal.f k x19 x20).bind fun t240 => (if t240 = true then (some false) else (if x18 = 0 then ((saronref00_Equal.f k x17 x11).bind fun t241 => (if t241 = true then ((saronlaw06_works.f).bind fun t242 => (some t242)) else (if x18 = 63 then ((saronlaw06_works.f).bind fun t243 => (some t243)) else (some false)))) else (if x18 = 63 then ((saronlaw06_works.f).bind fun t244 => (some t244)) else (some false)))))
def saronlaw06_KernelBack.j4 : Nat → Int → Int → List Int → List Int → Int → List Int → List Int → Int → Int → Int → Int → Int → List (S66) → Option (Bool)
 | 0, _, _, _, _, _, _, _, _, _, _, _, _, _ => none
 | k + 1, x9, x10, x11, x17, x18, x19, x20, x24, x25, x189000, x189001, x189002, x189003 => (kernel_Part.f x189000 x189001 x189002 x189003 x19 x25).bind fun bt245 => ((kernel_Part.f x189000 x189001 x189002 x189003 x20 x25).bind fun bt249 => (if bt245.2 = 0 then (if bt249.2 = 0 then ((saronref00_Equal.f k bt245.1 bt249.1).bind fun t253 => (if t253 = true then (saronlaw06_KernelBack.l1 k x9 x10 x11 x17 x18 x19 x20 (wrap64 (x24 + 1)) x189000 x189001 x189002 x189003) else (some false))) else (some false)) else (some false)))
end
def saronlaw06_KernelBack.f (k : Nat) (a0_0 : Int) (a0_1 : Int) (a0_2 : Int) (l0_3 : List (S66)) (a1_0 : Int) (a1_1 : Int) (l2 : List Int) : Option (Bool) := (kernel_Pairs.f a0_0 a0_1 a0_2 l0_3).bind fun bt190 => ((saronlaw06_sound.f k a0_0 a0_1 a0_2 l0_3).bind fun t194 => (if t194 = true then ((saronref00_Turn.f a1_0 (l0_3.length : Int)).bind fun t196 => ((saronref00_Turn.f a1_1 (l0_3.length : Int)).bind fun t197 => ((saronlaw06_truly.f k a0_0 a0_1 a0_2 l0_3 l2).bind fun t198 => ((kernel_Part.f a0_0 a0_1 a0_2 l0_3 t198 t196).bind fun bt201 => ((kernel_Part.f a0_0 a0_1 a0_2 l0_3 t198 t197).bind fun bt205 => ((saronlaw06_of.f t196 bt201.1).bind fun bt209 => ((saronlaw06_of.f t197 bt205.1).bind fun bt213 => ((kernel_Won.f a0_0 a0_1 a0_2 l0_3 (([(⟨bt209.1, bt209.2⟩ : S60), (⟨bt213.1, bt213.2⟩ : S60)] : List (S60)))).bind fun bt220 => ((kernel_Twins.f a0_0 a0_1 a0_2 l0_3 t196 t197).bind fun bt224 => (if bt190.2 = 0 then (if bt201.2 = 0 then (if bt205.2 = 0 then (if bt224.2.2 = 0 then (saronlaw06_KernelBack.j0 k bt190.1 t196 t197 t198 bt220.1 bt220.2 bt224.1 bt224.2.1 bt224.2.2 false a0_0 a0_1 a0_2 l0_3) else (saronlaw06_KernelBack.j0 k bt190.1 t196 t197 t198 bt220.1 bt220.2 bt224.1 bt224.2.1 bt224.2.2 (bt224.2.2 != 4) a0_0 a0_1 a0_2 l0_3)) else (saronlaw06_KernelBack.j0 k bt190.1 t196 t197 t198 bt220.1 bt220.2 bt224.1 bt224.2.1 bt224.2.2 true a0_0 a0_1 a0_2 l0_3)) else (saronlaw06_KernelBack.j0 k bt190.1 t196 t197 t198 bt220.1 bt220.2 bt224.1 bt224.2.1 bt224.2.2 true a0_0 a0_1 a0_2 l0_3)) else (saronlaw06_KernelBack.j0 k bt190.1 t196 t197 t198 bt220.1 bt220.2 bt224.1 bt224.2.1 bt224.2.2 true a0_0 a0_1 a0_2 l0_3))))))))))) else (if bt190.2 = 60 then (if (bt190.1.length : Int) = 0 then ((saronlaw06_works.f).bind fun t195 => (some t195)) else (some false)) else (some false))))
end Go.Proofs.YtagkfkdoibnhfaaDoor.H
end
section
namespace Go.Proofs.YtagkfkdoibnhfaaDoor.K
open Go.RowKit Go.Proofs.YtagkfkdoibnhfaaDoorW.PrintWords Go.Proofs.YtagkfkdoibnhfaaDoorW.PrintMore Go.Proofs.YtagkfkdoibnhfaaDoor.H
namespace O
theorem mn_min2 (a b : Int) : mn a b = min a b := by unfold mn; omega
theorem mx_max2 (a b : Int) : mx a b = max a b := by unfold mx; omega
def toldIn (l : List S61) (a b : Int) : Bool := l.any fun x => decide (x.f0 = a) && decide (x.f1 = b)
section
variable (T O L : Int) (R : List S66) (l : List S61) (one other : Int) (t w : List Int) (h : Int) (first second : List Int) (e : Int)
theorem back_l0' (hR : 1 ≤ R.length) (hR5 : R.length ≤ 5) (hl : ∀ x ∈ l, 0 ≤ x.f0 ∧ x.f0 < x.f1 ∧ x.f1 < R.length) (hl2 : l.length ≤ 1000) (k : Nat) : ∀ (d i : Nat) (told : Bool), l.length - i = d → i ≤ l.length →
  saronlaw06_KernelBack.l0 (k + d + 1) l one other t w h first second e told (i : Int) T O L R =
   if one = other then saronlaw06_KernelBack.j2 k one other t w h first second e false T O L R else saronlaw06_KernelBack.j2 k one other t w h first second e ((told || toldIn (l.drop i) (min one other) (max one other)) != (e == 4)) T O L R
 | 0, i, told, hd, hi => by
  obtain rfl : i = l.length := by omega
  rw [saronlaw06_KernelBack.l0, if_neg (by omega), List.drop_length]
  simp [toldIn]
 | d + 1, i, told, hd, hi => by
  have hlt : i < l.length := by omega
  obtain ⟨g1, g2, g3⟩ := hl l[i] (List.getElem_mem hlt)
  have ih := fun b => back_l0' hR hR5 hl hl2 k d (i + 1) b (by omega) (by omega)
  have e1 : wrap64 ((R.length : Int) - 1) = (R.length : Int) - 1 := w64 (by omega) (by omega)
  rw [show k + (d + 1) + 1 = (k + d + 1) + 1 by omega, saronlaw06_KernelBack.l0, if_pos (by omega), if_pos (by omega), rd61 l i hlt, sits_f, e1, Option.bind_some, decide_eq_true (by omega : 0 ≤ l[i].f0), decide_eq_true (by omega : l[i].f0 ≤ (R.length : Int) - 1), Bool.and_self, if_pos rfl, if_neg (by omega), if_neg (by omega), up1 i (by omega), ih, ih, ih, mn_min2, mx_max2]
  have ed : toldIn (l.drop i) (min one other) (max one other) = ((decide (l[i].f0 = min one other) && decide (l[i].f1 = max one other)) || toldIn (l.drop (i + 1)) (min one other) (max one other)) := by
   rw [List.drop_eq_getElem_cons hlt]
   rfl
  rw [ed]
  cases told
  ·rw [if_neg (by simp)]
   by_cases h0 : l[i].f0 = min one other
   ·rw [if_pos h0, decide_eq_true h0, Bool.true_and, Bool.false_or]
    rfl
   ·rw [if_neg h0, decide_eq_false h0, Bool.false_and, Bool.false_or, Bool.false_or]
  ·rw [if_pos rfl, Bool.true_or, Bool.true_or]
theorem back_j4 (k : Nat) (i at_ : Int) (p : List Int) (hp : p.length ≤ 100) (hk : 101 ≤ k) (e1 : Part T O L R first at_ = (p, 0)) (e2 : Part T O L R second at_ = (p, 0)) :
  saronlaw06_KernelBack.j4 (k + 1) one other t w h first second i at_ T O L R = saronlaw06_KernelBack.l1 k one other t w h first second (wrap64 (i + 1)) T O L R := by
 simp only [saronlaw06_KernelBack.j4]
 unfold kernel_Part.f
 rw [Option.bind_some, Option.bind_some, e1, e2, if_pos rfl, if_pos rfl, equal_self' p (by omega) k (by omega), Option.bind_some, if_pos rfl]
theorem back_l1' (k : Nat) (hk : 200 ≤ k) (p q : List Int) (hp : p.length ≤ 100) (hq : q.length ≤ 100) (e1 : Part T O L R first one = (p, 0)) (e2 : Part T O L R second one = (p, 0)) (e3 : Part T O L R first other = (q, 0)) (e4 : Part T O L R second other = (q, 0))
  (hne : first ≠ second) (hf : first.length ≤ 100) (ht : t.length ≤ 100) (hw : (w = t ∧ h = 0) ∨ h = 63) : saronlaw06_KernelBack.l1 k one other t w h first second 0 T O L R = some true := by
 obtain ⟨k, rfl⟩ : ∃ z, k = z + 5 := ⟨k - 5, by omega⟩
 have w1 : wrap64 ((0 : Int) + 1) = 1 := by rw [w64 (by omega) (by omega)]; rfl
 have w2 : wrap64 ((1 : Int) + 1) = 2 := by rw [w64 (by omega) (by omega)]; rfl
 rw [show k + 5 = (k + 4) + 1 from rfl, saronlaw06_KernelBack.l1, if_pos (by omega), if_neg (by omega), back_j4 T O L R one other t w h first second (k + 3) 0 one p hp (by omega) e1 e2, w1]
 rw [show k + 3 = (k + 2) + 1 from rfl, saronlaw06_KernelBack.l1, if_pos (by omega), if_pos rfl, back_j4 T O L R one other t w h first second (k + 1) 1 other q hq (by omega) e3 e4, w2]
 rw [saronlaw06_KernelBack.l1, if_neg (by omega), equal_any first second (by omega) k (by omega), Option.bind_some, if_neg (by simpa using hne)]
 rcases hw with ⟨rfl, rfl⟩ | rfl
 ·rw [if_pos rfl, equal_self' w (by omega) k (by omega), Option.bind_some, if_pos rfl]
  rfl
 ·rw [if_neg (by omega), if_pos rfl]
  rfl
end
theorem back_law (T O L : Int) (R : List S66) (n0 n1 : Int) (bits : List Int) (hR : R.length ≤ 9223372036854775807) (hb : bits.length ≤ 9223372036854775807) (k : Nat) (hk : 2 * R.length + 3000 ≤ k) : saronlaw06_KernelBack.f k T O L R n0 n1 bits = some true := by
 unfold saronlaw06_KernelBack.f
 unfold kernel_Pairs.f
 rw [Option.bind_some, sound_f T O L R hR k (by omega), Option.bind_some]
 cases hS : okScale T O L R
 ·have eP : Pairs T O L R = ([], 60) := by unfold Pairs; rw [hS]; rfl
  rw [if_neg (by simp), eP, if_pos rfl]
  rfl
 obtain ⟨t1, t2, t3, t4, t5, t6, t7, t8, t9, hok⟩ := okScale_regs hS
 obtain ⟨t, et, hL, ht⟩ := truly_f hS bits hb k (by omega)
 have r1 := Int.emod_nonneg n0 (show (R.length : Int) ≠ 0 by omega)
 have r2 := Int.emod_lt_of_pos n0 (show 0 < (R.length : Int) by omega)
 have r3 := Int.emod_nonneg n1 (show (R.length : Int) ≠ 0 by omega)
 have r4 := Int.emod_lt_of_pos n1 (show 0 < (R.length : Int) by omega)
 rw [if_pos rfl, turn_f n0 _ (by omega) (by omega), Option.bind_some, turn_f n1 _ (by omega) (by omega), Option.bind_some, et, Option.bind_some]
 generalize n0 % (R.length : Int) = one at *
 generalize n1 % (R.length : Int) = other at *
 have hpart : ∀ r : Int, 0 ≤ r → r < R.length → Part T O L R t r = (partOf T R r t, 0) := fun r h0 h1 => by
  unfold Part okPart
  rw [if_pos hS, if_pos (by
   simp only [Bool.and_eq_true, decide_eq_true_eq, List.all_eq_true]
   exact ⟨⟨⟨hL, h0⟩, h1⟩, ht⟩)]
 have hlp := Pairs_len T O L R
 have hkp := told_pairs hS
 have he : (Pairs T O L R).2 = 0 := by unfold Pairs; rw [if_pos hS]
 unfold kernel_Part.f kernel_Won.f kernel_Twins.f saronlaw06_of.f
 rw [Option.bind_some, Option.bind_some, hpart one r1 r2, hpart other r3 r4, Option.bind_some, Option.bind_some, Option.bind_some, Option.bind_some, if_pos he, if_pos rfl, if_pos rfl]
 have hW := two_won hS hL ht r1 r2 r3 r4
 have hB := two_back hS hL ht r1 r2 r3 r4
 have hT0 := twins_apart T O R one other
 have hsw := twins_swap T O R one other
 show (if (Twins T O L R one other).2.2 = 0 then saronlaw06_KernelBack.j0 k (Pairs T O L R).1 one other t (Won T O L R (two T R t one other)).1 (Won T O L R (two T R t one other)).2 (Twins T O L R one other).1 (Twins T O L R one other).2.1 (Twins T O L R one other).2.2 false T O L R else saronlaw06_KernelBack.j0 k (Pairs T O L R).1 one other t (Won T O L R (two T R t one other)).1 (Won T O L R (two T R t one other)).2 (Twins T O L R one other).1 (Twins T O L R one other).2.1 (Twins T O L R one other).2.2 ((Twins T O L R one other).2.2 != 4) T O L R) = some true
 have htold : one ≠ other → toldIn (Pairs T O L R).1 (min one other) (max one other) = (twins T O R one other).isNone := fun hne => by
  unfold toldIn
  rw [told_any hS _ _ (by omega) (by omega) (by omega)]
  rcases (show one < other ∨ other < one by omega) with h | h
  ·rw [show min one other = one by omega, show max one other = other by omega]
  ·rw [show min one other = other by omega, show max one other = one by omega, hsw]
 obtain ⟨k, rfl⟩ : ∃ z, k = z + ((Pairs T O L R).1.length) + 2 := ⟨k - (Pairs T O L R).1.length - 2, by omega⟩
 have hl0 := fun w h f s e => back_l0' T O L R (Pairs T O L R).1 one other t w h f s e (by omega) (by omega) hkp (by omega) k (Pairs T O L R).1.length 0 false (by omega) (by omega)
 cases htw : twins T O R one other with
 | none =>
  have eT : Twins T O L R one other = ([], [], 4) := by
   unfold Twins
   rw [if_pos hS, if_pos ⟨r1, r2, r3, r4⟩, htw]
  rw [eT, hB (hT0.1 htw), if_neg (by simp)]
  rw [saronlaw06_KernelBack.j0, if_neg (by simp)]
  have h0 := hl0 t 0 [] [] 4
  rw [Int.natCast_zero, List.drop_zero, Bool.false_or] at h0
  rw [h0]
  have hj : saronlaw06_KernelBack.j2 k one other t t 0 [] [] 4 false T O L R = some true := by
   obtain ⟨k, rfl⟩ : ∃ z, k = z + 1 := ⟨k - 1, by omega⟩
   rw [saronlaw06_KernelBack.j2, if_neg (by simp), if_pos rfl, if_pos (by rw [w64 (by simp) (by simp)]; rfl), if_pos rfl, equal_self' t (by omega) k (by omega), Option.bind_some, if_pos rfl]
   rfl
  split
  ·exact hj
  ·rename_i hne
   rw [htold hne, htw]
   exact hj
 | some pq =>
  obtain ⟨p, q⟩ := pq
  have eT : Twins T O L R one other = (times (L / 2).toNat p, q.1 :: q.2 :: times ((L / 2).toNat - 1) p, 0) := by
   unfold Twins
   rw [if_pos hS, if_pos ⟨r1, r2, r3, r4⟩, htw]
  have htw' := htw
  unfold twins at htw'
  obtain ⟨hf, hne, hp, hq⟩ := twinsOf_some _ (pairsOf (T * O)) [] p q (pairs_nodup _) htw'
  have hp' := pairs_mem' hp
  have hq' := pairs_mem' hq
  obtain ⟨n, hn⟩ : ∃ n, (L / 2).toNat = n + 1 := ⟨(L / 2).toNat - 1, by omega⟩
  have hlen := times_length n p
  obtain ⟨f1, f2⟩ := List.append_inj hf (by rw [strokes_width, strokes_width])
  rw [hn, Nat.add_sub_cancel, times_cons] at eT
  have okx : ∀ (x : Int × Int), x ∈ pairsOf (T * O) → ∀ r : Int, 0 ≤ r → r < R.length → Part T O L R (x.1 :: x.2 :: times n p) r = (strokes T R r x.1 x.2 ++ partOf T R r (times n p), 0) := fun x hx r hr hr' => by
   have hx' := pairs_mem' hx
   unfold Part
   rw [if_pos hS, if_pos]
   ·rfl
   unfold okPart
   simp only [Bool.and_eq_true, decide_eq_true_eq, List.all_eq_true, List.length_cons, List.mem_cons]
   refine ⟨⟨⟨by omega, hr⟩, hr'⟩, fun y hy => ?_⟩
   rcases hy with rfl | rfl | hy
   ·omega
   ·omega
   ·rcases times_mems n p y hy with rfl | rfl <;> omega
  have b1 : (strokes T R one p.1 p.2 ++ partOf T R one (times n p)).length ≤ 64 := by
   have h_ := Part_len' T O L one R (p.1 :: p.2 :: times n p)
   rw [okx p (by simpa using hp) one r1 r2] at h_
   exact h_
  have b2 : (strokes T R other p.1 p.2 ++ partOf T R other (times n p)).length ≤ 64 := by
   have h_ := Part_len' T O L other R (p.1 :: p.2 :: times n p)
   rw [okx p (by simpa using hp) other r3 r4] at h_
   exact h_
  rw [eT, if_pos rfl]
  rw [saronlaw06_KernelBack.j0, if_neg (by simp)]
  have h0 := hl0 (Won T O L R (two T R t one other)).1 (Won T O L R (two T R t one other)).2 (p.1 :: p.2 :: times n p) (q.1 :: q.2 :: times n p) 0
  rw [Int.natCast_zero, List.drop_zero, Bool.false_or] at h0
  rw [h0]
  have hj : saronlaw06_KernelBack.j2 k one other t (Won T O L R (two T R t one other)).1 (Won T O L R (two T R t one other)).2 (p.1 :: p.2 :: times n p) (q.1 :: q.2 :: times n p) 0 false T O L R = some true := by
   obtain ⟨k, rfl⟩ : ∃ z, k = z + 1 := ⟨k - 1, by omega⟩
   rw [saronlaw06_KernelBack.j2, if_neg (by simp), if_neg (by omega)]
   have a1 := okx p (by simpa using hp) one r1 r2
   have a2 := okx q (by simpa using hq) one r1 r2
   have a3 := okx p (by simpa using hp) other r3 r4
   have a4 := okx q (by simpa using hq) other r3 r4
   rw [← f1] at a2
   rw [← f2] at a4
   refine back_l1' T O L R one other t _ _ _ _ k (by omega) _ _ (by omega) (by omega) a1 a2 a3 a4 (fun hh => ?_) (by simp only [List.length_cons]; omega) (by omega) ?_
   ·injection hh with h1 hh
    injection hh with h2 hh
    exact hne (Prod.ext h1 h2)
   ·rcases hW with hW | hW <;> rw [hW]
    ·exact .inl ⟨rfl, rfl⟩
    ·exact .inr rfl
  split
  ·exact hj
  ·rename_i hne
   rw [htold hne, htw]
   exact hj
end O
end Go.Proofs.YtagkfkdoibnhfaaDoor.K
end
section
namespace Go.Proofs.YtagkfkdoibnhfaaDoor.H
open Go.RowKit Go.Proofs.YtagkfkdoibnhfaaDoorW.PrintWords Go.Proofs.YtagkfkdoibnhfaaDoorW.PrintLast Go.Proofs.YtagkfkdoibnhfaaDoorW.PrintMore
attribute [local go_sem] max2_int min2_int max_two min_two max_three min_three max_four min_four   -- for this text's walks alone
set_option linter.unusedVariables false
set_option linter.unusedSimpArgs false
set_option maxHeartbeats 8000000 in
set_option maxRecDepth 100000 in
theorem saronlaw06_of.callsS (a0 : Int) (P1_ : Nat → Prop) (A1 : Option Addr) (c1 : Nat) (l1 : List Int) (r1 : Int) (r2 : List Int) (w : World) (hs1 : Kd.V (Kd.int .i64) 3 w w.heap.size (fun k_ => P1_ k_) (.slice A1 l1.length c1) l1) (h : saronlaw06_of.f a0 l1 = some (r1, r2)) :
  Calls Tryd.prog 44 #[.int .i64 a0, .slice A1 l1.length c1] w fun e w' => ∃ v1_ : Value, e = .returned (.agg #[.int .i64 r1, v1_]) ∧ Kd.V (Kd.int .i64) 3 w' w.heap.size (fun k_ => (P1_ k_ ∨ w.heap.size ≤ k_)) v1_ r2 ∧ Below w.heap.size w w' := by
 have hu60 := Tryd.underlying60
 have HO1 := zh (show Kd.V (Kd.int .i64) 3 w w.heap.size (fun k_ => (P1_ k_ ∨ w.heap.size ≤ k_)) (.slice A1 l1.length c1) l1 from Kd.V_mono hs1 (fun k_ hk => .inl hk))
 have HB := zh (Below.refl w.heap.size w)
 have H : (some (a0, l1)) = some (r1, r2) := h
 clear h
 simp only [Option.some.injEq, Prod.mk.injEq] at H
 obtain ⟨rfl, rfl⟩ := H
 go_enter Tryd.func44, Tryd.ntmps44
 go_wp2_with (first | ((with_reducible refine gate_dst (N := 4) rfl ?_); refine box_event ?hg (N := 4) ?hd (cs := #[.int .i64 0, .slice none 0 0]) (t := 60) ?hr ?_; (case hd => rfl); (case hg => rfl); (case hr => first | (go_simp; done) | (go_simp; rfl)); intro gb124 hg w3 hbox hb; have n0_ := zh (Kd.V_below (Kd.V_elderB (zV HO1) gb124 (Nat.le_of_eq hg.symm)) hb); have n1_ := zh (below_step zb hb); have n2_ := zh (hbox); have n3_ := zh ((by rw [hg]; exact (below_size zb) : w.heap.size ≤ gb124)); have n4_ := zh ((by rw [hg]; exact (below_size zb) : w.heap.size ≤ gb124)); clear HO1; clear HB; have HO1 := n0_; have HB := n1_; have BK124 := n2_; have GW124 := n3_; have GE124 := n4_; clear n0_ n1_ n2_ n3_ n4_; clear hb hbox hg; have hcz4_0 : w3.cell? ⟨gb124, 0, none⟩ = some (.int .i64 0) := vb BK124 0; have hcz4_1 : w3.cell? ⟨gb124, 1, none⟩ = some (.slice none 0 0) := vb BK124 1; have hfz4_0 := blk_frozen BK124.out 0; have hfz4_1 := blk_frozen BK124.out 1))
 refine bodyPost_ret (results_cell_row rfl _ _ gb124 60 #[.int .i64 a0, .slice A1 l1.length c1] (0, 0) _ rfl (by (with_reducible repeat (first | refine blk_drewN ?_ _ | refine blk_drew ?_ | refine blk_alloc ?_ _)); refine blk_put (cs := #[.int .i64 a0, .slice none 0 0]) ?_ 1 _ rfl; (with_reducible repeat (first | refine blk_drewN ?_ _ | refine blk_drew ?_ | refine blk_alloc ?_ _)); refine blk_put (cs := #[.int .i64 0, .slice none 0 0]) ?_ 0 _ rfl; (with_reducible repeat (first | refine blk_drewN ?_ _ | refine blk_drew ?_ | refine blk_alloc ?_ _)); exact BK124.out) Tryd.underlying60 rfl zk) rfl ?_
 exact ⟨_, zf, by (with_reducible repeat (first | apply Kd.V_alloc | apply Kd.V_drewN | apply Kd.V_drew)); exact Kd.V_mono (Kd.V_far (p := ⟨gb124, 1, none⟩) (Kd.V_far (p := ⟨gb124, 0, none⟩) (Kd.V_mono HO1.out (fun k_ hk => (⟨hk, hk.2⟩ : _ ∧ k_ ≠ gb124))) (fun _ hk => hk.2) (.int .i64 a0)) (fun _ hk => hk.2) (.slice A1 l1.length c1)) (fun _ hk => hk.1.1), zb⟩
end Go.Proofs.YtagkfkdoibnhfaaDoor.H
end
