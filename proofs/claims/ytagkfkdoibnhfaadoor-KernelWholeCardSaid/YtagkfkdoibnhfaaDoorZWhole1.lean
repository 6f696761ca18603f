/- KernelWhole: for every scale and any number that chooses the rule the law returns true, and each argument reads afterwards as it read before. Condition: when the call begins the package's table of rules reads as the program's text lays it; the card ties that to the text. -/
import Derived.ArgAppend
import Derived.Below
import Derived.BigQuiet
import Derived.Carry
import Derived.ChangeKeysEq
import Derived.Deep.AppendLies
import Derived.Deep.CutBlock
import Derived.Deep.DeepCutAuto
import Derived.Deep.Draws
import Derived.Deep.LoopGhost
import Derived.Deep.OwnRows
import Derived.Deep.QuietTactic
import Derived.Deep.RegionHeld3
import Derived.KernelRfl
import Derived.LaidMore
import Derived.Laws.BitsLemmas
import Derived.Laws.BytesArg
import Derived.Laws.IdiomCopy
import Derived.Laws.MakeOwn
import Derived.Laws.OwnMore
import Derived.Laws.Rows
import Derived.Laws.Slices
import Derived.Lib.AppendStr
import Derived.Lib.ConvBytes
import Derived.Maps.AppendAt
import Derived.OpenShut
import Derived.OrdersHeld
import Derived.OwnWalk
import Derived.ProofKit
import Derived.RowKit
import Derived.RowKit3
import Derived.SevenTiedAt
import Derived.SizedLaws
import Derived.Stop.Joined
import Derived.Tactics
import Derived.WalkKit
import Derived.WideLaws
import Derived.Test.YtagkfkdoibnhfaaDoorCards
import Derived.Test.YtagkfkdoibnhfaaDoorProg
import Derived.Test.YtagkfkdoibnhfaaDoorTie
import Derived.Test.YtagkfkdoibnhfaaDoorZB1
import Derived.Test.YtagkfkdoibnhfaaDoorZB2
import Derived.Test.YtagkfkdoibnhfaaDoorZB4
set_option linter.all false
namespace Go.Proofs
theorem dWh1 {p : Prop} (h : p := by (with_reducible repeat (first | apply Kd.R_alloc | apply Kd.R_drewN | apply Kd.R_drew)); exact (Kd.R_mono (Kd.R_far (p := ⟨gb846, 3, none⟩) (Kd.R_types HO857.out BK846.out (by decide)) (fun _ hk => hk.2) (.slice Ao34 y855.length co34)) (fun _ h_ => h_.1))) : p := h
end Go.Proofs
section
set_option linter.unusedVariables false
set_option linter.unusedSimpArgs false
namespace Go.Proofs.YtagkfkdoibnhfaaDoorW.PrintWords
open Go.RowKit
section
variable {P : Program} {ops : Array Oper} {o : Oper} {a : Act} {Q : Exit → Act → World → Prop} {K : Act → World → Prop}
theorem step_append_cells {w0 W : World} (base : Nat) (hw : Region.wanted o (yielded ops a.tmps) = true) (s x : Operand) (t e : TypeId) (z : Value) (size bytes : Nat)
  (ho : o.op = .call { callee := .builtin .append, args := #[s, x], argTypes := #[t, t] })
  (ht : P.underlying t = some (.slice e)) (hinfo : (P.info? e).map (fun i => (i.zero, i.size, i.bytes)) = some (some z, size, bytes)) (hz : z.cells.size = size) (hs0 : 0 < size) (hb0 : 0 < bytes)
  (v : Value) (n : Nat) (xs ys : List Value) (hs : a.eval s = v) (hx : a.eval x = .slice (some ⟨W.heap.size, 0, none⟩) 1 1) (hys : ys.length = size) (h1 : ∀ u ∈ ys, u.oneCell' = true)
  (HO : W.ownsRow base e size v n xs) (HB : Below base w0 W) (hbase : base ≤ W.heap.size) (hl : (n + 1) * bytes ≤ 140737488355328)
  (h : ∀ v1 w1, w1.ownsRow base e size v1 (n + 1) (xs ++ ys) → Below base w0 w1 → W.grownBy w1 v.ownBlock → (v1.ownBlock = v.ownBlock ∨ ∃ b, v1.ownBlock = some b ∧ W.heap.size ≤ b) → K (a.put o.dst v1) w1) :
  if Region.wanted o (yielded ops a.tmps) = true then Oper.wp P o a (W.alloc (.cells ys.toArray e)) K Q else K (a.put o.dst undef) (W.alloc (.cells ys.toArray e)) := by
 obtain ⟨i0, hi, hzz⟩ := Option.map_eq_some_iff.1 hinfo
 simp only [Prod.mk.injEq] at hzz
 obtain ⟨hz0, hz1, hz2⟩ := hzz
 have hlen : n + 1 ≤ 140737488355328 := Nat.le_trans (Nat.le_mul_of_pos_right _ hb0) hl
 rw [if_pos hw]
 obtain ⟨v1, w1, hr, hown, hg, _, hat⟩ := run_append_own_at (P := P) (W.alloc (.cells ys.toArray e)) base t o.type e i0 z size bytes ht hi hz0 hz1 hz2 hz hs0 v n xs (HO.alloc _) ⟨W.heap.size, 0, none⟩ 1 1 ys (by rw [hys]; simp)
  (by simpa using World.news_of_block (cs := ys.toArray) (t := e) (fr := (0, 0)) (heap_alloc_new W (.cells ys.toArray e))) h1 (by simp only [maxLen]; omega) hl (by simp; omega)
 unfold Oper.wp execOp
 simp only [ho, resolve, invoke, builtin, Sem.run_bind, Sem.run_pure, Result.andThen_ok, List.map_toArray, List.map_cons, List.map_nil, hs, hx, hr]
 refine h v1 w1 hown ((HB.alloc hbase _).grown hg (by simp; omega) (own_base HO)) (World.grownBy.trans (World.grownBy_alloc W _ _) hg) ?_
 rcases hat with hat | hat
 ·exact .inl hat
 ·exact .inr ⟨_, hat, by simp⟩
end
namespace Kd
section
variable {P : Program} {ops : Array Oper} {o : Oper} {a : Act} {Q : Exit → Act → World → Prop} {Kc : Act → World → Prop} {α : Type}
theorem R_append_step (d : Kd α) {w0 W : World} (base : Nat) (hw : Region.wanted o (yielded ops a.tmps) = true) (s x : Operand) (t e : TypeId) (z : Value) (bytes : Nat)
  (ho : o.op = .call { callee := .builtin .append, args := #[s, x], argTypes := #[t, t] })
  (ht : P.underlying t = some (.slice e)) (hinfo : (P.info? e).map (fun i => (i.zero, i.size, i.bytes)) = some (some z, d.sz, bytes)) (hz : z.cells.size = d.sz) (hs0 : 0 < d.sz) (hb0 : 0 < bytes)
  (v : Value) (xs : List α) (p : α) (cs : List Value) (ok okp : Nat → Prop) (hs : a.eval s = v) (hx : a.eval x = .slice (some ⟨W.heap.size, 0, none⟩) 1 1) (hp : d.M W base okp p cs) (hokp : ∀ k, okp k → ok k ∧ some k ≠ v.ownBlock) (hfresh : ∀ k, W.heap.size ≤ k → ok k)
  (HO : d.R e W base ok v xs) (HB : Below base w0 W) (hbase : base ≤ W.heap.size) (hl : (xs.length + 1) * bytes ≤ 140737488355328)
  (h : ∀ v1 w1, d.R e w1 base ok v1 (xs ++ [p]) → Below base w0 w1 → W.grownBy w1 v.ownBlock → (v1.ownBlock = v.ownBlock ∨ ∃ b, v1.ownBlock = some b ∧ W.heap.size ≤ b) → Kc (a.put o.dst v1) w1) :
  if Region.wanted o (yielded ops a.tmps) = true then Oper.wp P o a (W.alloc (.cells cs.toArray e)) Kc Q else Kc (a.put o.dst undef) (W.alloc (.cells cs.toArray e)) := by
 obtain ⟨h0, inner, hown, hr⟩ := HO
 refine step_append_cells base hw s x t e z d.sz bytes ho ht hinfo hz hs0 hb0 v xs.length inner cs hs hx (d.K_len (d.K_of_M hp)) (d.K_one (d.K_of_M hp)) hown HB hbase hl ?_
 intro v1 w1 hown1 hb1 hg1 hat1
 exact h v1 w1 (R_appended h0 hr hp hokp hfresh hown1 hg1 hat1) hb1 hg1 hat1
end
end Kd
theorem cell_far {W : World} {p a : Addr} (h : a.block ≠ p.block) (u : Value) : (W.setCell p u).cell? a = W.cell? a := by
 have := Below.heap_setCell W p u a.block h
 simp [World.cell?, this]
end Go.Proofs.YtagkfkdoibnhfaaDoorW.PrintWords
end
section
namespace Go.Proofs.YtagkfkdoibnhfaaDoor.H
open Go.RowKit Go.Proofs.YtagkfkdoibnhfaaDoorW.PrintWords Go.Proofs.YtagkfkdoibnhfaaDoorW.PrintLast Go.Proofs.YtagkfkdoibnhfaaDoorW.PrintMore
set_option linter.unusedVariables false
set_option linter.unusedSimpArgs false
theorem info66 : (Tryd.prog.info? 66).map (fun i => (i.zero, i.size, i.bytes)) = some (some (.agg #[(.int .i64 0), (.int .i64 0), (.int .i64 0), (.int .i64 0)]), 4, 32) := by kernel_rfl
end Go.Proofs.YtagkfkdoibnhfaaDoor.H
end
section
namespace Go.Proofs.YtagkfkdoibnhfaaDoor.H
open Go.RowKit Go.Proofs.YtagkfkdoibnhfaaDoorW.PrintWords Go.Proofs.YtagkfkdoibnhfaaDoorW.PrintLast Go.Proofs.YtagkfkdoibnhfaaDoorW.PrintMore
attribute [local go_sem] max2_int min2_int max_two min_two max_three min_three max_four min_four   -- for this text's walks alone
set_option linter.unusedVariables false
set_option linter.unusedSimpArgs false
mutual
def saronlaw06_sound.j0 : Nat → Bool → Int → Int → Int → List (S66) → Option (Bool)
 | 0, _, _, _, _, _ => none
 | k + 1, x3, x464000, x464001, x464002, x464003 => saronlaw06_sound.l0 k x3 0 x464000 x464001 x464002 x464003
def saronlaw06_sound.l0 : Nat → Bool → Int → Int → Int → Int → List (S66) → Option (Bool)
 | 0, _, _, _, _, _, _ => none
 | k + 1, x3, x4, x464000, x464001, x464002, x464003 => if x3 = true then (saronlaw06_sound.j2 k x3 x4 (decide (x4 < (x464003.length : Int))) x464000 x464001 x464002 x464003) else (saronlaw06_sound.j2 k x3 x4 false x464000 x464001 x464002 x464003)
def saronlaw06_sound.j2 : Nat → Bool → Int → Bool → Int → Int → Int → List (S66) → Option (Bool)
 | 0, _, _, _, _, _, _, _ => none
 | k + 1, x3, x4, x43, x464000, x464001, x464002, x464003 => if x43 = true then (if 0 ≤ x4 then (if x4 < (x464003.length : Int) then ((saronref00_Sits.f ((rd_T66 x464003 x4).f0) 0 4).bind fun t471 => (if t471 = true then ((saronref00_Band.f ((rd_T66 x464003 x4).f1) ((rd_T66 x464003 x4).f2)).bind fun bt472 => ((saronref00_Good.f bt472.1 bt472.2 0 (wrap64 ((wrap64 (x464000 * x464001)) - 1))).bind fun t474 => (if t474 = true then ((saronref00_Sits.f ((rd_T66 x464003 x4).f3) (-6) 6).bind fun t475 => (saronlaw06_sound.l0 k t475 (wrap64 (x4 + 1)) x464000 x464001 x464002 x464003)) else (saronlaw06_sound.l0 k false (wrap64 (x4 + 1)) x464000 x464001 x464002 x464003)))) else (saronlaw06_sound.l0 k false (wrap64 (x4 + 1)) x464000 x464001 x464002 x464003))) else (none)) else (none)) else (some x3)
end
def saronlaw06_sound.f (k : Nat) (a0_0 : Int) (a0_1 : Int) (a0_2 : Int) (l0_3 : List (S66)) : Option (Bool) := (kernel_Check.f k a0_0 a0_1 a0_2 l0_3).bind fun t464 => (if t464 = 0 then ((saronref00_Sits.f a0_0 2 7).bind fun t465 => (if t465 = true then ((saronref00_Sits.f a0_1 1 3).bind fun t466 => (if t466 = true then ((saronref00_Sits.f a0_2 2 16).bind fun t467 => (if t467 = true then (if (Int.tmod a0_2 2) = 0 then ((saronref00_Sits.f (l0_3.length : Int) 1 5).bind fun t468 => (saronlaw06_sound.j0 k t468 a0_0 a0_1 a0_2 l0_3)) else (saronlaw06_sound.j0 k false a0_0 a0_1 a0_2 l0_3)) else (saronlaw06_sound.j0 k false a0_0 a0_1 a0_2 l0_3))) else (saronlaw06_sound.j0 k false a0_0 a0_1 a0_2 l0_3))) else (saronlaw06_sound.j0 k false a0_0 a0_1 a0_2 l0_3))) else (saronlaw06_sound.j0 k false a0_0 a0_1 a0_2 l0_3))
def saronlaw06_sound.T6 : Bool × List (List Nat × List Nat) := (true, [([], []), ([0], [0]), ([1], [1]), ([2, 2], [2]), ([3], [3]), ([4, 3], [3, 4]), ([3], [3]), ([6, 3], [3, 6]), ([5, 7, 3, 3], [3, 5, 7]), ([3], [3]), ([9, 3], [3, 9]), ([3], [3]), ([11, 3], [3, 11]), ([10, 12, 3], [3, 10, 12]), ([13, 3], [3, 13]), ([8, 14, 8, 3], [3, 8, 14]), ([3, 15], [3, 15]), ([16, 15], [16]), ([17], [17]), ([18, 17], [17, 18]), ([19, 17, 17], [17, 19]), ([17, 20], [17, 20]), ([21, 20, 0, 1, 2, 3, 4, 5, 6, 7, 8, 9, 10, 11, 12, 13, 14, 15, 16, 17, 18, 19, 20, 21], [21])])
def saronlaw06_sound.B6 : List Nat := [0, 1, 3, 7, 15, 31, 15, 79, 255, 15, 527, 15, 2063, 7695, 15887, 32767, 65535, 131071, 262143, 524287, 1048575, 2097151, 4194303]
theorem saronlaw06_sound.tab6 : rtab .any (opsOf Tryd.f39 6) = saronlaw06_sound.T6 := by kernel_rfl
theorem saronlaw06_sound.bits6 : waitsOk saronlaw06_sound.T6.2 saronlaw06_sound.B6 = true := by kernel_rfl
set_option maxHeartbeats 8000000 in
set_option maxRecDepth 100000 in
theorem saronlaw06_sound.calls (k : Nat) (a0_0 : Int) (a0_1 : Int) (a0_2 : Int) (A0_3 : Option Addr) (c0_3 : Nat) (l0_3 : List (S66)) (r : Bool) (w : World) (hr0_3 : Kd.C k66 w A0_3 l0_3.length l0_3) (hc0_3 : l0_3.length ≤ c0_3) (h : saronlaw06_sound.f k a0_0 a0_1 a0_2 l0_3 = some r) :
  Calls Tryd.prog 39 #[.agg #[.int .i64 a0_0, .int .i64 a0_1, .int .i64 a0_2, .slice A0_3 l0_3.length c0_3]] w fun e w' => e = .returned (.bool r) ∧ Below w.heap.size w w' := by
 have hu24 := Tryd.underlying24
 have hu66 := Tryd.underlying66
 have HR0_3 := zh hr0_3
 have HC0_3 := zh hc0_3
 clear hr0_3 hc0_3
 have HB := zh (Below.refl w.heap.size w)
 have H : ((kernel_Check.f k a0_0 a0_1 a0_2 l0_3).bind fun t464 => (if t464 = 0 then ((saronref00_Sits.f a0_0 2 7).bind fun t465 => (if t465 = true then ((saronref00_Sits.f a0_1 1 3).bind fun t466 => (if t466 = true then ((saronref00_Sits.f a0_2 2 16).bind fun t467 => (if t467 = true then (if (Int.tmod a0_2 2) = 0 then ((saronref00_Sits.f (l0_3.length : Int) 1 5).bind fun t468 => (saronlaw06_sound.j0 k t468 a0_0 a0_1 a0_2 l0_3)) else (saronlaw06_sound.j0 k false a0_0 a0_1 a0_2 l0_3)) else (saronlaw06_sound.j0 k false a0_0 a0_1 a0_2 l0_3))) else (saronlaw06_sound.j0 k false a0_0 a0_1 a0_2 l0_3))) else (saronlaw06_sound.j0 k false a0_0 a0_1 a0_2 l0_3))) else (saronlaw06_sound.j0 k false a0_0 a0_1 a0_2 l0_3))) = some r := h
 clear h
 have HC2 := zh H
 clear H
 go_enter Tryd.func39, Tryd.ntmps39
 go_upto_region 1 with (first | ((with_reducible refine gate_dst (N := 1) rfl ?_); (try (refine gate_guard (by rfl) ?_; dsimp only)); refine box_event ?hg (N := 1) ?hd (cs := #[.int .i64 a0_0, .int .i64 a0_1, .int .i64 a0_2, .slice A0_3 l0_3.length c0_3]) (t := 24) ?hr ?_; (case hd => rfl); (case hg => rfl); (case hr => first | (go_simp; done) | (go_simp; rfl)); intro gb463 hg w3 hbox hb; have n0_ := zh (below_step zb hb); have n1_ := zh (hbox); have n2_ := zh ((by rw [hg]; exact (below_size zb) : w.heap.size ≤ gb463)); have n3_ := zh ((by rw [hg]; exact (below_size zb) : w.heap.size ≤ gb463)); clear HB; have HB := n0_; have BK463 := n1_; have GW463 := n2_; have GE463 := n3_; clear n0_ n1_ n2_ n3_; clear hb hbox hg))
 (try simp only [Act.put, List.setIfInBounds_toArray, List.set_cons_zero, List.set_cons_succ])
 go_cut [3] (fun v3 wc => ∃ (kq : Nat) (x3_1 : Bool), v3 = .bool x3_1 ∧ Aside0 (saronlaw06_sound.j0 kq x3_1 a0_0 a0_1 a0_2 l0_3 = some r) ∧ Aside0 (kq ≤ k) ∧ Aside0 (wc.heap[gb463]? = some (.cells #[.int .i64 a0_0, .int .i64 a0_1, .int .i64 a0_2, (.slice A0_3 l0_3.length c0_3)] 24 (0, 0))) ∧ Aside0 (Below w.heap.size w wc))
 case first =>
  have H := HC2.out
  clear HC2
  replace H := Option.bind_eq_some_iff.mp H
  obtain ⟨t464, A40, H⟩ := H
  replace H : (if t464 = 0 then ((saronref00_Sits.f a0_0 2 7).bind fun t465 => (if t465 = true then ((saronref00_Sits.f a0_1 1 3).bind fun t466 => (if t466 = true then ((saronref00_Sits.f a0_2 2 16).bind fun t467 => (if t467 = true then (if (Int.tmod a0_2 2) = 0 then ((saronref00_Sits.f (l0_3.length : Int) 1 5).bind fun t468 => (saronlaw06_sound.j0 k t468 a0_0 a0_1 a0_2 l0_3)) else (saronlaw06_sound.j0 k false a0_0 a0_1 a0_2 l0_3)) else (saronlaw06_sound.j0 k false a0_0 a0_1 a0_2 l0_3))) else (saronlaw06_sound.j0 k false a0_0 a0_1 a0_2 l0_3))) else (saronlaw06_sound.j0 k false a0_0 a0_1 a0_2 l0_3))) else (saronlaw06_sound.j0 k false a0_0 a0_1 a0_2 l0_3)) = some r := H
  have A4 := zh A40
  clear A40
  by_cases c5 : t464 = 0
  ·rw [if_pos c5] at H
   have c5b0 : (t464 == 0) = true := beq_iff_eq.mpr c5
   have c5b1 : (t464 != 0) = false := bne_eq_false_iff_eq.mpr c5
   clear c5
   (first | rw [c5b0] | (simp only [i64_w, i32_w]; rw [c5b0]) | skip)
   replace H := Option.bind_eq_some_iff.mp H
   obtain ⟨t465, A60, H⟩ := H
   replace H : (if t465 = true then ((saronref00_Sits.f a0_1 1 3).bind fun t466 => (if t466 = true then ((saronref00_Sits.f a0_2 2 16).bind fun t467 => (if t467 = true then (if (Int.tmod a0_2 2) = 0 then ((saronref00_Sits.f (l0_3.length : Int) 1 5).bind fun t468 => (saronlaw06_sound.j0 k t468 a0_0 a0_1 a0_2 l0_3)) else (saronlaw06_sound.j0 k false a0_0 a0_1 a0_2 l0_3)) else (saronlaw06_sound.j0 k false a0_0 a0_1 a0_2 l0_3))) else (saronlaw06_sound.j0 k false a0_0 a0_1 a0_2 l0_3))) else (saronlaw06_sound.j0 k false a0_0 a0_1 a0_2 l0_3)) = some r := H
   have A6 := zh A60
   clear A60
   by_cases c7 : t465 = true
   ·subst c7
    have H1 : ((saronref00_Sits.f a0_1 1 3).bind fun t466 => (if t466 = true then ((saronref00_Sits.f a0_2 2 16).bind fun t467 => (if t467 = true then (if (Int.tmod a0_2 2) = 0 then ((saronref00_Sits.f (l0_3.length : Int) 1 5).bind fun t468 => (saronlaw06_sound.j0 k t468 a0_0 a0_1 a0_2 l0_3)) else (saronlaw06_sound.j0 k false a0_0 a0_1 a0_2 l0_3)) else (saronlaw06_sound.j0 k false a0_0 a0_1 a0_2 l0_3))) else (saronlaw06_sound.j0 k false a0_0 a0_1 a0_2 l0_3))) = some r := by rw [if_pos rfl] at H; exact H
    clear H
    have H := H1
    clear H1
    replace H := Option.bind_eq_some_iff.mp H
    obtain ⟨t466, A80, H⟩ := H
    replace H : (if t466 = true then ((saronref00_Sits.f a0_2 2 16).bind fun t467 => (if t467 = true then (if (Int.tmod a0_2 2) = 0 then ((saronref00_Sits.f (l0_3.length : Int) 1 5).bind fun t468 => (saronlaw06_sound.j0 k t468 a0_0 a0_1 a0_2 l0_3)) else (saronlaw06_sound.j0 k false a0_0 a0_1 a0_2 l0_3)) else (saronlaw06_sound.j0 k false a0_0 a0_1 a0_2 l0_3))) else (saronlaw06_sound.j0 k false a0_0 a0_1 a0_2 l0_3)) = some r := H
    have A8 := zh A80
    clear A80
    by_cases c9 : t466 = true
    ·subst c9
     have H1 : ((saronref00_Sits.f a0_2 2 16).bind fun t467 => (if t467 = true then (if (Int.tmod a0_2 2) = 0 then ((saronref00_Sits.f (l0_3.length : Int) 1 5).bind fun t468 => (saronlaw06_sound.j0 k t468 a0_0 a0_1 a0_2 l0_3)) else (saronlaw06_sound.j0 k false a0_0 a0_1 a0_2 l0_3)) else (saronlaw06_sound.j0 k false a0_0 a0_1 a0_2 l0_3))) = some r := by rw [if_pos rfl] at H; exact H
     clear H
     have H := H1
     clear H1
     replace H := Option.bind_eq_some_iff.mp H
     obtain ⟨t467, A100, H⟩ := H
     replace H : (if t467 = true then (if (Int.tmod a0_2 2) = 0 then ((saronref00_Sits.f (l0_3.length : Int) 1 5).bind fun t468 => (saronlaw06_sound.j0 k t468 a0_0 a0_1 a0_2 l0_3)) else (saronlaw06_sound.j0 k false a0_0 a0_1 a0_2 l0_3)) else (saronlaw06_sound.j0 k false a0_0 a0_1 a0_2 l0_3)) = some r := H
     have A10 := zh A100
     clear A100
     by_cases c11 : t467 = true
     ·subst c11
      have H1 : (if (Int.tmod a0_2 2) = 0 then ((saronref00_Sits.f (l0_3.length : Int) 1 5).bind fun t468 => (saronlaw06_sound.j0 k t468 a0_0 a0_1 a0_2 l0_3)) else (saronlaw06_sound.j0 k false a0_0 a0_1 a0_2 l0_3)) = some r := by rw [if_pos rfl] at H; exact H
      clear H
      have H := H1
      clear H1
      by_cases c12 : (Int.tmod a0_2 2) = 0
      ·rw [if_pos c12] at H
       have c12b0 : ((Int.tmod a0_2 2) == 0) = true := beq_iff_eq.mpr c12
       have c12b1 : ((Int.tmod a0_2 2) != 0) = false := bne_eq_false_iff_eq.mpr c12
       clear c12
       replace H := Option.bind_eq_some_iff.mp H
       obtain ⟨t468, A130, H⟩ := H
       replace H : (saronlaw06_sound.j0 k t468 a0_0 a0_1 a0_2 l0_3) = some r := H
       have A13 := zh A130
       clear A130
       have H' := zh H
       clear H
       have hcz14_0 : w3.cell? ⟨gb463, 0, none⟩ = some (.int .i64 a0_0) := vb BK463 0
       have hcz14_1 : w3.cell? ⟨gb463, 1, none⟩ = some (.int .i64 a0_1) := vb BK463 1
       have hcz14_2 : w3.cell? ⟨gb463, 2, none⟩ = some (.int .i64 a0_2) := vb BK463 2
       have hcz14_3 : w3.cell? ⟨gb463, 3, none⟩ = some (.slice A0_3 l0_3.length c0_3) := vb BK463 3
       have hfz14_0 := blk_frozen BK463.out 0
       have hfz14_1 := blk_frozen BK463.out 1
       have hfz14_2 := blk_frozen BK463.out 2
       have hfz14_3 := blk_frozen BK463.out 3
       go_wp2_with (first | ((with_reducible refine gate_callee (f := 19) rfl ?_); refine goesL_ (some 7) rfl rfl Tryd.func19 zk rfl #[.agg #[.int .i64 a0_0, .int .i64 a0_1, .int .i64 a0_2, .slice A0_3 l0_3.length c0_3]] rfl zm ?_; (with_reducible refine (kernel_Check.calls k a0_0 a0_1 a0_2 _ _ l0_3 t464 _ ?side1 ?side2 A4.out).mono ?_); (case side1 => repeat (first | exact (Kd.C_below HR0_3.out HB.out) | (with_reducible refine Kd.C_alloc ?_ _) | (with_reducible refine Kd.C_drewN ?_ _) | (with_reducible refine Kd.C_drew ?_))); (case side2 => exact HC0_3.out); rintro e w15 ⟨rfl, hb⟩; refine ⟨_, rfl, ?_⟩; have n0_ := zh (blk_below (g := gb463) (o := .cells #[.int .i64 a0_0, .int .i64 a0_1, .int .i64 a0_2, .slice A0_3 l0_3.length c0_3] 24 (0, 0)) (zc BK463) hb); have n1_ := zh (below_step zb hb); clear BK463; clear HB; have BK463 := n0_; have HB := n1_; clear n0_ n1_; (try clear hb); (try clear hb2); (try clear hk); (try clear hi); have hcz16_0 : w15.cell? ⟨gb463, 0, none⟩ = some (.int .i64 a0_0) := vb BK463 0; have hcz16_1 : w15.cell? ⟨gb463, 1, none⟩ = some (.int .i64 a0_1) := vb BK463 1; have hcz16_2 : w15.cell? ⟨gb463, 2, none⟩ = some (.int .i64 a0_2) := vb BK463 2; have hcz16_3 : w15.cell? ⟨gb463, 3, none⟩ = some (.slice A0_3 l0_3.length c0_3) := vb BK463 3; have hfz16_0 := blk_frozen BK463.out 0; have hfz16_1 := blk_frozen BK463.out 1; have hfz16_2 := blk_frozen BK463.out 2; have hfz16_3 := blk_frozen BK463.out 3) | (go_at_call 45; (with_reducible refine (saronref00_Sits.calls a0_0 2 7 true _ A6.out).mono ?_); rintro e w' ⟨rfl, ⟨nd, rfl⟩⟩) | (go_at_call 45; (with_reducible refine (saronref00_Sits.calls a0_1 1 3 true _ A8.out).mono ?_); rintro e w' ⟨rfl, ⟨nd, rfl⟩⟩) | (go_at_call 45; (with_reducible refine (saronref00_Sits.calls a0_2 2 16 true _ A10.out).mono ?_); rintro e w' ⟨rfl, ⟨nd, rfl⟩⟩) | (go_at_call 45; (with_reducible refine (saronref00_Sits.calls (l0_3.length : Int) 1 5 t468 _ A13.out).mono ?_); rintro e w' ⟨rfl, ⟨nd, rfl⟩⟩))
       go_meet
       case rel => exact ⟨_, (t468), ze, H', ⟨zo1⟩, ⟨zc BK463⟩, ⟨zb⟩⟩
      ·rw [if_neg c12] at H
       have c12b0 : ((Int.tmod a0_2 2) == 0) = false := beq_eq_false_iff_ne.mpr c12
       have c12b1 : ((Int.tmod a0_2 2) != 0) = true := bne_iff_ne.mpr c12
       have H' := zh H
       clear H
       have hcz17_0 : w3.cell? ⟨gb463, 0, none⟩ = some (.int .i64 a0_0) := vb BK463 0
       have hcz17_1 : w3.cell? ⟨gb463, 1, none⟩ = some (.int .i64 a0_1) := vb BK463 1
       have hcz17_2 : w3.cell? ⟨gb463, 2, none⟩ = some (.int .i64 a0_2) := vb BK463 2
       have hcz17_3 : w3.cell? ⟨gb463, 3, none⟩ = some (.slice A0_3 l0_3.length c0_3) := vb BK463 3
       have hfz17_0 := blk_frozen BK463.out 0
       have hfz17_1 := blk_frozen BK463.out 1
       have hfz17_2 := blk_frozen BK463.out 2
       have hfz17_3 := blk_frozen BK463.out 3
       go_wp2_with (first | ((with_reducible refine gate_callee (f := 19) rfl ?_); refine goesL_ (some 7) rfl rfl Tryd.func19 zk rfl #[.agg #[.int .i64 a0_0, .int .i64 a0_1, .int .i64 a0_2, .slice A0_3 l0_3.length c0_3]] rfl zm ?_; (with_reducible refine (kernel_Check.calls k a0_0 a0_1 a0_2 _ _ l0_3 t464 _ ?side1 ?side2 A4.out).mono ?_); (case side1 => repeat (first | exact (Kd.C_below HR0_3.out HB.out) | (with_reducible refine Kd.C_alloc ?_ _) | (with_reducible refine Kd.C_drewN ?_ _) | (with_reducible refine Kd.C_drew ?_))); (case side2 => exact HC0_3.out); rintro e w18 ⟨rfl, hb⟩; refine ⟨_, rfl, ?_⟩; have n0_ := zh (blk_below (g := gb463) (o := .cells #[.int .i64 a0_0, .int .i64 a0_1, .int .i64 a0_2, .slice A0_3 l0_3.length c0_3] 24 (0, 0)) (zc BK463) hb); have n1_ := zh (below_step zb hb); clear BK463; clear HB; have BK463 := n0_; have HB := n1_; clear n0_ n1_; (try clear hb); (try clear hb2); (try clear hk); (try clear hi); have hcz19_0 : w18.cell? ⟨gb463, 0, none⟩ = some (.int .i64 a0_0) := vb BK463 0; have hcz19_1 : w18.cell? ⟨gb463, 1, none⟩ = some (.int .i64 a0_1) := vb BK463 1; have hcz19_2 : w18.cell? ⟨gb463, 2, none⟩ = some (.int .i64 a0_2) := vb BK463 2; have hcz19_3 : w18.cell? ⟨gb463, 3, none⟩ = some (.slice A0_3 l0_3.length c0_3) := vb BK463 3; have hfz19_0 := blk_frozen BK463.out 0; have hfz19_1 := blk_frozen BK463.out 1; have hfz19_2 := blk_frozen BK463.out 2; have hfz19_3 := blk_frozen BK463.out 3) | (go_at_call 45; (with_reducible refine (saronref00_Sits.calls a0_0 2 7 true _ A6.out).mono ?_); rintro e w' ⟨rfl, ⟨nd, rfl⟩⟩) | (go_at_call 45; (with_reducible refine (saronref00_Sits.calls a0_1 1 3 true _ A8.out).mono ?_); rintro e w' ⟨rfl, ⟨nd, rfl⟩⟩) | (go_at_call 45; (with_reducible refine (saronref00_Sits.calls a0_2 2 16 true _ A10.out).mono ?_); rintro e w' ⟨rfl, ⟨nd, rfl⟩⟩))
       go_meet
       case rel => exact ⟨_, (false), ze, H', ⟨zo1⟩, ⟨zc BK463⟩, ⟨zb⟩⟩
     ·replace c11 := Bool.eq_false_iff.mpr c11
      subst c11
      have H1 : (saronlaw06_sound.j0 k false a0_0 a0_1 a0_2 l0_3) = some r := by rw [if_neg (show ¬ (false = true) by decide)] at H; exact H
      clear H
      have H := H1
      clear H1
      have H' := zh H
      clear H
      have hcz20_0 : w3.cell? ⟨gb463, 0, none⟩ = some (.int .i64 a0_0) := vb BK463 0
      have hcz20_1 : w3.cell? ⟨gb463, 1, none⟩ = some (.int .i64 a0_1) := vb BK463 1
      have hcz20_2 : w3.cell? ⟨gb463, 2, none⟩ = some (.int .i64 a0_2) := vb BK463 2
      have hcz20_3 : w3.cell? ⟨gb463, 3, none⟩ = some (.slice A0_3 l0_3.length c0_3) := vb BK463 3
      have hfz20_0 := blk_frozen BK463.out 0
      have hfz20_1 := blk_frozen BK463.out 1
      have hfz20_2 := blk_frozen BK463.out 2
      have hfz20_3 := blk_frozen BK463.out 3
      go_wp2_with (first | ((with_reducible refine gate_callee (f := 19) rfl ?_); refine goesL_ (some 7) rfl rfl Tryd.func19 zk rfl #[.agg #[.int .i64 a0_0, .int .i64 a0_1, .int .i64 a0_2, .slice A0_3 l0_3.length c0_3]] rfl zm ?_; (with_reducible refine (kernel_Check.calls k a0_0 a0_1 a0_2 _ _ l0_3 t464 _ ?side1 ?side2 A4.out).mono ?_); (case side1 => repeat (first | exact (Kd.C_below HR0_3.out HB.out) | (with_reducible refine Kd.C_alloc ?_ _) | (with_reducible refine Kd.C_drewN ?_ _) | (with_reducible refine Kd.C_drew ?_))); (case side2 => exact HC0_3.out); rintro e w21 ⟨rfl, hb⟩; refine ⟨_, rfl, ?_⟩; have n0_ := zh (blk_below (g := gb463) (o := .cells #[.int .i64 a0_0, .int .i64 a0_1, .int .i64 a0_2, .slice A0_3 l0_3.length c0_3] 24 (0, 0)) (zc BK463) hb); have n1_ := zh (below_step zb hb); clear BK463; clear HB; have BK463 := n0_; have HB := n1_; clear n0_ n1_; (try clear hb); (try clear hb2); (try clear hk); (try clear hi); have hcz22_0 : w21.cell? ⟨gb463, 0, none⟩ = some (.int .i64 a0_0) := vb BK463 0; have hcz22_1 : w21.cell? ⟨gb463, 1, none⟩ = some (.int .i64 a0_1) := vb BK463 1; have hcz22_2 : w21.cell? ⟨gb463, 2, none⟩ = some (.int .i64 a0_2) := vb BK463 2; have hcz22_3 : w21.cell? ⟨gb463, 3, none⟩ = some (.slice A0_3 l0_3.length c0_3) := vb BK463 3; have hfz22_0 := blk_frozen BK463.out 0; have hfz22_1 := blk_frozen BK463.out 1; have hfz22_2 := blk_frozen BK463.out 2; have hfz22_3 := blk_frozen BK463.out 3) | (go_at_call 45; (with_reducible refine (saronref00_Sits.calls a0_0 2 7 true _ A6.out).mono ?_); rintro e w' ⟨rfl, ⟨nd, rfl⟩⟩) | (go_at_call 45; (with_reducible refine (saronref00_Sits.calls a0_1 1 3 true _ A8.out).mono ?_); rintro e w' ⟨rfl, ⟨nd, rfl⟩⟩) | (go_at_call 45; (with_reducible refine (saronref00_Sits.calls a0_2 2 16 false _ A10.out).mono ?_); rintro e w' ⟨rfl, ⟨nd, rfl⟩⟩))
      go_meet
      case rel => exact ⟨_, (false), ze, H', ⟨zo1⟩, ⟨zc BK463⟩, ⟨zb⟩⟩
    ·replace c9 := Bool.eq_false_iff.mpr c9
     subst c9
     have H1 : (saronlaw06_sound.j0 k false a0_0 a0_1 a0_2 l0_3) = some r := by rw [if_neg (show ¬ (false = true) by decide)] at H; exact H
     clear H
     have H := H1
     clear H1
     have H' := zh H
     clear H
     have hcz23_0 : w3.cell? ⟨gb463, 0, none⟩ = some (.int .i64 a0_0) := vb BK463 0
     have hcz23_1 : w3.cell? ⟨gb463, 1, none⟩ = some (.int .i64 a0_1) := vb BK463 1
     have hcz23_2 : w3.cell? ⟨gb463, 2, none⟩ = some (.int .i64 a0_2) := vb BK463 2
     have hcz23_3 : w3.cell? ⟨gb463, 3, none⟩ = some (.slice A0_3 l0_3.length c0_3) := vb BK463 3
     have hfz23_0 := blk_frozen BK463.out 0
     have hfz23_1 := blk_frozen BK463.out 1
     have hfz23_2 := blk_frozen BK463.out 2
     have hfz23_3 := blk_frozen BK463.out 3
     go_wp2_with (first | ((with_reducible refine gate_callee (f := 19) rfl ?_); refine goesL_ (some 7) rfl rfl Tryd.func19 zk rfl #[.agg #[.int .i64 a0_0, .int .i64 a0_1, .int .i64 a0_2, .slice A0_3 l0_3.length c0_3]] rfl zm ?_; (with_reducible refine (kernel_Check.calls k a0_0 a0_1 a0_2 _ _ l0_3 t464 _ ?side1 ?side2 A4.out).mono ?_); (case side1 => repeat (first | exact (Kd.C_below HR0_3.out HB.out) | (with_reducible refine Kd.C_alloc ?_ _) | (with_reducible refine Kd.C_drewN ?_ _) | (with_reducible refine Kd.C_drew ?_))); (case side2 => exact HC0_3.out); rintro e w24 ⟨rfl, hb⟩; refine ⟨_, rfl, ?_⟩; have n0_ := zh (blk_below (g := gb463) (o := .cells #[.int .i64 a0_0, .int .i64 a0_1, .int .i64 a0_2, .slice A0_3 l0_3.length c0_3] 24 (0, 0)) (zc BK463) hb); have n1_ := zh (below_step zb hb); clear BK463; clear HB; have BK463 := n0_; have HB := n1_; clear n0_ n1_; (try clear hb); (try clear hb2); (try clear hk); (try clear hi); have hcz25_0 : w24.cell? ⟨gb463, 0, none⟩ = some (.int .i64 a0_0) := vb BK463 0; have hcz25_1 : w24.cell? ⟨gb463, 1, none⟩ = some (.int .i64 a0_1) := vb BK463 1; have hcz25_2 : w24.cell? ⟨gb463, 2, none⟩ = some (.int .i64 a0_2) := vb BK463 2; have hcz25_3 : w24.cell? ⟨gb463, 3, none⟩ = some (.slice A0_3 l0_3.length c0_3) := vb BK463 3; have hfz25_0 := blk_frozen BK463.out 0; have hfz25_1 := blk_frozen BK463.out 1; have hfz25_2 := blk_frozen BK463.out 2; have hfz25_3 := blk_frozen BK463.out 3) | (go_at_call 45; (with_reducible refine (saronref00_Sits.calls a0_0 2 7 true _ A6.out).mono ?_); rintro e w' ⟨rfl, ⟨nd, rfl⟩⟩) | (go_at_call 45; (with_reducible refine (saronref00_Sits.calls a0_1 1 3 false _ A8.out).mono ?_); rintro e w' ⟨rfl, ⟨nd, rfl⟩⟩))
     go_meet
     case rel => exact ⟨_, (false), ze, H', ⟨zo1⟩, ⟨zc BK463⟩, ⟨zb⟩⟩
   ·replace c7 := Bool.eq_false_iff.mpr c7
    subst c7
    have H1 : (saronlaw06_sound.j0 k false a0_0 a0_1 a0_2 l0_3) = some r := by rw [if_neg (show ¬ (false = true) by decide)] at H; exact H
    clear H
    have H := H1
    clear H1
    have H' := zh H
    clear H
    have hcz26_0 : w3.cell? ⟨gb463, 0, none⟩ = some (.int .i64 a0_0) := vb BK463 0
    have hcz26_1 : w3.cell? ⟨gb463, 1, none⟩ = some (.int .i64 a0_1) := vb BK463 1
    have hcz26_2 : w3.cell? ⟨gb463, 2, none⟩ = some (.int .i64 a0_2) := vb BK463 2
    have hcz26_3 : w3.cell? ⟨gb463, 3, none⟩ = some (.slice A0_3 l0_3.length c0_3) := vb BK463 3
    have hfz26_0 := blk_frozen BK463.out 0
    have hfz26_1 := blk_frozen BK463.out 1
    have hfz26_2 := blk_frozen BK463.out 2
    have hfz26_3 := blk_frozen BK463.out 3
    go_wp2_with (first | ((with_reducible refine gate_callee (f := 19) rfl ?_); refine goesL_ (some 7) rfl rfl Tryd.func19 zk rfl #[.agg #[.int .i64 a0_0, .int .i64 a0_1, .int .i64 a0_2, .slice A0_3 l0_3.length c0_3]] rfl zm ?_; (with_reducible refine (kernel_Check.calls k a0_0 a0_1 a0_2 _ _ l0_3 t464 _ ?side1 ?side2 A4.out).mono ?_); (case side1 => repeat (first | exact (Kd.C_below HR0_3.out HB.out) | (with_reducible refine Kd.C_alloc ?_ _) | (with_reducible refine Kd.C_drewN ?_ _) | (with_reducible refine Kd.C_drew ?_))); (case side2 => exact HC0_3.out); rintro e w27 ⟨rfl, hb⟩; refine ⟨_, rfl, ?_⟩; have n0_ := zh (blk_below (g := gb463) (o := .cells #[.int .i64 a0_0, .int .i64 a0_1, .int .i64 a0_2, .slice A0_3 l0_3.length c0_3] 24 (0, 0)) (zc BK463) hb); have n1_ := zh (below_step zb hb); clear BK463; clear HB; have BK463 := n0_; have HB := n1_; clear n0_ n1_; (try clear hb); (try clear hb2); (try clear hk); (try clear hi); have hcz28_0 : w27.cell? ⟨gb463, 0, none⟩ = some (.int .i64 a0_0) := vb BK463 0; have hcz28_1 : w27.cell? ⟨gb463, 1, none⟩ = some (.int .i64 a0_1) := vb BK463 1; have hcz28_2 : w27.cell? ⟨gb463, 2, none⟩ = some (.int .i64 a0_2) := vb BK463 2; have hcz28_3 : w27.cell? ⟨gb463, 3, none⟩ = some (.slice A0_3 l0_3.length c0_3) := vb BK463 3; have hfz28_0 := blk_frozen BK463.out 0; have hfz28_1 := blk_frozen BK463.out 1; have hfz28_2 := blk_frozen BK463.out 2; have hfz28_3 := blk_frozen BK463.out 3) | (go_at_call 45; (with_reducible refine (saronref00_Sits.calls a0_0 2 7 false _ A6.out).mono ?_); rintro e w' ⟨rfl, ⟨nd, rfl⟩⟩))
    go_meet
    case rel => exact ⟨_, (false), ze, H', ⟨zo1⟩, ⟨zc BK463⟩, ⟨zb⟩⟩
  ·rw [if_neg c5] at H
   have c5b0 : (t464 == 0) = false := beq_eq_false_iff_ne.mpr c5
   have c5b1 : (t464 != 0) = true := bne_iff_ne.mpr c5
   (first | rw [c5b0] | (simp only [i64_w, i32_w]; rw [c5b0]) | skip)
   have H' := zh H
   clear H
   have hcz29_0 : w3.cell? ⟨gb463, 0, none⟩ = some (.int .i64 a0_0) := vb BK463 0
   have hcz29_1 : w3.cell? ⟨gb463, 1, none⟩ = some (.int .i64 a0_1) := vb BK463 1
   have hcz29_2 : w3.cell? ⟨gb463, 2, none⟩ = some (.int .i64 a0_2) := vb BK463 2
   have hcz29_3 : w3.cell? ⟨gb463, 3, none⟩ = some (.slice A0_3 l0_3.length c0_3) := vb BK463 3
   have hfz29_0 := blk_frozen BK463.out 0
   have hfz29_1 := blk_frozen BK463.out 1
   have hfz29_2 := blk_frozen BK463.out 2
   have hfz29_3 := blk_frozen BK463.out 3
   go_wp2_with (first | ((with_reducible refine gate_callee (f := 19) rfl ?_); refine goesL_ (some 7) rfl rfl Tryd.func19 zk rfl #[.agg #[.int .i64 a0_0, .int .i64 a0_1, .int .i64 a0_2, .slice A0_3 l0_3.length c0_3]] rfl zm ?_; (with_reducible refine (kernel_Check.calls k a0_0 a0_1 a0_2 _ _ l0_3 t464 _ ?side1 ?side2 A4.out).mono ?_); (case side1 => repeat (first | exact (Kd.C_below HR0_3.out HB.out) | (with_reducible refine Kd.C_alloc ?_ _) | (with_reducible refine Kd.C_drewN ?_ _) | (with_reducible refine Kd.C_drew ?_))); (case side2 => exact HC0_3.out); rintro e w30 ⟨rfl, hb⟩; refine ⟨_, rfl, ?_⟩; have n0_ := zh (blk_below (g := gb463) (o := .cells #[.int .i64 a0_0, .int .i64 a0_1, .int .i64 a0_2, .slice A0_3 l0_3.length c0_3] 24 (0, 0)) (zc BK463) hb); have n1_ := zh (below_step zb hb); clear BK463; clear HB; have BK463 := n0_; have HB := n1_; clear n0_ n1_; (try clear hb); (try clear hb2); (try clear hk); (try clear hi)))
   go_meet
   case rel => exact ⟨_, (false), ze, H', ⟨zo1⟩, ⟨zc BK463⟩, ⟨zb⟩⟩
 case rest =>
  clear HC2
  try clear c1
  try clear p2
  try clear c3
  try clear c5
  try clear c5b0
  try clear c5b1
  try clear c7
  try clear c9
  try clear c11
  try clear c12
  try clear c12b0
  try clear c12b1
  try clear c19
  try clear hcz14_0
  try clear hcz14_1
  try clear hcz14_2
  try clear hcz14_3
  try clear hcz16_0
  try clear hcz16_1
  try clear hcz16_2
  try clear hcz16_3
  try clear hcz17_0
  try clear hcz17_1
  try clear hcz17_2
  try clear hcz17_3
  try clear hcz19_0
  try clear hcz19_1
  try clear hcz19_2
  try clear hcz19_3
  try clear hcz20_0
  try clear hcz20_1
  try clear hcz20_2
  try clear hcz20_3
  try clear hcz22_0
  try clear hcz22_1
  try clear hcz22_2
  try clear hcz22_3
  try clear hcz23_0
  try clear hcz23_1
  try clear hcz23_2
  try clear hcz23_3
  try clear hcz25_0
  try clear hcz25_1
  try clear hcz25_2
  try clear hcz25_3
  try clear hcz26_0
  try clear hcz26_1
  try clear hcz26_2
  try clear hcz26_3
  try clear hcz28_0
  try clear hcz28_1
  try clear hcz28_2
  try clear hcz28_3
  try clear hcz29_0
  try clear hcz29_1
  try clear hcz29_2
  try clear hcz29_3
  try clear hfz14_0
  try clear hfz14_1
  try clear hfz14_2
  try clear hfz14_3
  try clear hfz16_0
  try clear hfz16_1
  try clear hfz16_2
  try clear hfz16_3
  try clear hfz17_0
  try clear hfz17_1
  try clear hfz17_2
  try clear hfz17_3
  try clear hfz19_0
  try clear hfz19_1
  try clear hfz19_2
  try clear hfz19_3
  try clear hfz20_0
  try clear hfz20_1
  try clear hfz20_2
  try clear hfz20_3
  try clear hfz22_0
  try clear hfz22_1
  try clear hfz22_2
  try clear hfz22_3
  try clear hfz23_0
  try clear hfz23_1
  try clear hfz23_2
  try clear hfz23_3
  try clear hfz25_0
  try clear hfz25_1
  try clear hfz25_2
  try clear hfz25_3
  try clear hfz26_0
  try clear hfz26_1
  try clear hfz26_2
  try clear hfz26_3
  try clear hfz28_0
  try clear hfz28_1
  try clear hfz28_2
  try clear hfz28_3
  try clear hfz29_0
  try clear hfz29_1
  try clear hfz29_2
  try clear hfz29_3
  obtain ⟨kq, x3_1, rfl, HA, HJ1, BK463, HB⟩ := hcut
  cases kq with
  | zero => exact absurd HA.out (by simp [saronlaw06_sound.j0])
  | succ kj1 =>
   have H := HA.out
   clear HA
   simp only [saronlaw06_sound.j0] at H
   have H' := zh H
   clear H
   go_wp2
   go_loopg [3, 4] kj1 (fun kq v3 v4 w' => ∃ (x3_2 : Bool) (x4_2 : Int), v3 = .bool x3_2 ∧ v4 = .int .i64 x4_2 ∧ Aside0 (saronlaw06_sound.l0 kq x3_2 x4_2 a0_0 a0_1 a0_2 l0_3 = some r) ∧ Aside0 (kq ≤ kj1) ∧ Aside0 (w'.heap[gb463]? = some (.cells #[.int .i64 a0_0, .int .i64 a0_1, .int .i64 a0_2, (.slice A0_3 l0_3.length c0_3)] 24 (0, 0))) ∧ Aside0 (Below w.heap.size w w'))
   case atStart => exact ⟨(x3_1), (0), ze, ze, H', ⟨Nat.le_refl _⟩, ⟨zc BK463⟩, ⟨zb⟩⟩
   case round =>
    clear H'
    try clear c1
    try clear p2
    try clear c3
    try clear c5
    try clear c5b0
    try clear c5b1
    try clear c7
    try clear c9
    try clear c11
    try clear c12
    try clear c12b0
    try clear c12b1
    try clear c19
    try clear hcz14_0
    try clear hcz14_1
    try clear hcz14_2
    try clear hcz14_3
    try clear hcz16_0
    try clear hcz16_1
    try clear hcz16_2
    try clear hcz16_3
    try clear hcz17_0
    try clear hcz17_1
    try clear hcz17_2
    try clear hcz17_3
    try clear hcz19_0
    try clear hcz19_1
    try clear hcz19_2
    try clear hcz19_3
    try clear hcz20_0
    try clear hcz20_1
    try clear hcz20_2
    try clear hcz20_3
    try clear hcz22_0
    try clear hcz22_1
    try clear hcz22_2
    try clear hcz22_3
    try clear hcz23_0
    try clear hcz23_1
    try clear hcz23_2
    try clear hcz23_3
    try clear hcz25_0
    try clear hcz25_1
    try clear hcz25_2
    try clear hcz25_3
    try clear hcz26_0
    try clear hcz26_1
    try clear hcz26_2
    try clear hcz26_3
    try clear hcz28_0
    try clear hcz28_1
    try clear hcz28_2
    try clear hcz28_3
    try clear hcz29_0
    try clear hcz29_1
    try clear hcz29_2
    try clear hcz29_3
    try clear hfz14_0
    try clear hfz14_1
    try clear hfz14_2
    try clear hfz14_3
    try clear hfz16_0
    try clear hfz16_1
    try clear hfz16_2
    try clear hfz16_3
    try clear hfz17_0
    try clear hfz17_1
    try clear hfz17_2
    try clear hfz17_3
    try clear hfz19_0
    try clear hfz19_1
    try clear hfz19_2
    try clear hfz19_3
    try clear hfz20_0
    try clear hfz20_1
    try clear hfz20_2
    try clear hfz20_3
    try clear hfz22_0
    try clear hfz22_1
    try clear hfz22_2
    try clear hfz22_3
    try clear hfz23_0
    try clear hfz23_1
    try clear hfz23_2
    try clear hfz23_3
    try clear hfz25_0
    try clear hfz25_1
    try clear hfz25_2
    try clear hfz25_3
    try clear hfz26_0
    try clear hfz26_1
    try clear hfz26_2
    try clear hfz26_3
    try clear hfz28_0
    try clear hfz28_1
    try clear hfz28_2
    try clear hfz28_3
    try clear hfz29_0
    try clear hfz29_1
    try clear hfz29_2
    try clear hfz29_3
    try clear p2
    obtain ⟨x3_2, x4_2, rfl, rfl, HA, HK2, BK463, HB⟩ := hrel
    cases gk with
    | zero => exact absurd HA.out (by simp [saronlaw06_sound.l0])
    | succ k2 =>
     have H := HA.out
     clear HA
     simp only [saronlaw06_sound.l0] at H
     have HC31 := zh H
     clear H
     go_upto_region 3 with (fail)
     go_cut [43] (fun v43 wc => ∃ (kq : Nat) (x43_30 : Bool), v43 = .bool x43_30 ∧ Aside0 (saronlaw06_sound.j2 kq x3_2 x4_2 x43_30 a0_0 a0_1 a0_2 l0_3 = some r) ∧ Aside0 (kq ≤ k2) ∧ Aside0 (wc.heap[gb463]? = some (.cells #[.int .i64 a0_0, .int .i64 a0_1, .int .i64 a0_2, (.slice A0_3 l0_3.length c0_3)] 24 (0, 0))) ∧ Aside0 (Below w.heap.size w wc))
     case first =>
      have H := HC31.out
      clear HC31
      by_cases c32 : x3_2 = true
      ·subst c32
       have H1 : (saronlaw06_sound.j2 k2 true x4_2 (decide (x4_2 < (l0_3.length : Int))) a0_0 a0_1 a0_2 l0_3) = some r := by rw [if_pos rfl] at H; exact H
       clear H
       have H := H1
       clear H1
       have H' := zh H
       clear H
       have hcz33_0 : wr.cell? ⟨gb463, 0, none⟩ = some (.int .i64 a0_0) := vb BK463 0
       have hcz33_1 : wr.cell? ⟨gb463, 1, none⟩ = some (.int .i64 a0_1) := vb BK463 1
       have hcz33_2 : wr.cell? ⟨gb463, 2, none⟩ = some (.int .i64 a0_2) := vb BK463 2
       have hcz33_3 : wr.cell? ⟨gb463, 3, none⟩ = some (.slice A0_3 l0_3.length c0_3) := vb BK463 3
       have hfz33_0 := blk_frozen BK463.out 0
       have hfz33_1 := blk_frozen BK463.out 1
       have hfz33_2 := blk_frozen BK463.out 2
       have hfz33_3 := blk_frozen BK463.out 3
       go_wp2
       go_meet
       case rel => exact ⟨_, (decide (x4_2 < (l0_3.length : Int))), ze, H', ⟨by have := HJ1.out; have := HK2.out; first | omega | exact Nat.le_refl _⟩, ⟨zc BK463⟩, ⟨zb⟩⟩
      ·replace c32 := Bool.eq_false_iff.mpr c32
       subst c32
       have H1 : (saronlaw06_sound.j2 k2 false x4_2 false a0_0 a0_1 a0_2 l0_3) = some r := by rw [if_neg (show ¬ (false = true) by decide)] at H; exact H
       clear H
       have H := H1
       clear H1
       have H' := zh H
       clear H
       go_wp2
       go_meet
       case rel => exact ⟨_, (false), ze, H', ⟨by have := HJ1.out; have := HK2.out; first | omega | exact Nat.le_refl _⟩, ⟨zc BK463⟩, ⟨zb⟩⟩
     case rest =>
      clear HC31
      try clear c1
      try clear p2
      try clear c3
      try clear c5
      try clear c5b0
      try clear c5b1
      try clear c7
      try clear c9
      try clear c11
      try clear c12
      try clear c12b0
      try clear c12b1
      try clear c19
      try clear c32
      try clear hcz14_0
      try clear hcz14_1
      try clear hcz14_2
      try clear hcz14_3
      try clear hcz16_0
      try clear hcz16_1
      try clear hcz16_2
      try clear hcz16_3
      try clear hcz17_0
      try clear hcz17_1
      try clear hcz17_2
      try clear hcz17_3
      try clear hcz19_0
      try clear hcz19_1
      try clear hcz19_2
      try clear hcz19_3
      try clear hcz20_0
      try clear hcz20_1
      try clear hcz20_2
      try clear hcz20_3
      try clear hcz22_0
      try clear hcz22_1
      try clear hcz22_2
      try clear hcz22_3
      try clear hcz23_0
      try clear hcz23_1
      try clear hcz23_2
      try clear hcz23_3
      try clear hcz25_0
      try clear hcz25_1
      try clear hcz25_2
      try clear hcz25_3
      try clear hcz26_0
      try clear hcz26_1
      try clear hcz26_2
      try clear hcz26_3
      try clear hcz28_0
      try clear hcz28_1
      try clear hcz28_2
      try clear hcz28_3
      try clear hcz29_0
      try clear hcz29_1
      try clear hcz29_2
      try clear hcz29_3
      try clear hcz33_0
      try clear hcz33_1
      try clear hcz33_2
      try clear hcz33_3
      try clear hfz14_0
      try clear hfz14_1
      try clear hfz14_2
      try clear hfz14_3
      try clear hfz16_0
      try clear hfz16_1
      try clear hfz16_2
      try clear hfz16_3
      try clear hfz17_0
      try clear hfz17_1
      try clear hfz17_2
      try clear hfz17_3
      try clear hfz19_0
      try clear hfz19_1
      try clear hfz19_2
      try clear hfz19_3
      try clear hfz20_0
      try clear hfz20_1
      try clear hfz20_2
      try clear hfz20_3
      try clear hfz22_0
      try clear hfz22_1
      try clear hfz22_2
      try clear hfz22_3
      try clear hfz23_0
      try clear hfz23_1
      try clear hfz23_2
      try clear hfz23_3
      try clear hfz25_0
      try clear hfz25_1
      try clear hfz25_2
      try clear hfz25_3
      try clear hfz26_0
      try clear hfz26_1
      try clear hfz26_2
      try clear hfz26_3
      try clear hfz28_0
      try clear hfz28_1
      try clear hfz28_2
      try clear hfz28_3
      try clear hfz29_0
      try clear hfz29_1
      try clear hfz29_2
      try clear hfz29_3
      try clear hfz33_0
      try clear hfz33_1
      try clear hfz33_2
      try clear hfz33_3
      try clear p2
      obtain ⟨kq, x43_30, rfl, HA, HJ30, BK463, HB⟩ := hcut
      cases kq with
      | zero => exact absurd HA.out (by simp [saronlaw06_sound.j2])
      | succ kj30 =>
       have H := HA.out
       clear HA
       simp only [saronlaw06_sound.j2] at H
       by_cases c34 : x43_30 = true
       ·subst c34
        have H1 : (if 0 ≤ x4_2 then (if x4_2 < (l0_3.length : Int) then ((saronref00_Sits.f ((rd_T66 l0_3 x4_2).f0) 0 4).bind fun t471 => (if t471 = true then ((saronref00_Band.f ((rd_T66 l0_3 x4_2).f1) ((rd_T66 l0_3 x4_2).f2)).bind fun bt472 => ((saronref00_Good.f bt472.1 bt472.2 0 (wrap64 ((wrap64 (a0_0 * a0_1)) - 1))).bind fun t474 => (if t474 = true then ((saronref00_Sits.f ((rd_T66 l0_3 x4_2).f3) (-6) 6).bind fun t475 => (saronlaw06_sound.l0 kj30 t475 (wrap64 (x4_2 + 1)) a0_0 a0_1 a0_2 l0_3)) else (saronlaw06_sound.l0 kj30 false (wrap64 (x4_2 + 1)) a0_0 a0_1 a0_2 l0_3)))) else (saronlaw06_sound.l0 kj30 false (wrap64 (x4_2 + 1)) a0_0 a0_1 a0_2 l0_3))) else (none)) else (none)) = some r := by rw [if_pos rfl] at H; exact H
        clear H
        have H := H1
        clear H1
        by_cases c35 : 0 ≤ x4_2
        ·rw [if_pos c35] at H
         have c35b0 : decide (0 ≤ x4_2) = true := decide_eq_true c35
         clear c35
         by_cases c36 : x4_2 < (l0_3.length : Int)
         ·rw [if_pos c36] at H
          have c36b0 : decide (x4_2 < (l0_3.length : Int)) = true := decide_eq_true c36
          clear c36
          replace H := Option.bind_eq_some_iff.mp H
          obtain ⟨t471, A370, H⟩ := H
          replace H : (if t471 = true then ((saronref00_Band.f ((rd_T66 l0_3 x4_2).f1) ((rd_T66 l0_3 x4_2).f2)).bind fun bt472 => ((saronref00_Good.f bt472.1 bt472.2 0 (wrap64 ((wrap64 (a0_0 * a0_1)) - 1))).bind fun t474 => (if t474 = true then ((saronref00_Sits.f ((rd_T66 l0_3 x4_2).f3) (-6) 6).bind fun t475 => (saronlaw06_sound.l0 kj30 t475 (wrap64 (x4_2 + 1)) a0_0 a0_1 a0_2 l0_3)) else (saronlaw06_sound.l0 kj30 false (wrap64 (x4_2 + 1)) a0_0 a0_1 a0_2 l0_3)))) else (saronlaw06_sound.l0 kj30 false (wrap64 (x4_2 + 1)) a0_0 a0_1 a0_2 l0_3)) = some r := H
          have A37 := zh A370
          clear A370
          by_cases c38 : t471 = true
          ·subst c38
           have H1 : ((saronref00_Band.f ((rd_T66 l0_3 x4_2).f1) ((rd_T66 l0_3 x4_2).f2)).bind fun bt472 => ((saronref00_Good.f bt472.1 bt472.2 0 (wrap64 ((wrap64 (a0_0 * a0_1)) - 1))).bind fun t474 => (if t474 = true then ((saronref00_Sits.f ((rd_T66 l0_3 x4_2).f3) (-6) 6).bind fun t475 => (saronlaw06_sound.l0 kj30 t475 (wrap64 (x4_2 + 1)) a0_0 a0_1 a0_2 l0_3)) else (saronlaw06_sound.l0 kj30 false (wrap64 (x4_2 + 1)) a0_0 a0_1 a0_2 l0_3)))) = some r := by rw [if_pos rfl] at H; exact H
           clear H
           have H := H1
           clear H1
           replace H := Option.bind_eq_some_iff.mp H
           obtain ⟨⟨t472, t473⟩, A390, H⟩ := H
           replace H : ((saronref00_Good.f t472 t473 0 (wrap64 ((wrap64 (a0_0 * a0_1)) - 1))).bind fun t474 => (if t474 = true then ((saronref00_Sits.f ((rd_T66 l0_3 x4_2).f3) (-6) 6).bind fun t475 => (saronlaw06_sound.l0 kj30 t475 (wrap64 (x4_2 + 1)) a0_0 a0_1 a0_2 l0_3)) else (saronlaw06_sound.l0 kj30 false (wrap64 (x4_2 + 1)) a0_0 a0_1 a0_2 l0_3))) = some r := H
           have A39 := zh A390
           clear A390
           replace H := Option.bind_eq_some_iff.mp H
           obtain ⟨t474, A400, H⟩ := H
           replace H : (if t474 = true then ((saronref00_Sits.f ((rd_T66 l0_3 x4_2).f3) (-6) 6).bind fun t475 => (saronlaw06_sound.l0 kj30 t475 (wrap64 (x4_2 + 1)) a0_0 a0_1 a0_2 l0_3)) else (saronlaw06_sound.l0 kj30 false (wrap64 (x4_2 + 1)) a0_0 a0_1 a0_2 l0_3)) = some r := H
           have A40 := zh A400
           clear A400
           by_cases c41 : t474 = true
           ·subst c41
            have H1 : ((saronref00_Sits.f ((rd_T66 l0_3 x4_2).f3) (-6) 6).bind fun t475 => (saronlaw06_sound.l0 kj30 t475 (wrap64 (x4_2 + 1)) a0_0 a0_1 a0_2 l0_3)) = some r := by rw [if_pos rfl] at H; exact H
            clear H
            have H := H1
            clear H1
            replace H := Option.bind_eq_some_iff.mp H
            obtain ⟨t475, A420, H⟩ := H
            replace H : (saronlaw06_sound.l0 kj30 t475 (wrap64 (x4_2 + 1)) a0_0 a0_1 a0_2 l0_3) = some r := H
            have A42 := zh A420
            clear A420
            have H' := zh H
            clear H
            have hcz43_0 : wc.cell? ⟨gb463, 0, none⟩ = some (.int .i64 a0_0) := vb BK463 0
            have hcz43_1 : wc.cell? ⟨gb463, 1, none⟩ = some (.int .i64 a0_1) := vb BK463 1
            have hcz43_2 : wc.cell? ⟨gb463, 2, none⟩ = some (.int .i64 a0_2) := vb BK463 2
            have hcz43_3 : wc.cell? ⟨gb463, 3, none⟩ = some (.slice A0_3 l0_3.length c0_3) := vb BK463 3
            have hfz43_0 := blk_frozen BK463.out 0
            have hfz43_1 := blk_frozen BK463.out 1
            have hfz43_2 := blk_frozen BK463.out 2
            have hfz43_3 := blk_frozen BK463.out 3
            have p469 : 0 ≤ (x4_2 : Int) := of_decide_eq_true zs
            have q469 : x4_2 < (l0_3.length : Int) := of_decide_eq_true zs
            obtain ⟨ad469, e469, hx469_0, hx469_1, hx469_2, hx469_3⟩ := at_T66 HR0_3.out x4_2 p469 q469
            cases e469
            replace hx469_0 := ve HB.out hx469_0
            replace hx469_1 := ve HB.out hx469_1
            replace hx469_2 := ve HB.out hx469_2
            replace hx469_3 := ve HB.out hx469_3
            replace p469 := eq_true p469
            replace q469 := eq_true q469
            try go_wp2_with (first | ((with_reducible refine gate_dst (N := 5) rfl ?_); (try (refine gate_guard (by rfl) ?_; dsimp only)); refine box_event ?hg (N := 5) ?hd (cs := #[.int .i64 0, .int .i64 0, .int .i64 0, .int .i64 0]) (t := 66) ?hr ?_; (case hd => rfl); (case hg => rfl); (case hr => first | (go_simp; done) | (go_simp; rfl)); intro gb470 hg w44 hbox hb; have n0_ := zh (blk_below (g := gb463) (o := .cells #[.int .i64 a0_0, .int .i64 a0_1, .int .i64 a0_2, .slice (some ad469) l0_3.length c0_3] 24 (0, 0)) (zc BK463) hb); have n1_ := zh (below_step zb hb); have n2_ := zh (hbox); have n3_ := zh ((by rw [hg]; exact (below_size zb) : w.heap.size ≤ gb470)); have n4_ := zh ((by rw [hg]; exact (below_size zb) : w.heap.size ≤ gb470)); have n5_ := zh ((by rw [hg]; exact Nat.ne_of_lt (blk_lt (g := gb463) (o := .cells #[.int .i64 a0_0, .int .i64 a0_1, .int .i64 a0_2, .slice (some ad469) l0_3.length c0_3] 24 (0, 0)) (zc BK463)) : gb463 ≠ gb470)); have n6_ := zh ((by rw [hg]; exact Nat.ne_of_gt (blk_lt (g := gb463) (o := .cells #[.int .i64 a0_0, .int .i64 a0_1, .int .i64 a0_2, .slice (some ad469) l0_3.length c0_3] 24 (0, 0)) (zc BK463)) : gb470 ≠ gb463)); clear BK463; clear HB; have BK463 := n0_; have HB := n1_; have BK470 := n2_; have GW470 := n3_; have GE470 := n4_; have NB463_470 := n5_; have NB470_463 := n6_; clear n0_ n1_ n2_ n3_ n4_ n5_ n6_; clear hb hbox hg; have hnb45 := NB470_463.out; have hnc45 := NB463_470.out; have hcz46_0 : w44.cell? ⟨gb470, 0, none⟩ = some (.int .i64 0) := vb BK470 0; have hcz46_1 : w44.cell? ⟨gb470, 1, none⟩ = some (.int .i64 0) := vb BK470 1; have hcz46_2 : w44.cell? ⟨gb470, 2, none⟩ = some (.int .i64 0) := vb BK470 2; have hcz46_3 : w44.cell? ⟨gb470, 3, none⟩ = some (.int .i64 0) := vb BK470 3; have hfz46_0 := blk_frozen BK470.out 0; have hfz46_1 := blk_frozen BK470.out 1; have hfz46_2 := blk_frozen BK470.out 2; have hfz46_3 := blk_frozen BK470.out 3))
            have n0_ : Aside0 (((((w44.setCell ⟨gb470, 0, none⟩ (.int .i64 ((rd_T66 l0_3 x4_2).f0))).setCell ⟨gb470, 1, none⟩ (.int .i64 ((rd_T66 l0_3 x4_2).f1))).setCell ⟨gb470, 2, none⟩ (.int .i64 ((rd_T66 l0_3 x4_2).f2))).setCell ⟨gb470, 3, none⟩ (.int .i64 ((rd_T66 l0_3 x4_2).f3))).heap[gb463]? = some (.cells #[.int .i64 a0_0, .int .i64 a0_1, .int .i64 a0_2, .slice (some ad469) l0_3.length c0_3] 24 (0, 0))) := ⟨by (with_reducible repeat (first | refine blk_drewN ?_ _ | refine blk_drew ?_ | refine blk_alloc ?_ _)); refine blk_far ?_ NB463_470.out _; (with_reducible repeat (first | refine blk_drewN ?_ _ | refine blk_drew ?_ | refine blk_alloc ?_ _)); refine blk_far ?_ NB463_470.out _; (with_reducible repeat (first | refine blk_drewN ?_ _ | refine blk_drew ?_ | refine blk_alloc ?_ _)); refine blk_far ?_ NB463_470.out _; (with_reducible repeat (first | refine blk_drewN ?_ _ | refine blk_drew ?_ | refine blk_alloc ?_ _)); refine blk_far ?_ NB463_470.out _; (with_reducible repeat (first | refine blk_drewN ?_ _ | refine blk_drew ?_ | refine blk_alloc ?_ _)); exact BK463.out⟩
            have n1_ : Aside0 (((((w44.setCell ⟨gb470, 0, none⟩ (.int .i64 ((rd_T66 l0_3 x4_2).f0))).setCell ⟨gb470, 1, none⟩ (.int .i64 ((rd_T66 l0_3 x4_2).f1))).setCell ⟨gb470, 2, none⟩ (.int .i64 ((rd_T66 l0_3 x4_2).f2))).setCell ⟨gb470, 3, none⟩ (.int .i64 ((rd_T66 l0_3 x4_2).f3))).heap[gb470]? = some (.cells #[.int .i64 ((rd_T66 l0_3 x4_2).f0), .int .i64 ((rd_T66 l0_3 x4_2).f1), .int .i64 ((rd_T66 l0_3 x4_2).f2), .int .i64 ((rd_T66 l0_3 x4_2).f3)] 66 (0, 0))) := ⟨by (with_reducible repeat (first | refine blk_drewN ?_ _ | refine blk_drew ?_ | refine blk_alloc ?_ _)); refine blk_put (cs := #[.int .i64 ((rd_T66 l0_3 x4_2).f0), .int .i64 ((rd_T66 l0_3 x4_2).f1), .int .i64 ((rd_T66 l0_3 x4_2).f2), .int .i64 0]) ?_ 3 _ rfl; (with_reducible repeat (first | refine blk_drewN ?_ _ | refine blk_drew ?_ | refine blk_alloc ?_ _)); refine blk_put (cs := #[.int .i64 ((rd_T66 l0_3 x4_2).f0), .int .i64 ((rd_T66 l0_3 x4_2).f1), .int .i64 0, .int .i64 0]) ?_ 2 _ rfl; (with_reducible repeat (first | refine blk_drewN ?_ _ | refine blk_drew ?_ | refine blk_alloc ?_ _)); refine blk_put (cs := #[.int .i64 ((rd_T66 l0_3 x4_2).f0), .int .i64 0, .int .i64 0, .int .i64 0]) ?_ 1 _ rfl; (with_reducible repeat (first | refine blk_drewN ?_ _ | refine blk_drew ?_ | refine blk_alloc ?_ _)); refine blk_put (cs := #[.int .i64 0, .int .i64 0, .int .i64 0, .int .i64 0]) ?_ 0 _ rfl; (with_reducible repeat (first | refine blk_drewN ?_ _ | refine blk_drew ?_ | refine blk_alloc ?_ _)); exact BK470.out⟩
            have n2_ : Aside0 (Below w.heap.size w ((((w44.setCell ⟨gb470, 0, none⟩ (.int .i64 ((rd_T66 l0_3 x4_2).f0))).setCell ⟨gb470, 1, none⟩ (.int .i64 ((rd_T66 l0_3 x4_2).f1))).setCell ⟨gb470, 2, none⟩ (.int .i64 ((rd_T66 l0_3 x4_2).f2))).setCell ⟨gb470, 3, none⟩ (.int .i64 ((rd_T66 l0_3 x4_2).f3)))) := ⟨zb⟩
            (try clear BK463)
            (try clear BK470)
            (try clear HB)
            generalize ((((w44.setCell ⟨gb470, 0, none⟩ (.int .i64 ((rd_T66 l0_3 x4_2).f0))).setCell ⟨gb470, 1, none⟩ (.int .i64 ((rd_T66 l0_3 x4_2).f1))).setCell ⟨gb470, 2, none⟩ (.int .i64 ((rd_T66 l0_3 x4_2).f2))).setCell ⟨gb470, 3, none⟩ (.int .i64 ((rd_T66 l0_3 x4_2).f3))) = w47 at n0_ n1_ n2_ ⊢
            have BK463 := n0_
            have BK470 := n1_
            have HB := n2_
            clear n0_ n1_ n2_
            replace BK463 := zh (blk_drew BK463.out)
            replace BK470 := zh (blk_drew BK470.out)
            replace HB := zh (below_drew1 HB.out)
            refine start_ (n := 23) (S := fun w' => w'.cell? ⟨gb470, 0, none⟩ = some (.int .i64 ((rd_T66 l0_3 x4_2).f0)) ∧ w'.cell? ⟨gb470, 1, none⟩ = some (.int .i64 ((rd_T66 l0_3 x4_2).f1)) ∧ w'.cell? ⟨gb470, 2, none⟩ = some (.int .i64 ((rd_T66 l0_3 x4_2).f2)) ∧ w'.cell? ⟨gb470, 3, none⟩ = some (.int .i64 ((rd_T66 l0_3 x4_2).f3)) ∧ w'.cell? ⟨gb463, 0, none⟩ = some (.int .i64 a0_0) ∧ w'.cell? ⟨gb463, 1, none⟩ = some (.int .i64 a0_1) ∧ w'.cell? ⟨gb463, 2, none⟩ = some (.int .i64 a0_2) ∧ w'.cell? ⟨gb463, 3, none⟩ = some (.slice (some ad469) l0_3.length c0_3)) (ds := []) (Array.replicate 23 false) zk rfl rfl ⟨vb BK470 0, vb BK470 1, vb BK470 2, vb BK470 3, vb BK463 0, vb BK463 1, vb BK463 2, vb BK463 3⟩ (fun hHeld => ?_); refine with_tabW saronlaw06_sound.tab6 saronlaw06_sound.bits6 (fun HT_ HW_ => ?_)
            generalize w47.drew = w48 at BK463 BK470 HB hHeld ⊢
            refine zu 0 ?_
            refine zt 1 ?_
            refine zo 2 (fun K hK => ?_)
            refine goes_ Tryd.func45 zk rfl #[.int .i64 ((rd_T66 l0_3 x4_2).f0), .int .i64 0, .int .i64 4] (by rfl) rfl rfl zm ?_
            with_reducible refine (saronref00_Sits.calls ((rd_T66 l0_3 x4_2).f0) 0 4 true _ A37.out).mono ?_
            rintro e w' ⟨rfl, ⟨nd, rfl⟩⟩
            refine ⟨_, rfl, ?_⟩
            refine hK.out _ _ ⟨vb BK470 0, vb BK470 1, vb BK470 2, vb BK470 3, vb BK463 0, vb BK463 1, vb BK463 2, vb BK463 3⟩ (fun hHeld => ?_)
            clear hK K
            refine zr 53 _ ?_
            refine zu 3 ?_
            refine zu 4 ?_
            refine zu 6 ?_
            refine zu 9 ?_
            refine zu 11 ?_
            refine zt 5 ?_
            refine zt 7 ?_
            refine zt 10 ?_
            refine zt 12 ?_
            refine zu 13 ?_
            refine zu 14 ?_
            refine zo 8 (fun K hK => ?_)
            refine goes_ Tryd.func61 zk rfl #[.int .i64 ((rd_T66 l0_3 x4_2).f1), .int .i64 ((rd_T66 l0_3 x4_2).f2)] (by rfl) rfl rfl zm ?_
            with_reducible refine (saronref00_Band.calls ((rd_T66 l0_3 x4_2).f1) ((rd_T66 l0_3 x4_2).f2) t472 t473 _ A39.out).mono ?_
            rintro e w49 ⟨rfl, hb⟩
            refine ⟨_, rfl, ?_⟩
            replace BK463 := zh (blk_below (g := gb463) (o := .cells #[.int .i64 a0_0, .int .i64 a0_1, .int .i64 a0_2, .slice (some ad469) l0_3.length c0_3] 24 (0, 0)) (zc BK463) hb)
            replace BK470 := zh (blk_below (g := gb470) (o := .cells #[.int .i64 ((rd_T66 l0_3 x4_2).f0), .int .i64 ((rd_T66 l0_3 x4_2).f1), .int .i64 ((rd_T66 l0_3 x4_2).f2), .int .i64 ((rd_T66 l0_3 x4_2).f3)] 66 (0, 0)) (zc BK470) hb)
            replace HB := zh (below_step zb hb)
            (try clear hb)
            (try clear hb2)
            (try clear hk)
            (try clear hi)
            refine hK.out _ _ ⟨vb BK470 0, vb BK470 1, vb BK470 2, vb BK470 3, vb BK463 0, vb BK463 1, vb BK463 2, vb BK463 3⟩ (fun hHeld => ?_)
            clear hK K
            refine zr 59 _ ?_
            refine zo 15 (fun K hK => ?_)
            refine goes_ Tryd.func60 zk rfl #[.agg #[.int .i64 t472, .int .i64 t473], .int .i64 0, .int .i64 (wrap64 ((wrap64 (a0_0 * a0_1)) - 1))] (by rfl) rfl rfl zm ?_
            with_reducible refine (saronref00_Good.calls t472 t473 0 (wrap64 ((wrap64 (a0_0 * a0_1)) - 1)) true _ A40.out).mono ?_
            rintro e w50 ⟨rfl, hb⟩
            refine ⟨_, rfl, ?_⟩
            replace BK463 := zh (blk_below (g := gb463) (o := .cells #[.int .i64 a0_0, .int .i64 a0_1, .int .i64 a0_2, .slice (some ad469) l0_3.length c0_3] 24 (0, 0)) (zc BK463) hb)
            replace BK470 := zh (blk_below (g := gb470) (o := .cells #[.int .i64 ((rd_T66 l0_3 x4_2).f0), .int .i64 ((rd_T66 l0_3 x4_2).f1), .int .i64 ((rd_T66 l0_3 x4_2).f2), .int .i64 ((rd_T66 l0_3 x4_2).f3)] 66 (0, 0)) (zc BK470) hb)
            replace HB := zh (below_step zb hb)
            (try clear hb)
            (try clear hb2)
            (try clear hk)
            (try clear hi)
            refine hK.out _ _ ⟨vb BK470 0, vb BK470 1, vb BK470 2, vb BK470 3, vb BK463 0, vb BK463 1, vb BK463 2, vb BK463 3⟩ (fun hHeld => ?_)
            clear hK K
            refine zr 66 _ ?_
            refine zu 16 ?_
            refine zu 17 ?_
            refine zu 18 ?_
            refine zt 19 ?_
            refine zo 20 (fun K hK => ?_)
            refine goes_ Tryd.func45 zk rfl #[.int .i64 ((rd_T66 l0_3 x4_2).f3), .int .i64 (-6), .int .i64 6] (by rfl) rfl rfl zm ?_
            with_reducible refine (saronref00_Sits.calls ((rd_T66 l0_3 x4_2).f3) (-6) 6 t475 _ A42.out).mono ?_
            rintro e w' ⟨rfl, ⟨nd, rfl⟩⟩
            refine ⟨_, rfl, ?_⟩
            refine hK.out _ _ ⟨vb BK470 0, vb BK470 1, vb BK470 2, vb BK470 3, vb BK463 0, vb BK463 1, vb BK463 2, vb BK463 3⟩ (fun hHeld => ?_)
            clear hK K
            refine zr 71 _ ?_
            refine zu 21 ?_
            refine zu 22 ?_
            refine zd ?_
            try go_wp2
            go_roundg kj30
            case measure => have := HJ1.out; have := HK2.out; have := HJ30.out; omega
            case rel => exact ⟨(t475), (wrap64 (x4_2 + 1)), ze, ze, H', ⟨by have := HJ1.out; have := HK2.out; have := HJ30.out; omega⟩, ⟨zc BK463⟩, ⟨zb⟩⟩
           ·replace c41 := Bool.eq_false_iff.mpr c41
            subst c41
            have H1 : (saronlaw06_sound.l0 kj30 false (wrap64 (x4_2 + 1)) a0_0 a0_1 a0_2 l0_3) = some r := by rw [if_neg (show ¬ (false = true) by decide)] at H; exact H
            clear H
            have H := H1
            clear H1
            have H' := zh H
            clear H
            have hcz51_0 : wc.cell? ⟨gb463, 0, none⟩ = some (.int .i64 a0_0) := vb BK463 0
            have hcz51_1 : wc.cell? ⟨gb463, 1, none⟩ = some (.int .i64 a0_1) := vb BK463 1
            have hcz51_2 : wc.cell? ⟨gb463, 2, none⟩ = some (.int .i64 a0_2) := vb BK463 2
            have hcz51_3 : wc.cell? ⟨gb463, 3, none⟩ = some (.slice A0_3 l0_3.length c0_3) := vb BK463 3
            have hfz51_0 := blk_frozen BK463.out 0
            have hfz51_1 := blk_frozen BK463.out 1
            have hfz51_2 := blk_frozen BK463.out 2
            have hfz51_3 := blk_frozen BK463.out 3
            have p469 : 0 ≤ (x4_2 : Int) := of_decide_eq_true zs
            have q469 : x4_2 < (l0_3.length : Int) := of_decide_eq_true zs
            obtain ⟨ad469, e469, hx469_0, hx469_1, hx469_2, hx469_3⟩ := at_T66 HR0_3.out x4_2 p469 q469
            cases e469
            replace hx469_0 := ve HB.out hx469_0
            replace hx469_1 := ve HB.out hx469_1
            replace hx469_2 := ve HB.out hx469_2
            replace hx469_3 := ve HB.out hx469_3
            replace p469 := eq_true p469
            replace q469 := eq_true q469
            try go_wp2_with (first | ((with_reducible refine gate_dst (N := 5) rfl ?_); (try (refine gate_guard (by rfl) ?_; dsimp only)); refine box_event ?hg (N := 5) ?hd (cs := #[.int .i64 0, .int .i64 0, .int .i64 0, .int .i64 0]) (t := 66) ?hr ?_; (case hd => rfl); (case hg => rfl); (case hr => first | (go_simp; done) | (go_simp; rfl)); intro gb470 hg w52 hbox hb; have n0_ := zh (blk_below (g := gb463) (o := .cells #[.int .i64 a0_0, .int .i64 a0_1, .int .i64 a0_2, .slice (some ad469) l0_3.length c0_3] 24 (0, 0)) (zc BK463) hb); have n1_ := zh (below_step zb hb); have n2_ := zh (hbox); have n3_ := zh ((by rw [hg]; exact (below_size zb) : w.heap.size ≤ gb470)); have n4_ := zh ((by rw [hg]; exact (below_size zb) : w.heap.size ≤ gb470)); have n5_ := zh ((by rw [hg]; exact Nat.ne_of_lt (blk_lt (g := gb463) (o := .cells #[.int .i64 a0_0, .int .i64 a0_1, .int .i64 a0_2, .slice (some ad469) l0_3.length c0_3] 24 (0, 0)) (zc BK463)) : gb463 ≠ gb470)); have n6_ := zh ((by rw [hg]; exact Nat.ne_of_gt (blk_lt (g := gb463) (o := .cells #[.int .i64 a0_0, .int .i64 a0_1, .int .i64 a0_2, .slice (some ad469) l0_3.length c0_3] 24 (0, 0)) (zc BK463)) : gb470 ≠ gb463)); clear BK463; clear HB; have BK463 := n0_; have HB := n1_; have BK470 := n2_; have GW470 := n3_; have GE470 := n4_; have NB463_470 := n5_; have NB470_463 := n6_; clear n0_ n1_ n2_ n3_ n4_ n5_ n6_; clear hb hbox hg; have hnb53 := NB470_463.out; have hnc53 := NB463_470.out; have hcz54_0 : w52.cell? ⟨gb470, 0, none⟩ = some (.int .i64 0) := vb BK470 0; have hcz54_1 : w52.cell? ⟨gb470, 1, none⟩ = some (.int .i64 0) := vb BK470 1; have hcz54_2 : w52.cell? ⟨gb470, 2, none⟩ = some (.int .i64 0) := vb BK470 2; have hcz54_3 : w52.cell? ⟨gb470, 3, none⟩ = some (.int .i64 0) := vb BK470 3; have hfz54_0 := blk_frozen BK470.out 0; have hfz54_1 := blk_frozen BK470.out 1; have hfz54_2 := blk_frozen BK470.out 2; have hfz54_3 := blk_frozen BK470.out 3))
            have n0_ : Aside0 (((((w52.setCell ⟨gb470, 0, none⟩ (.int .i64 ((rd_T66 l0_3 x4_2).f0))).setCell ⟨gb470, 1, none⟩ (.int .i64 ((rd_T66 l0_3 x4_2).f1))).setCell ⟨gb470, 2, none⟩ (.int .i64 ((rd_T66 l0_3 x4_2).f2))).setCell ⟨gb470, 3, none⟩ (.int .i64 ((rd_T66 l0_3 x4_2).f3))).heap[gb463]? = some (.cells #[.int .i64 a0_0, .int .i64 a0_1, .int .i64 a0_2, .slice (some ad469) l0_3.length c0_3] 24 (0, 0))) := ⟨by (with_reducible repeat (first | refine blk_drewN ?_ _ | refine blk_drew ?_ | refine blk_alloc ?_ _)); refine blk_far ?_ NB463_470.out _; (with_reducible repeat (first | refine blk_drewN ?_ _ | refine blk_drew ?_ | refine blk_alloc ?_ _)); refine blk_far ?_ NB463_470.out _; (with_reducible repeat (first | refine blk_drewN ?_ _ | refine blk_drew ?_ | refine blk_alloc ?_ _)); refine blk_far ?_ NB463_470.out _; (with_reducible repeat (first | refine blk_drewN ?_ _ | refine blk_drew ?_ | refine blk_alloc ?_ _)); refine blk_far ?_ NB463_470.out _; (with_reducible repeat (first | refine blk_drewN ?_ _ | refine blk_drew ?_ | refine blk_alloc ?_ _)); exact BK463.out⟩
            have n1_ : Aside0 (((((w52.setCell ⟨gb470, 0, none⟩ (.int .i64 ((rd_T66 l0_3 x4_2).f0))).setCell ⟨gb470, 1, none⟩ (.int .i64 ((rd_T66 l0_3 x4_2).f1))).setCell ⟨gb470, 2, none⟩ (.int .i64 ((rd_T66 l0_3 x4_2).f2))).setCell ⟨gb470, 3, none⟩ (.int .i64 ((rd_T66 l0_3 x4_2).f3))).heap[gb470]? = some (.cells #[.int .i64 ((rd_T66 l0_3 x4_2).f0), .int .i64 ((rd_T66 l0_3 x4_2).f1), .int .i64 ((rd_T66 l0_3 x4_2).f2), .int .i64 ((rd_T66 l0_3 x4_2).f3)] 66 (0, 0))) := ⟨by (with_reducible repeat (first | refine blk_drewN ?_ _ | refine blk_drew ?_ | refine blk_alloc ?_ _)); refine blk_put (cs := #[.int .i64 ((rd_T66 l0_3 x4_2).f0), .int .i64 ((rd_T66 l0_3 x4_2).f1), .int .i64 ((rd_T66 l0_3 x4_2).f2), .int .i64 0]) ?_ 3 _ rfl; (with_reducible repeat (first | refine blk_drewN ?_ _ | refine blk_drew ?_ | refine blk_alloc ?_ _)); refine blk_put (cs := #[.int .i64 ((rd_T66 l0_3 x4_2).f0), .int .i64 ((rd_T66 l0_3 x4_2).f1), .int .i64 0, .int .i64 0]) ?_ 2 _ rfl; (with_reducible repeat (first | refine blk_drewN ?_ _ | refine blk_drew ?_ | refine blk_alloc ?_ _)); refine blk_put (cs := #[.int .i64 ((rd_T66 l0_3 x4_2).f0), .int .i64 0, .int .i64 0, .int .i64 0]) ?_ 1 _ rfl; (with_reducible repeat (first | refine blk_drewN ?_ _ | refine blk_drew ?_ | refine blk_alloc ?_ _)); refine blk_put (cs := #[.int .i64 0, .int .i64 0, .int .i64 0, .int .i64 0]) ?_ 0 _ rfl; (with_reducible repeat (first | refine blk_drewN ?_ _ | refine blk_drew ?_ | refine blk_alloc ?_ _)); exact BK470.out⟩
            have n2_ : Aside0 (Below w.heap.size w ((((w52.setCell ⟨gb470, 0, none⟩ (.int .i64 ((rd_T66 l0_3 x4_2).f0))).setCell ⟨gb470, 1, none⟩ (.int .i64 ((rd_T66 l0_3 x4_2).f1))).setCell ⟨gb470, 2, none⟩ (.int .i64 ((rd_T66 l0_3 x4_2).f2))).setCell ⟨gb470, 3, none⟩ (.int .i64 ((rd_T66 l0_3 x4_2).f3)))) := ⟨zb⟩
            (try clear BK463)
            (try clear BK470)
            (try clear HB)
            generalize ((((w52.setCell ⟨gb470, 0, none⟩ (.int .i64 ((rd_T66 l0_3 x4_2).f0))).setCell ⟨gb470, 1, none⟩ (.int .i64 ((rd_T66 l0_3 x4_2).f1))).setCell ⟨gb470, 2, none⟩ (.int .i64 ((rd_T66 l0_3 x4_2).f2))).setCell ⟨gb470, 3, none⟩ (.int .i64 ((rd_T66 l0_3 x4_2).f3))) = w55 at n0_ n1_ n2_ ⊢
            have BK463 := n0_
            have BK470 := n1_
            have HB := n2_
            clear n0_ n1_ n2_
            replace BK463 := zh (blk_drew BK463.out)
            replace BK470 := zh (blk_drew BK470.out)
            replace HB := zh (below_drew1 HB.out)
            refine start_ (n := 23) (S := fun w' => w'.cell? ⟨gb470, 0, none⟩ = some (.int .i64 ((rd_T66 l0_3 x4_2).f0)) ∧ w'.cell? ⟨gb470, 1, none⟩ = some (.int .i64 ((rd_T66 l0_3 x4_2).f1)) ∧ w'.cell? ⟨gb470, 2, none⟩ = some (.int .i64 ((rd_T66 l0_3 x4_2).f2)) ∧ w'.cell? ⟨gb470, 3, none⟩ = some (.int .i64 ((rd_T66 l0_3 x4_2).f3)) ∧ w'.cell? ⟨gb463, 0, none⟩ = some (.int .i64 a0_0) ∧ w'.cell? ⟨gb463, 1, none⟩ = some (.int .i64 a0_1) ∧ w'.cell? ⟨gb463, 2, none⟩ = some (.int .i64 a0_2) ∧ w'.cell? ⟨gb463, 3, none⟩ = some (.slice (some ad469) l0_3.length c0_3)) (ds := []) (Array.replicate 23 false) zk rfl rfl ⟨vb BK470 0, vb BK470 1, vb BK470 2, vb BK470 3, vb BK463 0, vb BK463 1, vb BK463 2, vb BK463 3⟩ (fun hHeld => ?_); refine with_tabW saronlaw06_sound.tab6 saronlaw06_sound.bits6 (fun HT_ HW_ => ?_)
            generalize w55.drew = w56 at BK463 BK470 HB hHeld ⊢
            refine zu 0 ?_
            refine zt 1 ?_
            refine zo 2 (fun K hK => ?_)
            refine goes_ Tryd.func45 zk rfl #[.int .i64 ((rd_T66 l0_3 x4_2).f0), .int .i64 0, .int .i64 4] (by rfl) rfl rfl zm ?_
            with_reducible refine (saronref00_Sits.calls ((rd_T66 l0_3 x4_2).f0) 0 4 true _ A37.out).mono ?_
            rintro e w' ⟨rfl, ⟨nd, rfl⟩⟩
            refine ⟨_, rfl, ?_⟩
            refine hK.out _ _ ⟨vb BK470 0, vb BK470 1, vb BK470 2, vb BK470 3, vb BK463 0, vb BK463 1, vb BK463 2, vb BK463 3⟩ (fun hHeld => ?_)
            clear hK K
            refine zr 53 _ ?_
            refine zu 3 ?_
            refine zu 4 ?_
            refine zu 6 ?_
            refine zu 9 ?_
            refine zu 11 ?_
            refine zt 5 ?_
            refine zt 7 ?_
            refine zt 10 ?_
            refine zt 12 ?_
            refine zu 13 ?_
            refine zu 14 ?_
            refine zo 8 (fun K hK => ?_)
            refine goes_ Tryd.func61 zk rfl #[.int .i64 ((rd_T66 l0_3 x4_2).f1), .int .i64 ((rd_T66 l0_3 x4_2).f2)] (by rfl) rfl rfl zm ?_
            with_reducible refine (saronref00_Band.calls ((rd_T66 l0_3 x4_2).f1) ((rd_T66 l0_3 x4_2).f2) t472 t473 _ A39.out).mono ?_
            rintro e w57 ⟨rfl, hb⟩
            refine ⟨_, rfl, ?_⟩
            replace BK463 := zh (blk_below (g := gb463) (o := .cells #[.int .i64 a0_0, .int .i64 a0_1, .int .i64 a0_2, .slice (some ad469) l0_3.length c0_3] 24 (0, 0)) (zc BK463) hb)
            replace BK470 := zh (blk_below (g := gb470) (o := .cells #[.int .i64 ((rd_T66 l0_3 x4_2).f0), .int .i64 ((rd_T66 l0_3 x4_2).f1), .int .i64 ((rd_T66 l0_3 x4_2).f2), .int .i64 ((rd_T66 l0_3 x4_2).f3)] 66 (0, 0)) (zc BK470) hb)
            replace HB := zh (below_step zb hb)
            (try clear hb)
            (try clear hb2)
            (try clear hk)
            (try clear hi)
            refine hK.out _ _ ⟨vb BK470 0, vb BK470 1, vb BK470 2, vb BK470 3, vb BK463 0, vb BK463 1, vb BK463 2, vb BK463 3⟩ (fun hHeld => ?_)
            clear hK K
            refine zr 59 _ ?_
            refine zo 15 (fun K hK => ?_)
            refine goes_ Tryd.func60 zk rfl #[.agg #[.int .i64 t472, .int .i64 t473], .int .i64 0, .int .i64 (wrap64 ((wrap64 (a0_0 * a0_1)) - 1))] (by rfl) rfl rfl zm ?_
            with_reducible refine (saronref00_Good.calls t472 t473 0 (wrap64 ((wrap64 (a0_0 * a0_1)) - 1)) false _ A40.out).mono ?_
            rintro e w58 ⟨rfl, hb⟩
            refine ⟨_, rfl, ?_⟩
            replace BK463 := zh (blk_below (g := gb463) (o := .cells #[.int .i64 a0_0, .int .i64 a0_1, .int .i64 a0_2, .slice (some ad469) l0_3.length c0_3] 24 (0, 0)) (zc BK463) hb)
            replace BK470 := zh (blk_below (g := gb470) (o := .cells #[.int .i64 ((rd_T66 l0_3 x4_2).f0), .int .i64 ((rd_T66 l0_3 x4_2).f1), .int .i64 ((rd_T66 l0_3 x4_2).f2), .int .i64 ((rd_T66 l0_3 x4_2).f3)] 66 (0, 0)) (zc BK470) hb)
            replace HB := zh (below_step zb hb)
            (try clear hb)
            (try clear hb2)
            (try clear hk)
            (try clear hi)
            refine hK.out _ _ ⟨vb BK470 0, vb BK470 1, vb BK470 2, vb BK470 3, vb BK463 0, vb BK463 1, vb BK463 2, vb BK463 3⟩ (fun hHeld => ?_)
            clear hK K
            refine zr 66 _ ?_
            refine zu 16 ?_
            refine zu 17 ?_
            refine zn 18 ?_
            refine zn 19 ?_
            refine zn 20 ?_
            refine zu 21 ?_
            refine zu 22 ?_
            refine zd ?_
            try go_wp2
            go_roundg kj30
            case measure => have := HJ1.out; have := HK2.out; have := HJ30.out; omega
            case rel => exact ⟨(false), (wrap64 (x4_2 + 1)), ze, ze, H', ⟨by have := HJ1.out; have := HK2.out; have := HJ30.out; omega⟩, ⟨zc BK463⟩, ⟨zb⟩⟩
          ·replace c38 := Bool.eq_false_iff.mpr c38
           subst c38
           have H1 : (saronlaw06_sound.l0 kj30 false (wrap64 (x4_2 + 1)) a0_0 a0_1 a0_2 l0_3) = some r := by rw [if_neg (show ¬ (false = true) by decide)] at H; exact H
           clear H
           have H := H1
           clear H1
           have H' := zh H
           clear H
           have hcz59_0 : wc.cell? ⟨gb463, 0, none⟩ = some (.int .i64 a0_0) := vb BK463 0
           have hcz59_1 : wc.cell? ⟨gb463, 1, none⟩ = some (.int .i64 a0_1) := vb BK463 1
           have hcz59_2 : wc.cell? ⟨gb463, 2, none⟩ = some (.int .i64 a0_2) := vb BK463 2
           have hcz59_3 : wc.cell? ⟨gb463, 3, none⟩ = some (.slice A0_3 l0_3.length c0_3) := vb BK463 3
           have hfz59_0 := blk_frozen BK463.out 0
           have hfz59_1 := blk_frozen BK463.out 1
           have hfz59_2 := blk_frozen BK463.out 2
           have hfz59_3 := blk_frozen BK463.out 3
           have p469 : 0 ≤ (x4_2 : Int) := of_decide_eq_true zs
           have q469 : x4_2 < (l0_3.length : Int) := of_decide_eq_true zs
           obtain ⟨ad469, e469, hx469_0, hx469_1, hx469_2, hx469_3⟩ := at_T66 HR0_3.out x4_2 p469 q469
           cases e469
           replace hx469_0 := ve HB.out hx469_0
           replace hx469_1 := ve HB.out hx469_1
           replace hx469_2 := ve HB.out hx469_2
           replace hx469_3 := ve HB.out hx469_3
           replace p469 := eq_true p469
           replace q469 := eq_true q469
           try go_wp2_with (first | ((with_reducible refine gate_dst (N := 5) rfl ?_); (try (refine gate_guard (by rfl) ?_; dsimp only)); refine box_event ?hg (N := 5) ?hd (cs := #[.int .i64 0, .int .i64 0, .int .i64 0, .int .i64 0]) (t := 66) ?hr ?_; (case hd => rfl); (case hg => rfl); (case hr => first | (go_simp; done) | (go_simp; rfl)); intro gb470 hg w60 hbox hb; have n0_ := zh (blk_below (g := gb463) (o := .cells #[.int .i64 a0_0, .int .i64 a0_1, .int .i64 a0_2, .slice (some ad469) l0_3.length c0_3] 24 (0, 0)) (zc BK463) hb); have n1_ := zh (below_step zb hb); have n2_ := zh (hbox); have n3_ := zh ((by rw [hg]; exact (below_size zb) : w.heap.size ≤ gb470)); have n4_ := zh ((by rw [hg]; exact (below_size zb) : w.heap.size ≤ gb470)); have n5_ := zh ((by rw [hg]; exact Nat.ne_of_lt (blk_lt (g := gb463) (o := .cells #[.int .i64 a0_0, .int .i64 a0_1, .int .i64 a0_2, .slice (some ad469) l0_3.length c0_3] 24 (0, 0)) (zc BK463)) : gb463 ≠ gb470)); have n6_ := zh ((by rw [hg]; exact Nat.ne_of_gt (blk_lt (g := gb463) (o := .cells #[.int .i64 a0_0, .int .i64 a0_1, .int .i64 a0_2, .slice (some ad469) l0_3.length c0_3] 24 (0, 0)) (zc BK463)) : gb470 ≠ gb463)); clear BK463; clear HB; have BK463 := n0_; have HB := n1_; have BK470 := n2_; have GW470 := n3_; have GE470 := n4_; have NB463_470 := n5_; have NB470_463 := n6_; clear n0_ n1_ n2_ n3_ n4_ n5_ n6_; clear hb hbox hg; have hnb61 := NB470_463.out; have hnc61 := NB463_470.out; have hcz62_0 : w60.cell? ⟨gb470, 0, none⟩ = some (.int .i64 0) := vb BK470 0; have hcz62_1 : w60.cell? ⟨gb470, 1, none⟩ = some (.int .i64 0) := vb BK470 1; have hcz62_2 : w60.cell? ⟨gb470, 2, none⟩ = some (.int .i64 0) := vb BK470 2; have hcz62_3 : w60.cell? ⟨gb470, 3, none⟩ = some (.int .i64 0) := vb BK470 3; have hfz62_0 := blk_frozen BK470.out 0; have hfz62_1 := blk_frozen BK470.out 1; have hfz62_2 := blk_frozen BK470.out 2; have hfz62_3 := blk_frozen BK470.out 3))
           have n0_ : Aside0 (((((w60.setCell ⟨gb470, 0, none⟩ (.int .i64 ((rd_T66 l0_3 x4_2).f0))).setCell ⟨gb470, 1, none⟩ (.int .i64 ((rd_T66 l0_3 x4_2).f1))).setCell ⟨gb470, 2, none⟩ (.int .i64 ((rd_T66 l0_3 x4_2).f2))).setCell ⟨gb470, 3, none⟩ (.int .i64 ((rd_T66 l0_3 x4_2).f3))).heap[gb463]? = some (.cells #[.int .i64 a0_0, .int .i64 a0_1, .int .i64 a0_2, .slice (some ad469) l0_3.length c0_3] 24 (0, 0))) := ⟨by (with_reducible repeat (first | refine blk_drewN ?_ _ | refine blk_drew ?_ | refine blk_alloc ?_ _)); refine blk_far ?_ NB463_470.out _; (with_reducible repeat (first | refine blk_drewN ?_ _ | refine blk_drew ?_ | refine blk_alloc ?_ _)); refine blk_far ?_ NB463_470.out _; (with_reducible repeat (first | refine blk_drewN ?_ _ | refine blk_drew ?_ | refine blk_alloc ?_ _)); refine blk_far ?_ NB463_470.out _; (with_reducible repeat (first | refine blk_drewN ?_ _ | refine blk_drew ?_ | refine blk_alloc ?_ _)); refine blk_far ?_ NB463_470.out _; (with_reducible repeat (first | refine blk_drewN ?_ _ | refine blk_drew ?_ | refine blk_alloc ?_ _)); exact BK463.out⟩
           have n1_ : Aside0 (((((w60.setCell ⟨gb470, 0, none⟩ (.int .i64 ((rd_T66 l0_3 x4_2).f0))).setCell ⟨gb470, 1, none⟩ (.int .i64 ((rd_T66 l0_3 x4_2).f1))).setCell ⟨gb470, 2, none⟩ (.int .i64 ((rd_T66 l0_3 x4_2).f2))).setCell ⟨gb470, 3, none⟩ (.int .i64 ((rd_T66 l0_3 x4_2).f3))).heap[gb470]? = some (.cells #[.int .i64 ((rd_T66 l0_3 x4_2).f0), .int .i64 ((rd_T66 l0_3 x4_2).f1), .int .i64 ((rd_T66 l0_3 x4_2).f2), .int .i64 ((rd_T66 l0_3 x4_2).f3)] 66 (0, 0))) := ⟨by (with_reducible repeat (first | refine blk_drewN ?_ _ | refine blk_drew ?_ | refine blk_alloc ?_ _)); refine blk_put (cs := #[.int .i64 ((rd_T66 l0_3 x4_2).f0), .int .i64 ((rd_T66 l0_3 x4_2).f1), .int .i64 ((rd_T66 l0_3 x4_2).f2), .int .i64 0]) ?_ 3 _ rfl; (with_reducible repeat (first | refine blk_drewN ?_ _ | refine blk_drew ?_ | refine blk_alloc ?_ _)); refine blk_put (cs := #[.int .i64 ((rd_T66 l0_3 x4_2).f0), .int .i64 ((rd_T66 l0_3 x4_2).f1), .int .i64 0, .int .i64 0]) ?_ 2 _ rfl; (with_reducible repeat (first | refine blk_drewN ?_ _ | refine blk_drew ?_ | refine blk_alloc ?_ _)); refine blk_put (cs := #[.int .i64 ((rd_T66 l0_3 x4_2).f0), .int .i64 0, .int .i64 0, .int .i64 0]) ?_ 1 _ rfl; (with_reducible repeat (first | refine blk_drewN ?_ _ | refine blk_drew ?_ | refine blk_alloc ?_ _)); refine blk_put (cs := #[.int .i64 0, .int .i64 0, .int .i64 0, .int .i64 0]) ?_ 0 _ rfl; (with_reducible repeat (first | refine blk_drewN ?_ _ | refine blk_drew ?_ | refine blk_alloc ?_ _)); exact BK470.out⟩
           have n2_ : Aside0 (Below w.heap.size w ((((w60.setCell ⟨gb470, 0, none⟩ (.int .i64 ((rd_T66 l0_3 x4_2).f0))).setCell ⟨gb470, 1, none⟩ (.int .i64 ((rd_T66 l0_3 x4_2).f1))).setCell ⟨gb470, 2, none⟩ (.int .i64 ((rd_T66 l0_3 x4_2).f2))).setCell ⟨gb470, 3, none⟩ (.int .i64 ((rd_T66 l0_3 x4_2).f3)))) := ⟨zb⟩
           (try clear BK463)
           (try clear BK470)
           (try clear HB)
           generalize ((((w60.setCell ⟨gb470, 0, none⟩ (.int .i64 ((rd_T66 l0_3 x4_2).f0))).setCell ⟨gb470, 1, none⟩ (.int .i64 ((rd_T66 l0_3 x4_2).f1))).setCell ⟨gb470, 2, none⟩ (.int .i64 ((rd_T66 l0_3 x4_2).f2))).setCell ⟨gb470, 3, none⟩ (.int .i64 ((rd_T66 l0_3 x4_2).f3))) = w63 at n0_ n1_ n2_ ⊢
           have BK463 := n0_
           have BK470 := n1_
           have HB := n2_
           clear n0_ n1_ n2_
           replace BK463 := zh (blk_drew BK463.out)
           replace BK470 := zh (blk_drew BK470.out)
           replace HB := zh (below_drew1 HB.out)
           refine start_ (n := 23) (S := fun w' => w'.cell? ⟨gb470, 0, none⟩ = some (.int .i64 ((rd_T66 l0_3 x4_2).f0)) ∧ w'.cell? ⟨gb470, 1, none⟩ = some (.int .i64 ((rd_T66 l0_3 x4_2).f1)) ∧ w'.cell? ⟨gb470, 2, none⟩ = some (.int .i64 ((rd_T66 l0_3 x4_2).f2)) ∧ w'.cell? ⟨gb470, 3, none⟩ = some (.int .i64 ((rd_T66 l0_3 x4_2).f3))) (ds := []) (Array.replicate 23 false) zk rfl rfl ⟨vb BK470 0, vb BK470 1, vb BK470 2, vb BK470 3⟩ (fun hHeld => ?_); refine with_tabW saronlaw06_sound.tab6 saronlaw06_sound.bits6 (fun HT_ HW_ => ?_)
           generalize w63.drew = w64 at BK463 BK470 HB hHeld ⊢
           refine zu 0 ?_
           refine zt 1 ?_
           refine zo 2 (fun K hK => ?_)
           refine goes_ Tryd.func45 zk rfl #[.int .i64 ((rd_T66 l0_3 x4_2).f0), .int .i64 0, .int .i64 4] (by rfl) rfl rfl zm ?_
           with_reducible refine (saronref00_Sits.calls ((rd_T66 l0_3 x4_2).f0) 0 4 false _ A37.out).mono ?_
           rintro e w' ⟨rfl, ⟨nd, rfl⟩⟩
           refine ⟨_, rfl, ?_⟩
           refine hK.out _ _ ⟨vb BK470 0, vb BK470 1, vb BK470 2, vb BK470 3⟩ (fun hHeld => ?_)
           clear hK K
           refine zr 53 _ ?_
           refine zu 3 ?_
           refine zn 4 ?_
           refine zn 5 ?_
           refine zn 6 ?_
           refine zn 7 ?_
           refine zn 8 ?_
           refine zn 9 ?_
           refine zn 10 ?_
           refine zn 11 ?_
           refine zn 12 ?_
           refine zn 13 ?_
           refine zn 14 ?_
           refine zn 15 ?_
           refine zu 16 ?_
           refine zu 17 ?_
           refine zn 18 ?_
           refine zn 19 ?_
           refine zn 20 ?_
           refine zu 21 ?_
           refine zu 22 ?_
           refine zd ?_
           try go_wp2
           go_roundg kj30
           case measure => have := HJ1.out; have := HK2.out; have := HJ30.out; omega
           case rel => exact ⟨(false), (wrap64 (x4_2 + 1)), ze, ze, H', ⟨by have := HJ1.out; have := HK2.out; have := HJ30.out; omega⟩, ⟨zc BK463⟩, ⟨zb⟩⟩
         ·rw [if_neg c36] at H
          exact absurd H (by simp)
        ·rw [if_neg c35] at H
         exact absurd H (by simp)
       ·replace c34 := Bool.eq_false_iff.mpr c34
        subst c34
        have H1 : (some x3_2) = some r := by rw [if_neg (show ¬ (false = true) by decide)] at H; exact H
        clear H
        have H := H1
        clear H1
        obtain rfl := Option.some.inj H
        go_wp2
        go_ret
        exact ⟨zf, zb⟩
end Go.Proofs.YtagkfkdoibnhfaaDoor.H
end
section
namespace Go.Proofs.YtagkfkdoibnhfaaDoor.K
open Go.RowKit Go.Proofs.YtagkfkdoibnhfaaDoorW.PrintWords Go.Proofs.YtagkfkdoibnhfaaDoorW.PrintMore Go.Proofs.YtagkfkdoibnhfaaDoor.H
namespace O
theorem sits_f (a b c : Int) : saronref00_Sits.f a b c = some (decide (b ≤ a) && decide (a ≤ c)) := by
 unfold saronref00_Sits.f
 by_cases h : b ≤ a <;> simp [h]
theorem good_f (x y a b : Int) : saronref00_Good.f x y a b = some (decide (a ≤ x) && decide (x ≤ y) && decide (y ≤ b)) := by
 unfold saronref00_Good.f
 by_cases h : a ≤ x <;> by_cases h' : x ≤ y <;> simp [h, h']
theorem turn_f (a b : Int) (hb : 1 ≤ b) (hb' : b ≤ 1000) : saronref00_Turn.f a b = some (a % b) := by
 unfold saronref00_Turn.f
 rw [if_neg (by omega), if_neg (by omega)]
 have h := Int.tmod_eq_emod (a := a) (b := b)
 have h1 := Int.emod_nonneg a (by omega : b ≠ 0)
 have h2 := Int.emod_lt_of_pos a (by omega : 0 < b)
 have hn : (b.natAbs : Int) = b := by omega
 split at h
 ·rw [if_neg (by omega), h]; simp
 ·rw [if_pos (by omega), w64 (by omega) (by omega)]
  congr 1
  omega
theorem up1 (i : Nat) (h : (i : Int) < 9223372036854775807) : wrap64 ((i : Int) + 1) = ((i + 1 : Nat) : Int) := by rw [w64 (by omega) (by omega)]; simp
theorem rd61 (l : List S61) (i : Nat) (h : i < l.length) : rd_T61 l (i : Int) = l[i] := by
 unfold rd_T61
 simp [h]
theorem irange_mem {x lo hi : Int} (h : x ∈ irange lo hi) : lo ≤ x ∧ x ≤ hi := by
 unfold irange at h
 rw [List.mem_map] at h
 obtain ⟨i, hi, rfl⟩ := h
 rw [List.mem_range] at hi
 omega
theorem pairs_mem {m : Int} {q : Int × Int} (h : q ∈ pairsOf m) : (0 ≤ q.1 ∧ q.1 ≤ m - 1) ∧ 0 ≤ q.2 ∧ q.2 ≤ m - 1 := by
 unfold pairsOf at h
 rw [List.mem_flatMap] at h
 obtain ⟨a, ha, h⟩ := h
 rw [List.mem_map] at h
 obtain ⟨b, hb, rfl⟩ := h
 exact ⟨irange_mem ha, irange_mem hb⟩
theorem okScale_get {T O L : Int} {R : List S66} (h : okScale T O L R = true) (i : Nat) (hi : i < R.length) : okReg (T * O) R[i] = true := by
 unfold okScale at h
 simp only [Bool.and_eq_true, List.all_eq_true] at h
 exact h.2 _ (List.getElem_mem hi)
theorem sound_false (T O L : Int) (R : List S66) (k : Nat) (i : Int) (hk : 2 ≤ k) : saronlaw06_sound.l0 k false i T O L R = some false := by
 obtain ⟨k, rfl⟩ : ∃ z, k = z + 2 := ⟨k - 2, by omega⟩
 simp [saronlaw06_sound.l0, saronlaw06_sound.j2]
theorem sound_l0 (T O L : Int) (R : List S66) (hS : okScale T O L R = true) (d : Nat) : ∀ (k i : Nat), R.length - i = d → i ≤ R.length → 2 * d + 2 ≤ k → saronlaw06_sound.l0 k true (i : Int) T O L R = some true := by
 obtain ⟨t1, t2, t3, t4, t5, t6, t7, t8, t9, hok⟩ := okScale_regs hS
 have mr := mul_range t1 t2 t3 t4
 induction d with
 | zero =>
  intro k i hd hi hk
  obtain ⟨k, rfl⟩ : ∃ z, k = z + 2 := ⟨k - 2, by omega⟩
  have hdec : decide ((i : Int) < (R.length : Int)) = false := decide_eq_false (by omega)
  simp only [saronlaw06_sound.l0, saronlaw06_sound.j2, hdec, if_true]
  rw [if_neg (by simp)]
 | succ d ih =>
  intro k i hd hi hk
  obtain ⟨k, rfl⟩ : ∃ z, k = z + 2 := ⟨k - 2, by omega⟩
  have hlt : i < R.length := by omega
  have hdec : decide ((i : Int) < (R.length : Int)) = true := decide_eq_true (by omega)
  have e : regAt R (i : Int) = R[i] := by unfold regAt; simp [hlt]
  have hr := okScale_get hS i hlt
  simp only [okReg, Bool.and_eq_true, decide_eq_true_eq] at hr
  obtain ⟨⟨⟨⟨⟨⟨⟨r1, r2⟩, r3⟩, r4⟩, r5⟩, r6⟩, r7⟩, r8⟩ := hr
  simp only [saronlaw06_sound.l0, saronlaw06_sound.j2, hdec, if_true]
  rw [if_pos (by omega), if_pos (by omega), rd66 R i hlt, sits_f, Option.bind_some, if_pos (by rw [decide_eq_true r1, decide_eq_true r2]; rfl)]
  simp only [saronref00_Band.f, Option.bind_some]
  rw [good_f, Option.bind_some, w64 (n := T * O) (by omega) (by omega), w64 (by omega) (by omega), if_pos (by rw [decide_eq_true r3, decide_eq_true r4, decide_eq_true r6]; rfl), sits_f, Option.bind_some, decide_eq_true r7, decide_eq_true r8, up1 i (by omega)]
  exact ih k (i + 1) (by omega) (by omega) (by omega)
theorem sound_f (T O L : Int) (R : List S66) (hR : R.length ≤ 9223372036854775807) (k : Nat) (hk : 2 * R.length + 10 ≤ k) : saronlaw06_sound.f k T O L R = some (okScale T O L R) := by
 unfold saronlaw06_sound.f
 rw [check_f T O L R hR k (by omega), Option.bind_some]
 obtain ⟨k, rfl⟩ : ∃ z, k = z + 1 := ⟨k - 1, by omega⟩
 cases hS : okScale T O L R
 ·rw [if_neg (by simp)]
  simp only [saronlaw06_sound.j0]
  exact sound_false _ _ _ _ _ _ (by omega)
 ·obtain ⟨t1, t2, t3, t4, t5, t6, t7, t8, t9, hok⟩ := okScale_regs hS
  rw [if_pos rfl, if_pos rfl, sits_f, Option.bind_some, if_pos (by rw [decide_eq_true t1, decide_eq_true t2]; rfl), sits_f, Option.bind_some, if_pos (by rw [decide_eq_true t3, decide_eq_true t4]; rfl), sits_f, Option.bind_some, if_pos (by rw [decide_eq_true t5, decide_eq_true t6]; rfl), if_pos ((tmod_zero _ _).2 t7), sits_f, Option.bind_some, decide_eq_true (by omega : (1 : Int) ≤ (R.length : Int)), decide_eq_true (by omega : (R.length : Int) ≤ 5)]
  simp only [saronlaw06_sound.j0]
  exact sound_l0 T O L R hS R.length k 0 (Nat.sub_zero _) (Nat.zero_le _) (by omega)
end O
end Go.Proofs.YtagkfkdoibnhfaaDoor.K
end
section
namespace Go.Proofs.YtagkfkdoibnhfaaDoor.H
open Go.RowKit Go.Proofs.YtagkfkdoibnhfaaDoorW.PrintWords Go.Proofs.YtagkfkdoibnhfaaDoorW.PrintLast Go.Proofs.YtagkfkdoibnhfaaDoorW.PrintMore
attribute [local go_sem] max2_int min2_int max_two min_two max_three min_three max_four min_four   -- for this text's walks alone
set_option linter.unusedVariables false
set_option linter.unusedSimpArgs false
open Go.Proofs.YtagkfkdoibnhfaaDoor.K
mutual
def saronlaw06_KernelWhole.j0 : Nat → Int → Bool → Int → Int → Int → List (S66) → Option (Bool)
 | 0, _, _, _, _, _, _ => none
 | k + 1, x1, x24, x844000, x844001, x844002, x844003 => if x24 = true then ((saronlaw06_works.f).bind fun t845 => (some t845)) else ((some (([] : List (S66)) : List (S66))).bind fun y847 => (if y847.length + x844003.length < 4398046511104 then ((some (y847 ++ x844003 : List (S66))).bind fun y850 => ((saronref00_Turn.f x1 4).bind fun t853 => ((saronref00_Turn.f x1 3).bind fun t854 => (if y850.length < 4398046511104 then ((some (y850 ++ [(⟨wrap64 (1 + t853), 0, wrap64 ((wrap64 (x844000 * x844001)) - 1), t854⟩ : S66)] : List (S66))).bind fun y855 => ((kernel_Pairs.f x844000 x844001 x844002 y855).bind fun bt858 => ((kernel_Pairs.f x844000 x844001 x844002 x844003).bind fun bt862 => ((kernel_Twins.f x844000 x844001 x844002 y855 (x844003.length : Int) (x844003.length : Int)).bind fun bt866 => (if bt858.2 = 0 then (if bt862.2 = 0 then (if bt866.2.2 = 4 then (saronlaw06_KernelWhole.j1 k (x844003.length : Int) bt858.1 ((bt858.1.length : Int) != (wrap64 ((bt862.1.length : Int) + (x844003.length : Int))))) else (saronlaw06_KernelWhole.j1 k (x844003.length : Int) bt858.1 true)) else (saronlaw06_KernelWhole.j1 k (x844003.length : Int) bt858.1 true)) else (saronlaw06_KernelWhole.j1 k (x844003.length : Int) bt858.1 true)))))) else (none))))) else (none)))
def saronlaw06_KernelWhole.j1 : Nat → Int → List (S61) → Bool → Option (Bool)
 | 0, _, _, _ => none
 | k + 1, x6, x7, x85 => if x85 = true then (some false) else (saronlaw06_KernelWhole.l0 k x6 x7 0 0)
def saronlaw06_KernelWhole.l0 : Nat → Int → List (S61) → Int → Int → Option (Bool)
 | 0, _, _, _, _ => none
 | k + 1, x6, x7, x14, x15 => if x15 < (x7.length : Int) then (if 0 ≤ x15 then (if ((rd_T61 x7 x15).f1) = x6 then (saronlaw06_KernelWhole.l0 k x6 x7 (wrap64 (x14 + 1)) (wrap64 (x15 + 1))) else (saronlaw06_KernelWhole.l0 k x6 x7 x14 (wrap64 (x15 + 1)))) else (none)) else (if x14 = x6 then ((saronlaw06_works.f).bind fun t874 => (some t874)) else (some false))
end
def saronlaw06_KernelWhole.f (k : Nat) (a0_0 : Int) (a0_1 : Int) (a0_2 : Int) (l0_3 : List (S66)) (a1 : Int) : Option (Bool) := (saronlaw06_sound.f k a0_0 a0_1 a0_2 l0_3).bind fun t844 => (if t844 = true then (saronlaw06_KernelWhole.j0 k a1 ((l0_3.length : Int) == 5) a0_0 a0_1 a0_2 l0_3) else (saronlaw06_KernelWhole.j0 k a1 true a0_0 a0_1 a0_2 l0_3))
def saronlaw06_KernelWhole.T5 : Bool × List (List Nat × List Nat) := (true, [([], []), ([], []), ([1], [1]), ([0, 2], [0, 2]), ([], []), ([4, 3], [4]), ([5], [5]), ([], []), ([7], [7]), ([], []), ([9], [9]), ([8, 10], [8, 10]), ([11], [11]), ([], []), ([13, 5], [13]), ([6, 12, 14], [6, 12, 14]), ([15], [15]), ([3, 16, 14], [3, 16]), ([0, 1, 2, 3, 4, 5, 6, 7, 8, 9, 10, 11, 12, 13, 14, 15, 16, 17], []), ([18, 17, 17, 0, 1, 2, 3, 4, 5, 6, 7, 8, 9, 10, 11, 12, 13, 14, 15, 16, 17], [17, 18])])
def saronlaw06_KernelWhole.B5 : List Nat := [0, 0, 2, 7, 0, 31, 63, 0, 128, 0, 512, 1920, 3968, 0, 8255, 32767, 65535, 131071, 262143, 524287]
theorem saronlaw06_KernelWhole.tab5 : rtab .any (opsOf Tryd.f14 5) = saronlaw06_KernelWhole.T5 := by kernel_rfl
theorem saronlaw06_KernelWhole.bits5 : waitsOk saronlaw06_KernelWhole.T5.2 saronlaw06_KernelWhole.B5 = true := by kernel_rfl
set_option maxHeartbeats 8000000 in
set_option maxRecDepth 100000 in
theorem saronlaw06_KernelWhole.calls (k : Nat) (a0_0 : Int) (a0_1 : Int) (a0_2 : Int) (A0_3 : Option Addr) (c0_3 : Nat) (l0_3 : List (S66)) (a1 : Int) (r : Bool) (w : World) (hr0_3 : Kd.C k66 w A0_3 l0_3.length l0_3) (hc0_3 : l0_3.length ≤ c0_3) (hG : Glob w) (h : saronlaw06_KernelWhole.f k a0_0 a0_1 a0_2 l0_3 a1 = some r) :
  Calls Tryd.prog 14 #[.agg #[.int .i64 a0_0, .int .i64 a0_1, .int .i64 a0_2, .slice A0_3 l0_3.length c0_3], .int .i64 a1] w fun e w' => e = .returned (.bool r) ∧ Below w.heap.size w w' := by
 have hu24 := Tryd.underlying24
 have hu66 := Tryd.underlying66
 have HG := zh hG
 clear hG
 have HR0_3 := zh hr0_3
 have HC0_3 := zh hc0_3
 clear hr0_3 hc0_3
 have HB := zh (Below.refl w.heap.size w)
 have H : ((saronlaw06_sound.f k a0_0 a0_1 a0_2 l0_3).bind fun t844 => (if t844 = true then (saronlaw06_KernelWhole.j0 k a1 ((l0_3.length : Int) == 5) a0_0 a0_1 a0_2 l0_3) else (saronlaw06_KernelWhole.j0 k a1 true a0_0 a0_1 a0_2 l0_3))) = some r := h
 clear h
 have HC3 := zh H
 clear H
 go_enter Tryd.func14, Tryd.ntmps14
 go_upto_region 1 with (first | ((with_reducible refine gate_dst (N := 2) rfl ?_); (try (refine gate_guard (by rfl) ?_; dsimp only)); refine box_event ?hg (N := 2) ?hd (cs := #[.int .i64 a0_0, .int .i64 a0_1, .int .i64 a0_2, .slice A0_3 l0_3.length c0_3]) (t := 24) ?hr ?_; (case hd => rfl); (case hg => rfl); (case hr => first | (go_simp; done) | (go_simp; rfl)); intro gb843 hg w4 hbox hb; have n0_ := zh (below_step zb hb); have n1_ := zh (hbox); have n2_ := zh ((by rw [hg]; exact (below_size zb) : w.heap.size ≤ gb843)); have n3_ := zh ((by rw [hg]; exact (below_size zb) : w.heap.size ≤ gb843)); clear HB; have HB := n0_; have BK843 := n1_; have GW843 := n2_; have GE843 := n3_; clear n0_ n1_ n2_ n3_; clear hb hbox hg))
 (try simp only [Act.put, List.setIfInBounds_toArray, List.set_cons_zero, List.set_cons_succ])
 go_cut [24] (fun v24 wc => ∃ (kq : Nat) (x24_2 : Bool), v24 = .bool x24_2 ∧ Aside0 (saronlaw06_KernelWhole.j0 kq a1 x24_2 a0_0 a0_1 a0_2 l0_3 = some r) ∧ Aside0 (kq ≤ k) ∧ Aside0 (wc.heap[gb843]? = some (.cells #[.int .i64 a0_0, .int .i64 a0_1, .int .i64 a0_2, (.slice A0_3 l0_3.length c0_3)] 24 (0, 0))) ∧ Aside0 (Below w.heap.size w wc))
 case first =>
  have H := HC3.out
  clear HC3
  replace H := Option.bind_eq_some_iff.mp H
  obtain ⟨t844, A50, H⟩ := H
  replace H : (if t844 = true then (saronlaw06_KernelWhole.j0 k a1 ((l0_3.length : Int) == 5) a0_0 a0_1 a0_2 l0_3) else (saronlaw06_KernelWhole.j0 k a1 true a0_0 a0_1 a0_2 l0_3)) = some r := H
  have A5 := zh A50
  clear A50
  by_cases c6 : t844 = true
  ·subst c6
   have H1 : (saronlaw06_KernelWhole.j0 k a1 ((l0_3.length : Int) == 5) a0_0 a0_1 a0_2 l0_3) = some r := by rw [if_pos rfl] at H; exact H
   clear H
   have H := H1
   clear H1
   have H' := zh H
   clear H
   have hcz7_0 : w4.cell? ⟨gb843, 0, none⟩ = some (.int .i64 a0_0) := vb BK843 0
   have hcz7_1 : w4.cell? ⟨gb843, 1, none⟩ = some (.int .i64 a0_1) := vb BK843 1
   have hcz7_2 : w4.cell? ⟨gb843, 2, none⟩ = some (.int .i64 a0_2) := vb BK843 2
   have hcz7_3 : w4.cell? ⟨gb843, 3, none⟩ = some (.slice A0_3 l0_3.length c0_3) := vb BK843 3
   have hfz7_0 := blk_frozen BK843.out 0
   have hfz7_1 := blk_frozen BK843.out 1
   have hfz7_2 := blk_frozen BK843.out 2
   have hfz7_3 := blk_frozen BK843.out 3
   go_wp2_with (first | ((with_reducible refine gate_callee (f := 39) rfl ?_); refine goesL_ (some 17) rfl rfl Tryd.func39 zk rfl #[.agg #[.int .i64 a0_0, .int .i64 a0_1, .int .i64 a0_2, .slice A0_3 l0_3.length c0_3]] rfl zm ?_; (with_reducible refine (saronlaw06_sound.calls k a0_0 a0_1 a0_2 _ _ l0_3 true _ ?side1 ?side2 A5.out).mono ?_); (case side1 => repeat (first | exact (Kd.C_below HR0_3.out HB.out) | (with_reducible refine Kd.C_alloc ?_ _) | (with_reducible refine Kd.C_drewN ?_ _) | (with_reducible refine Kd.C_drew ?_))); (case side2 => exact HC0_3.out); rintro e w8 ⟨rfl, hb⟩; refine ⟨_, rfl, ?_⟩; have n0_ := zh (blk_below (g := gb843) (o := .cells #[.int .i64 a0_0, .int .i64 a0_1, .int .i64 a0_2, .slice A0_3 l0_3.length c0_3] 24 (0, 0)) (zc BK843) hb); have n1_ := zh (below_step zb hb); clear BK843; clear HB; have BK843 := n0_; have HB := n1_; clear n0_ n1_; (try clear hb); (try clear hb2); (try clear hk); (try clear hi); have hcz9_0 : w8.cell? ⟨gb843, 0, none⟩ = some (.int .i64 a0_0) := vb BK843 0; have hcz9_1 : w8.cell? ⟨gb843, 1, none⟩ = some (.int .i64 a0_1) := vb BK843 1; have hcz9_2 : w8.cell? ⟨gb843, 2, none⟩ = some (.int .i64 a0_2) := vb BK843 2; have hcz9_3 : w8.cell? ⟨gb843, 3, none⟩ = some (.slice A0_3 l0_3.length c0_3) := vb BK843 3; have hfz9_0 := blk_frozen BK843.out 0; have hfz9_1 := blk_frozen BK843.out 1; have hfz9_2 := blk_frozen BK843.out 2; have hfz9_3 := blk_frozen BK843.out 3))
   go_meet
   case rel => exact ⟨_, (((l0_3.length : Int) == 5)), ze, H', ⟨zo1⟩, ⟨zc BK843⟩, ⟨zb⟩⟩
  ·replace c6 := Bool.eq_false_iff.mpr c6
   subst c6
   have H1 : (saronlaw06_KernelWhole.j0 k a1 true a0_0 a0_1 a0_2 l0_3) = some r := by rw [if_neg (show ¬ (false = true) by decide)] at H; exact H
   clear H
   have H := H1
   clear H1
   have H' := zh H
   clear H
   have hcz10_0 : w4.cell? ⟨gb843, 0, none⟩ = some (.int .i64 a0_0) := vb BK843 0
   have hcz10_1 : w4.cell? ⟨gb843, 1, none⟩ = some (.int .i64 a0_1) := vb BK843 1
   have hcz10_2 : w4.cell? ⟨gb843, 2, none⟩ = some (.int .i64 a0_2) := vb BK843 2
   have hcz10_3 : w4.cell? ⟨gb843, 3, none⟩ = some (.slice A0_3 l0_3.length c0_3) := vb BK843 3
   have hfz10_0 := blk_frozen BK843.out 0
   have hfz10_1 := blk_frozen BK843.out 1
   have hfz10_2 := blk_frozen BK843.out 2
   have hfz10_3 := blk_frozen BK843.out 3
   go_wp2_with (first | ((with_reducible refine gate_callee (f := 39) rfl ?_); refine goesL_ (some 17) rfl rfl Tryd.func39 zk rfl #[.agg #[.int .i64 a0_0, .int .i64 a0_1, .int .i64 a0_2, .slice A0_3 l0_3.length c0_3]] rfl zm ?_; (with_reducible refine (saronlaw06_sound.calls k a0_0 a0_1 a0_2 _ _ l0_3 false _ ?side1 ?side2 A5.out).mono ?_); (case side1 => repeat (first | exact (Kd.C_below HR0_3.out HB.out) | (with_reducible refine Kd.C_alloc ?_ _) | (with_reducible refine Kd.C_drewN ?_ _) | (with_reducible refine Kd.C_drew ?_))); (case side2 => exact HC0_3.out); rintro e w11 ⟨rfl, hb⟩; refine ⟨_, rfl, ?_⟩; have n0_ := zh (blk_below (g := gb843) (o := .cells #[.int .i64 a0_0, .int .i64 a0_1, .int .i64 a0_2, .slice A0_3 l0_3.length c0_3] 24 (0, 0)) (zc BK843) hb); have n1_ := zh (below_step zb hb); clear BK843; clear HB; have BK843 := n0_; have HB := n1_; clear n0_ n1_; (try clear hb); (try clear hb2); (try clear hk); (try clear hi)))
   go_meet
   case rel => exact ⟨_, (true), ze, H', ⟨zo1⟩, ⟨zc BK843⟩, ⟨zb⟩⟩
 case rest =>
  clear HC3
  try clear c1
  try clear p2
  try clear c3
  try clear c6
  try clear hcz10_0
  try clear hcz10_1
  try clear hcz10_2
  try clear hcz10_3
  try clear hcz7_0
  try clear hcz7_1
  try clear hcz7_2
  try clear hcz7_3
  try clear hcz9_0
  try clear hcz9_1
  try clear hcz9_2
  try clear hcz9_3
  try clear hfz10_0
  try clear hfz10_1
  try clear hfz10_2
  try clear hfz10_3
  try clear hfz7_0
  try clear hfz7_1
  try clear hfz7_2
  try clear hfz7_3
  try clear hfz9_0
  try clear hfz9_1
  try clear hfz9_2
  try clear hfz9_3
  obtain ⟨kq, x24_2, rfl, HA, HJ2, BK843, HB⟩ := hcut
  cases kq with
  | zero => exact absurd HA.out (by simp [saronlaw06_KernelWhole.j0])
  | succ kj2 =>
   have H := HA.out
   clear HA
   simp only [saronlaw06_KernelWhole.j0] at H
   by_cases c12 : x24_2 = true
   ·subst c12
    have H1 : ((saronlaw06_works.f).bind fun t845 => (some t845)) = some r := by rw [if_pos rfl] at H; exact H
    clear H
    have H := H1
    clear H1
    replace H := Option.bind_eq_some_iff.mp H
    obtain ⟨t845, A130, H⟩ := H
    replace H : (some t845) = some r := H
    have A13 := zh A130
    clear A130
    obtain rfl := Option.some.inj H
    go_wp2_with (first | ((with_reducible refine gate_callee (f := 21) rfl ?_); refine goesL_ (some 25) rfl rfl Tryd.func21 zk rfl #[] rfl zm ?_; (with_reducible refine (saronlaw06_works.calls  t845 _ ?side1 A13.out).mono ?_); (case side1 => exact Glob.below HG.out zb); rintro e w14 ⟨rfl, hb⟩; refine ⟨_, rfl, ?_⟩; have n0_ := zh (blk_below (g := gb843) (o := .cells #[.int .i64 a0_0, .int .i64 a0_1, .int .i64 a0_2, .slice A0_3 l0_3.length c0_3] 24 (0, 0)) (zc BK843) hb); have n1_ := zh (below_step zb hb); clear BK843; clear HB; have BK843 := n0_; have HB := n1_; clear n0_ n1_; (try clear hb); (try clear hb2); (try clear hk); (try clear hi)))
    go_ret
    exact ⟨zf, zb⟩
   ·replace c12 := Bool.eq_false_iff.mpr c12
    subst c12
    have H1 : ((some (([] : List (S66)) : List (S66))).bind fun y847 => (if y847.length + l0_3.length < 4398046511104 then ((some (y847 ++ l0_3 : List (S66))).bind fun y850 => ((saronref00_Turn.f a1 4).bind fun t853 => ((saronref00_Turn.f a1 3).bind fun t854 => (if y850.length < 4398046511104 then ((some (y850 ++ [(⟨wrap64 (1 + t853), 0, wrap64 ((wrap64 (a0_0 * a0_1)) - 1), t854⟩ : S66)] : List (S66))).bind fun y855 => ((kernel_Pairs.f a0_0 a0_1 a0_2 y855).bind fun bt858 => ((kernel_Pairs.f a0_0 a0_1 a0_2 l0_3).bind fun bt862 => ((kernel_Twins.f a0_0 a0_1 a0_2 y855 (l0_3.length : Int) (l0_3.length : Int)).bind fun bt866 => (if bt858.2 = 0 then (if bt862.2 = 0 then (if bt866.2.2 = 4 then (saronlaw06_KernelWhole.j1 kj2 (l0_3.length : Int) bt858.1 ((bt858.1.length : Int) != (wrap64 ((bt862.1.length : Int) + (l0_3.length : Int))))) else (saronlaw06_KernelWhole.j1 kj2 (l0_3.length : Int) bt858.1 true)) else (saronlaw06_KernelWhole.j1 kj2 (l0_3.length : Int) bt858.1 true)) else (saronlaw06_KernelWhole.j1 kj2 (l0_3.length : Int) bt858.1 true)))))) else (none))))) else (none))) = some r := by rw [if_neg (show ¬ (false = true) by decide)] at H; exact H
    clear H
    have H := H1
    clear H1
    obtain ⟨y847, hy847⟩ : ∃ y_ : List (S66), y_ = (([] : List (S66))) := ⟨_, rfl⟩
    replace H : (if y847.length + l0_3.length < 4398046511104 then ((some (y847 ++ l0_3 : List (S66))).bind fun y850 => ((saronref00_Turn.f a1 4).bind fun t853 => ((saronref00_Turn.f a1 3).bind fun t854 => (if y850.length < 4398046511104 then ((some (y850 ++ [(⟨wrap64 (1 + t853), 0, wrap64 ((wrap64 (a0_0 * a0_1)) - 1), t854⟩ : S66)] : List (S66))).bind fun y855 => ((kernel_Pairs.f a0_0 a0_1 a0_2 y855).bind fun bt858 => ((kernel_Pairs.f a0_0 a0_1 a0_2 l0_3).bind fun bt862 => ((kernel_Twins.f a0_0 a0_1 a0_2 y855 (l0_3.length : Int) (l0_3.length : Int)).bind fun bt866 => (if bt858.2 = 0 then (if bt862.2 = 0 then (if bt866.2.2 = 4 then (saronlaw06_KernelWhole.j1 kj2 (l0_3.length : Int) bt858.1 ((bt858.1.length : Int) != (wrap64 ((bt862.1.length : Int) + (l0_3.length : Int))))) else (saronlaw06_KernelWhole.j1 kj2 (l0_3.length : Int) bt858.1 true)) else (saronlaw06_KernelWhole.j1 kj2 (l0_3.length : Int) bt858.1 true)) else (saronlaw06_KernelWhole.j1 kj2 (l0_3.length : Int) bt858.1 true)))))) else (none))))) else (none)) = some r := by first | (rw [hy847]; with_reducible exact H) | (have H2_ := (Option.bind_some _ _).symm.trans H; rw [hy847]; with_reducible exact H2_) | (have H2_ := (Option.bind_some _ _).symm.trans H; with_reducible exact H2_) | with_reducible exact H | (rw [hy847]; exact H) | exact H
    have Ny847 := zh hy847
    clear hy847
    by_cases c15 : y847.length + l0_3.length < 4398046511104
    ·rw [if_pos c15] at H
     have LMc15 := zh c15
     clear c15
     obtain ⟨y850, hy850⟩ : ∃ y_ : List (S66), y_ = (y847 ++ l0_3) := ⟨_, rfl⟩
     replace H : ((saronref00_Turn.f a1 4).bind fun t853 => ((saronref00_Turn.f a1 3).bind fun t854 => (if y850.length < 4398046511104 then ((some (y850 ++ [(⟨wrap64 (1 + t853), 0, wrap64 ((wrap64 (a0_0 * a0_1)) - 1), t854⟩ : S66)] : List (S66))).bind fun y855 => ((kernel_Pairs.f a0_0 a0_1 a0_2 y855).bind fun bt858 => ((kernel_Pairs.f a0_0 a0_1 a0_2 l0_3).bind fun bt862 => ((kernel_Twins.f a0_0 a0_1 a0_2 y855 (l0_3.length : Int) (l0_3.length : Int)).bind fun bt866 => (if bt858.2 = 0 then (if bt862.2 = 0 then (if bt866.2.2 = 4 then (saronlaw06_KernelWhole.j1 kj2 (l0_3.length : Int) bt858.1 ((bt858.1.length : Int) != (wrap64 ((bt862.1.length : Int) + (l0_3.length : Int))))) else (saronlaw06_KernelWhole.j1 kj2 (l0_3.length : Int) bt858.1 true)) else (saronlaw06_KernelWhole.j1 kj2 (l0_3.length : Int) bt858.1 true)) else (saronlaw06_KernelWhole.j1 kj2 (l0_3.length : Int) bt858.1 true)))))) else (none)))) = some r := by first | (rw [hy850]; with_reducible exact H) | (have H2_ := (Option.bind_some _ _).symm.trans H; rw [hy850]; with_reducible exact H2_) | (have H2_ := (Option.bind_some _ _).symm.trans H; with_reducible exact H2_) | with_reducible exact H | (rw [hy850]; exact H) | exact H
     have Ny850 := zh hy850
     clear hy850
     replace H := Option.bind_eq_some_iff.mp H
     obtain ⟨t853, A160, H⟩ := H
     replace H : ((saronref00_Turn.f a1 3).bind fun t854 => (if y850.length < 4398046511104 then ((some (y850 ++ [(⟨wrap64 (1 + t853), 0, wrap64 ((wrap64 (a0_0 * a0_1)) - 1), t854⟩ : S66)] : List (S66))).bind fun y855 => ((kernel_Pairs.f a0_0 a0_1 a0_2 y855).bind fun bt858 => ((kernel_Pairs.f a0_0 a0_1 a0_2 l0_3).bind fun bt862 => ((kernel_Twins.f a0_0 a0_1 a0_2 y855 (l0_3.length : Int) (l0_3.length : Int)).bind fun bt866 => (if bt858.2 = 0 then (if bt862.2 = 0 then (if bt866.2.2 = 4 then (saronlaw06_KernelWhole.j1 kj2 (l0_3.length : Int) bt858.1 ((bt858.1.length : Int) != (wrap64 ((bt862.1.length : Int) + (l0_3.length : Int))))) else (saronlaw06_KernelWhole.j1 kj2 (l0_3.length : Int) bt858.1 true)) else (saronlaw06_KernelWhole.j1 kj2 (l0_3.length : Int) bt858.1 true)) else (saronlaw06_KernelWhole.j1 kj2 (l0_3.length : Int) bt858.1 true)))))) else (none))) = some r := H
     have A16 := zh A160
     clear A160
     replace H := Option.bind_eq_some_iff.mp H
     obtain ⟨t854, A170, H⟩ := H
     replace H : (if y850.length < 4398046511104 then ((some (y850 ++ [(⟨wrap64 (1 + t853), 0, wrap64 ((wrap64 (a0_0 * a0_1)) - 1), t854⟩ : S66)] : List (S66))).bind fun y855 => ((kernel_Pairs.f a0_0 a0_1 a0_2 y855).bind fun bt858 => ((kernel_Pairs.f a0_0 a0_1 a0_2 l0_3).bind fun bt862 => ((kernel_Twins.f a0_0 a0_1 a0_2 y855 (l0_3.length : Int) (l0_3.length : Int)).bind fun bt866 => (if bt858.2 = 0 then (if bt862.2 = 0 then (if bt866.2.2 = 4 then (saronlaw06_KernelWhole.j1 kj2 (l0_3.length : Int) bt858.1 ((bt858.1.length : Int) != (wrap64 ((bt862.1.length : Int) + (l0_3.length : Int))))) else (saronlaw06_KernelWhole.j1 kj2 (l0_3.length : Int) bt858.1 true)) else (saronlaw06_KernelWhole.j1 kj2 (l0_3.length : Int) bt858.1 true)) else (saronlaw06_KernelWhole.j1 kj2 (l0_3.length : Int) bt858.1 true)))))) else (none)) = some r := H
     have A17 := zh A170
     clear A170
     by_cases c18 : y850.length < 4398046511104
     ·rw [if_pos c18] at H
      have LMc18 := zh c18
      clear c18
      obtain ⟨y855, hy855⟩ : ∃ y_ : List (S66), y_ = (y850 ++ [(⟨wrap64 (1 + t853), 0, wrap64 ((wrap64 (a0_0 * a0_1)) - 1), t854⟩ : S66)]) := ⟨_, rfl⟩
      replace H : ((kernel_Pairs.f a0_0 a0_1 a0_2 y855).bind fun bt858 => ((kernel_Pairs.f a0_0 a0_1 a0_2 l0_3).bind fun bt862 => ((kernel_Twins.f a0_0 a0_1 a0_2 y855 (l0_3.length : Int) (l0_3.length : Int)).bind fun bt866 => (if bt858.2 = 0 then (if bt862.2 = 0 then (if bt866.2.2 = 4 then (saronlaw06_KernelWhole.j1 kj2 (l0_3.length : Int) bt858.1 ((bt858.1.length : Int) != (wrap64 ((bt862.1.length : Int) + (l0_3.length : Int))))) else (saronlaw06_KernelWhole.j1 kj2 (l0_3.length : Int) bt858.1 true)) else (saronlaw06_KernelWhole.j1 kj2 (l0_3.length : Int) bt858.1 true)) else (saronlaw06_KernelWhole.j1 kj2 (l0_3.length : Int) bt858.1 true))))) = some r := by first | (rw [hy855]; with_reducible exact H) | (have H2_ := (Option.bind_some _ _).symm.trans H; rw [hy855]; with_reducible exact H2_) | (have H2_ := (Option.bind_some _ _).symm.trans H; with_reducible exact H2_) | with_reducible exact H | (rw [hy855]; exact H) | exact H
      have Ny855 := zh hy855
      clear hy855
      replace H := Option.bind_eq_some_iff.mp H
      obtain ⟨⟨t858, t861⟩, A190, H⟩ := H
      replace H : ((kernel_Pairs.f a0_0 a0_1 a0_2 l0_3).bind fun bt862 => ((kernel_Twins.f a0_0 a0_1 a0_2 y855 (l0_3.length : Int) (l0_3.length : Int)).bind fun bt866 => (if t861 = 0 then (if bt862.2 = 0 then (if bt866.2.2 = 4 then (saronlaw06_KernelWhole.j1 kj2 (l0_3.length : Int) t858 ((t858.length : Int) != (wrap64 ((bt862.1.length : Int) + (l0_3.length : Int))))) else (saronlaw06_KernelWhole.j1 kj2 (l0_3.length : Int) t858 true)) else (saronlaw06_KernelWhole.j1 kj2 (l0_3.length : Int) t858 true)) else (saronlaw06_KernelWhole.j1 kj2 (l0_3.length : Int) t858 true)))) = some r := H
      have A19 := zh A190
      clear A190
      replace H := Option.bind_eq_some_iff.mp H
      obtain ⟨⟨t862, t865⟩, A200, H⟩ := H
      replace H : ((kernel_Twins.f a0_0 a0_1 a0_2 y855 (l0_3.length : Int) (l0_3.length : Int)).bind fun bt866 => (if t861 = 0 then (if t865 = 0 then (if bt866.2.2 = 4 then (saronlaw06_KernelWhole.j1 kj2 (l0_3.length : Int) t858 ((t858.length : Int) != (wrap64 ((t862.length : Int) + (l0_3.length : Int))))) else (saronlaw06_KernelWhole.j1 kj2 (l0_3.length : Int) t858 true)) else (saronlaw06_KernelWhole.j1 kj2 (l0_3.length : Int) t858 true)) else (saronlaw06_KernelWhole.j1 kj2 (l0_3.length : Int) t858 true))) = some r := H
      have A20 := zh A200
      clear A200
      replace H := Option.bind_eq_some_iff.mp H
      obtain ⟨⟨t866, t869, t872⟩, A210, H⟩ := H
      replace H : (if t861 = 0 then (if t865 = 0 then (if t872 = 4 then (saronlaw06_KernelWhole.j1 kj2 (l0_3.length : Int) t858 ((t858.length : Int) != (wrap64 ((t862.length : Int) + (l0_3.length : Int))))) else (saronlaw06_KernelWhole.j1 kj2 (l0_3.length : Int) t858 true)) else (saronlaw06_KernelWhole.j1 kj2 (l0_3.length : Int) t858 true)) else (saronlaw06_KernelWhole.j1 kj2 (l0_3.length : Int) t858 true)) = some r := H
      have A21 := zh A210
      clear A210
      have HC22 := zh H
      clear H
      have hcz23_0 : wc.cell? ⟨gb843, 0, none⟩ = some (.int .i64 a0_0) := vb BK843 0
      have hcz23_1 : wc.cell? ⟨gb843, 1, none⟩ = some (.int .i64 a0_1) := vb BK843 1
      have hcz23_2 : wc.cell? ⟨gb843, 2, none⟩ = some (.int .i64 a0_2) := vb BK843 2
      have hcz23_3 : wc.cell? ⟨gb843, 3, none⟩ = some (.slice A0_3 l0_3.length c0_3) := vb BK843 3
      have hfz23_0 := blk_frozen BK843.out 0
      have hfz23_1 := blk_frozen BK843.out 1
      have hfz23_2 := blk_frozen BK843.out 2
      have hfz23_3 := blk_frozen BK843.out 3
      try go_wp2_with (first | ((with_reducible refine gate_dst (N := 5) rfl ?_); (try (refine gate_guard (by rfl) ?_; dsimp only)); refine box_event ?hg (N := 5) ?hd (cs := #[.int .i64 0, .int .i64 0, .int .i64 0, .slice none 0 0]) (t := 24) ?hr ?_; (case hd => rfl); (case hg => rfl); (case hr => first | (go_simp; done) | (go_simp; rfl)); intro gb846 hg w24 hbox hb; have n0_ := zh (blk_below (g := gb843) (o := .cells #[.int .i64 a0_0, .int .i64 a0_1, .int .i64 a0_2, .slice A0_3 l0_3.length c0_3] 24 (0, 0)) (zc BK843) hb); have n1_ := zh (below_step zb hb); have n2_ := zh (hbox); have n3_ := zh ((by rw [hg]; exact (below_size zb) : w.heap.size ≤ gb846)); have n4_ := zh ((by rw [hg]; exact (below_size zb) : w.heap.size ≤ gb846)); have n5_ := zh ((by rw [hg]; exact Nat.ne_of_lt (blk_lt (g := gb843) (o := .cells #[.int .i64 a0_0, .int .i64 a0_1, .int .i64 a0_2, .slice A0_3 l0_3.length c0_3] 24 (0, 0)) (zc BK843)) : gb843 ≠ gb846)); have n6_ := zh ((by rw [hg]; exact Nat.ne_of_gt (blk_lt (g := gb843) (o := .cells #[.int .i64 a0_0, .int .i64 a0_1, .int .i64 a0_2, .slice A0_3 l0_3.length c0_3] 24 (0, 0)) (zc BK843)) : gb846 ≠ gb843)); clear BK843; clear HB; have BK843 := n0_; have HB := n1_; have BK846 := n2_; have GW846 := n3_; have GE846 := n4_; have NB843_846 := n5_; have NB846_843 := n6_; clear n0_ n1_ n2_ n3_ n4_ n5_ n6_; clear hb hbox hg; have hnb25 := NB846_843.out; have hnc25 := NB843_846.out; have hcz26_0 : w24.cell? ⟨gb846, 0, none⟩ = some (.int .i64 0) := vb BK846 0; have hcz26_1 : w24.cell? ⟨gb846, 1, none⟩ = some (.int .i64 0) := vb BK846 1; have hcz26_2 : w24.cell? ⟨gb846, 2, none⟩ = some (.int .i64 0) := vb BK846 2; have hcz26_3 : w24.cell? ⟨gb846, 3, none⟩ = some (.slice none 0 0) := vb BK846 3; have hfz26_0 := blk_frozen BK846.out 0; have hfz26_1 := blk_frozen BK846.out 1; have hfz26_2 := blk_frozen BK846.out 2; have hfz26_3 := blk_frozen BK846.out 3; have hcz27_0 : w24.cell? ⟨gb843, 0, none⟩ = some (.int .i64 a0_0) := vb BK843 0; have hcz27_1 : w24.cell? ⟨gb843, 1, none⟩ = some (.int .i64 a0_1) := vb BK843 1; have hcz27_2 : w24.cell? ⟨gb843, 2, none⟩ = some (.int .i64 a0_2) := vb BK843 2; have hcz27_3 : w24.cell? ⟨gb843, 3, none⟩ = some (.slice A0_3 l0_3.length c0_3) := vb BK843 3; have hfz27_0 := blk_frozen BK843.out 0; have hfz27_1 := blk_frozen BK843.out 1; have hfz27_2 := blk_frozen BK843.out 2; have hfz27_3 := blk_frozen BK843.out 3))
      have n0_ : Aside0 (((((w24.setCell ⟨gb846, 0, none⟩ (.int .i64 a0_0)).setCell ⟨gb846, 1, none⟩ (.int .i64 a0_1)).setCell ⟨gb846, 2, none⟩ (.int .i64 a0_2)).setCell ⟨gb846, 3, none⟩ (.slice A0_3 l0_3.length c0_3)).heap[gb843]? = some (.cells #[.int .i64 a0_0, .int .i64 a0_1, .int .i64 a0_2, .slice A0_3 l0_3.length c0_3] 24 (0, 0))) := ⟨by (with_reducible repeat (first | refine blk_drewN ?_ _ | refine blk_drew ?_ | refine blk_alloc ?_ _)); refine blk_far ?_ NB843_846.out _; (with_reducible repeat (first | refine blk_drewN ?_ _ | refine blk_drew ?_ | refine blk_alloc ?_ _)); refine blk_far ?_ NB843_846.out _; (with_reducible repeat (first | refine blk_drewN ?_ _ | refine blk_drew ?_ | refine blk_alloc ?_ _)); refine blk_far ?_ NB843_846.out _; (with_reducible repeat (first | refine blk_drewN ?_ _ | refine blk_drew ?_ | refine blk_alloc ?_ _)); refine blk_far ?_ NB843_846.out _; (with_reducible repeat (first | refine blk_drewN ?_ _ | refine blk_drew ?_ | refine blk_alloc ?_ _)); exact BK843.out⟩
      have n1_ : Aside0 (((((w24.setCell ⟨gb846, 0, none⟩ (.int .i64 a0_0)).setCell ⟨gb846, 1, none⟩ (.int .i64 a0_1)).setCell ⟨gb846, 2, none⟩ (.int .i64 a0_2)).setCell ⟨gb846, 3, none⟩ (.slice A0_3 l0_3.length c0_3)).heap[gb846]? = some (.cells #[.int .i64 a0_0, .int .i64 a0_1, .int .i64 a0_2, .slice A0_3 l0_3.length c0_3] 24 (0, 0))) := ⟨by (with_reducible repeat (first | refine blk_drewN ?_ _ | refine blk_drew ?_ | refine blk_alloc ?_ _)); refine blk_put (cs := #[.int .i64 a0_0, .int .i64 a0_1, .int .i64 a0_2, .slice none 0 0]) ?_ 3 _ rfl; (with_reducible repeat (first | refine blk_drewN ?_ _ | refine blk_drew ?_ | refine blk_alloc ?_ _)); refine blk_put (cs := #[.int .i64 a0_0, .int .i64 a0_1, .int .i64 0, .slice none 0 0]) ?_ 2 _ rfl; (with_reducible repeat (first | refine blk_drewN ?_ _ | refine blk_drew ?_ | refine blk_alloc ?_ _)); refine blk_put (cs := #[.int .i64 a0_0, .int .i64 0, .int .i64 0, .slice none 0 0]) ?_ 1 _ rfl; (with_reducible repeat (first | refine blk_drewN ?_ _ | refine blk_drew ?_ | refine blk_alloc ?_ _)); refine blk_put (cs := #[.int .i64 0, .int .i64 0, .int .i64 0, .slice none 0 0]) ?_ 0 _ rfl; (with_reducible repeat (first | refine blk_drewN ?_ _ | refine blk_drew ?_ | refine blk_alloc ?_ _)); exact BK846.out⟩
      have n2_ : Aside0 (Below w.heap.size w ((((w24.setCell ⟨gb846, 0, none⟩ (.int .i64 a0_0)).setCell ⟨gb846, 1, none⟩ (.int .i64 a0_1)).setCell ⟨gb846, 2, none⟩ (.int .i64 a0_2)).setCell ⟨gb846, 3, none⟩ (.slice A0_3 l0_3.length c0_3))) := ⟨zb⟩
      (try clear BK843)
      (try clear BK846)
      (try clear HB)
      generalize ((((w24.setCell ⟨gb846, 0, none⟩ (.int .i64 a0_0)).setCell ⟨gb846, 1, none⟩ (.int .i64 a0_1)).setCell ⟨gb846, 2, none⟩ (.int .i64 a0_2)).setCell ⟨gb846, 3, none⟩ (.slice A0_3 l0_3.length c0_3)) = w28 at n0_ n1_ n2_ ⊢
      have BK843 := n0_
      have BK846 := n1_
      have HB := n2_
      clear n0_ n1_ n2_
      replace BK843 := zh (blk_drew BK843.out)
      replace BK846 := zh (blk_drew BK846.out)
      replace HB := zh (below_drew1 HB.out)
      refine start_ (n := 20) (S := fun w' => w'.cell? ⟨gb843, 0, none⟩ = some (.int .i64 a0_0) ∧ w'.cell? ⟨gb843, 1, none⟩ = some (.int .i64 a0_1) ∧ w'.cell? ⟨gb843, 2, none⟩ = some (.int .i64 a0_2) ∧ w'.cell? ⟨gb843, 3, none⟩ = some (.slice A0_3 l0_3.length c0_3)) (ds := []) (Array.replicate 20 false) zk rfl rfl ⟨vb BK843 0, vb BK843 1, vb BK843 2, vb BK843 3⟩ (fun hHeld => ?_); refine with_tabW saronlaw06_KernelWhole.tab5 saronlaw06_KernelWhole.bits5 (fun HT_ HW_ => ?_)
      generalize w28.drew = w29 at BK843 BK846 HB hHeld ⊢
      refine zu 1 ?_
      refine zu 4 ?_
      refine zu 7 ?_
      refine zu 9 ?_
      refine zu 13 ?_
      refine zt 2 ?_
      refine zt 8 ?_
      refine zt 10 ?_
      refine zu 11 ?_
      refine zu 12 ?_
      refine zo 0 (fun K hK => ?_)
      refine Kd.R_lit_step k66 _ 66 ?hg (N := 30) ?hd (xs := ([] : List (S66))) (inner := []) (ok := fun _ => True) (okp := fun _ => True) ?hr ?hp (fun _ hk => hk) trivial (Below.refl _ _) (Nat.le_refl _) (by simp) ?_; (case hd => rfl); (case hg => rfl); (case hr => first | (go_simp; done) | (go_simp; rfl)); (case hp => exact (Reps.none _ _))
      intro v848 w30 ho31 hb hg_ hnew_
      clear hg_ hnew_
      (first | rw [← Ny847.out] at ho31 | (simp only [Int.reduceToNat] at ho31; rw [← Ny847.out] at ho31))
      have HO849 := zh (Kd.R_lower ho31 (below_size zb))
      replace BK843 := zh (blk_below (g := gb843) (o := .cells #[.int .i64 a0_0, .int .i64 a0_1, .int .i64 a0_2, .slice A0_3 l0_3.length c0_3] 24 (0, 0)) (zc BK843) hb)
      replace BK846 := zh (blk_below (g := gb846) (o := .cells #[.int .i64 a0_0, .int .i64 a0_1, .int .i64 a0_2, .slice A0_3 l0_3.length c0_3] 24 (0, 0)) (zc BK846) hb)
      replace HB := zh (below_step zb hb)
      clear hb ho31
      refine hK.out _ _ ⟨vb BK843 0, vb BK843 1, vb BK843 2, vb BK843 3⟩ (fun hHeld => ?_)
      clear hK K
      refine zr 30 _ ?_
      refine zo 3 (fun K hK => ?_)
      refine Kd.R_append_rows_step k66 (w0 := w) w.heap.size (by rfl) (.tmp 30) (.tmp 32) 22 66 (.agg #[(.int .i64 0), (.int .i64 0), (.int .i64 0), (.int .i64 0)]) 32 rfl Tryd.underlying22 info66 rfl (by decide) (by omega) v848 y847 l0_3 _ _ _ (fun _ => True) (fun _ => False) rfl rfl ?aO ?aR (fun _ _ h => h) (fun _ h => h.elim) ?aF ?aB ?aS ?aL ?_
      (case aR => repeat (first | exact (Kd.C_below HR0_3.out HB.out) | (with_reducible refine Kd.C_alloc ?_ _) | (with_reducible refine Kd.C_drewN ?_ _) | (with_reducible refine Kd.C_drew ?_)))
      (case aB => exact zb)
      (case aF => exact (fun _ _ => trivial))
      (case aO => exact (zR HO849))
      (case aS => exact (below_size zb))
      (case aL => have := LMc15.out; omega)
      intro v851 w32 ho hb hg hat
      rw [← Ny850.out] at ho
      replace BK843 := zh (blk_grown (g := gb843) (o := .cells #[.int .i64 a0_0, .int .i64 a0_1, .int .i64 a0_2, .slice A0_3 l0_3.length c0_3] 24 (0, 0)) (zc BK843) hg (Kd.R_ne HO849.out BK843.out (by decide)))
      replace BK846 := zh (blk_grown (g := gb846) (o := .cells #[.int .i64 a0_0, .int .i64 a0_1, .int .i64 a0_2, .slice A0_3 l0_3.length c0_3] 24 (0, 0)) (zc BK846) hg (Kd.R_ne HO849.out BK846.out (by decide)))
      replace HB := zh (hb)
      have HO852 := zh (ho)
      clear HO849 ho hb hg hat
      refine hK.out _ _ ⟨vb BK843 0, vb BK843 1, vb BK843 2, vb BK843 3⟩ (fun hHeld => ?_)
      clear hK K
      refine zr 33 _ ?_
      refine zo 5 (fun K hK => ?_)
      refine goes_ Tryd.func42 zk rfl #[.int .i64 a1, .int .i64 4] (by rfl) rfl rfl zm ?_
      with_reducible refine (saronref00_Turn.calls a1 4 t853 _ A16.out).mono ?_
      rintro e w' ⟨rfl, ⟨nd, rfl⟩⟩
      refine ⟨_, rfl, ?_⟩
      refine hK.out _ _ ⟨vb BK843 0, vb BK843 1, vb BK843 2, vb BK843 3⟩ (fun hHeld => ?_)
      clear hK K
      refine zr 35 _ ?_
      refine zu 6 ?_
      refine zo 14 (fun K hK => ?_)
      refine goes_ Tryd.func42 zk rfl #[.int .i64 a1, .int .i64 3] (by rfl) rfl rfl zm ?_
      with_reducible refine (saronref00_Turn.calls a1 3 t854 _ A17.out).mono ?_
      rintro e w' ⟨rfl, ⟨nd, rfl⟩⟩
      refine ⟨_, rfl, ?_⟩
      refine hK.out _ _ ⟨vb BK843 0, vb BK843 1, vb BK843 2, vb BK843 3⟩ (fun hHeld => ?_)
      clear hK K
      refine zr 44 _ ?_
      refine zu 15 ?_
      refine zo 16 (fun K hK => ?_)
      refine value_ (w1 := ?_) (v := ?_) (by rfl) rfl ?_ ?_
      rotate_left 2
      ·go_simp
       constructor
       ·rfl
       ·rfl
      refine hK.out _ _ ⟨(blk_cell (blk_alloc BK843.out _) 0).trans rfl, (blk_cell (blk_alloc BK843.out _) 1).trans rfl, (blk_cell (blk_alloc BK843.out _) 2).trans rfl, (blk_cell (blk_alloc BK843.out _) 3).trans rfl⟩ (fun hHeld => ?_)
      clear hK K
      refine zr 46 _ ?_
      refine zo 17 (fun K hK => ?_)
      refine Kd.R_append_step k66 (w0 := w) w.heap.size (by rfl) (.tmp 33) (.tmp 46) 22 66 (.agg #[(.int .i64 0), (.int .i64 0), (.int .i64 0), (.int .i64 0)]) 32 rfl Tryd.underlying22 info66 rfl (by decide) (by omega) v851 y850 (⟨wrap64 (1 + t853), 0, wrap64 ((wrap64 (a0_0 * a0_1)) - 1), t854⟩ : S66) [.int .i64 (wrap64 (1 + t853)), .int .i64 0, .int .i64 (wrap64 ((wrap64 (a0_0 * a0_1)) - 1)), .int .i64 t854] (fun _ => True) (fun _ => False) rfl rfl ?aP (fun _ hk => hk.elim) ?aF ?aO ?aB ?aS ?aL ?_
      (case aP => exact k66_mkM _ _ _ (⟨wrap64 (1 + t853), 0, wrap64 ((wrap64 (a0_0 * a0_1)) - 1), t854⟩ : S66))
      (case aB => exact zb)
      (case aF => exact (fun _ _ => trivial))
      (case aO => exact (zR HO852))
      (case aS => exact (below_size zb))
      (case aL => have := LMc18.out; omega)
      intro v856 w33 ho hb hg hat
      rw [← Ny855.out] at ho
      replace BK843 := zh (blk_grown (g := gb843) (o := .cells #[.int .i64 a0_0, .int .i64 a0_1, .int .i64 a0_2, .slice A0_3 l0_3.length c0_3] 24 (0, 0)) (zc BK843) hg (Kd.R_ne HO852.out BK843.out (by decide)))
      replace BK846 := zh (blk_grown (g := gb846) (o := .cells #[.int .i64 a0_0, .int .i64 a0_1, .int .i64 a0_2, .slice A0_3 l0_3.length c0_3] 24 (0, 0)) (zc BK846) hg (Kd.R_ne HO852.out BK846.out (by decide)))
      replace HB := zh (hb)
      have HO857 := zh (ho)
      clear HO852 ho hb hg hat
      obtain ⟨Ao34, co34, eo34⟩ := Kd.R_slice HO857.out
      (first | subst eo34 | (injection eo34 with f1_ f2_ f3_; have f4_ := f1_.symm; have f5_ := f3_.symm; clear f1_ f2_ f3_; subst f4_; subst f5_))
      refine hK.out _ _ ⟨vb BK843 0, vb BK843 1, vb BK843 2, vb BK843 3⟩ (fun hHeld => ?_)
      clear hK K
      refine zr 47 _ ?_
      refine zu 18 ?_
      refine zp 19 (fun K hK => ?_)
      have hs35 : w33.cell? ⟨gb846, 3, none⟩ = some (.slice A0_3 l0_3.length c0_3) := vb BK846 3
      have hfs35 := blk_frozen BK846.out 3
      have hns35_0 := NB843_846.out
      have hms35_0 := NB846_843.out
      refine skip_ (w1 := ?_) (by rfl) rfl ?_ ?_
      rotate_left
      ·go_simp
       rfl
      refine hK.out _ _ ⟨((cell_far (p := ⟨gb846, _, none⟩) NB843_846.out _).trans (hHeld.1)), ((cell_far (p := ⟨gb846, _, none⟩) NB843_846.out _).trans (hHeld.2.1)), ((cell_far (p := ⟨gb846, _, none⟩) NB843_846.out _).trans (hHeld.2.2.1)), ((cell_far (p := ⟨gb846, _, none⟩) NB843_846.out _).trans (hHeld.2.2.2))⟩ (fun hHeld => ?_)
      clear hK K
      refine zd ?_
      have hcz36_0 : w33.cell? ⟨gb846, 0, none⟩ = some (.int .i64 a0_0) := vb BK846 0
      have hcz36_1 : w33.cell? ⟨gb846, 1, none⟩ = some (.int .i64 a0_1) := vb BK846 1
      have hcz36_2 : w33.cell? ⟨gb846, 2, none⟩ = some (.int .i64 a0_2) := vb BK846 2
      have hcz36_3 : w33.cell? ⟨gb846, 3, none⟩ = some (.slice A0_3 l0_3.length c0_3) := vb BK846 3
      have hfz36_0 := blk_frozen BK846.out 0
      have hfz36_1 := blk_frozen BK846.out 1
      have hfz36_2 := blk_frozen BK846.out 2
      have hfz36_3 := blk_frozen BK846.out 3
      go_upto_region 9 with (first | ((with_reducible refine gate_callee (f := 33) rfl ?_); refine goesL_ (some 51) rfl rfl Tryd.func33 zk rfl #[.agg #[.int .i64 a0_0, .int .i64 a0_1, .int .i64 a0_2, .slice Ao34 y855.length co34]] rfl zm ?_; (with_reducible refine (kernel_Pairs.calls a0_0 a0_1 a0_2 _ _ y855 t858 t861 _ ?side1 ?side2 ?side3 A19.out).mono ?_); (case side1 => refine (Kd.R_reads' (e := 66) (base := w.heap.size) (ok := fun k_ => True) (n := y855.length) (c := co34) ?_).2.2; exact dWh1); (case side2 => exact (Kd.R_reads' HO857.out).2.1); (case side3 => exact Glob.below HG.out zb); rintro e w37 ⟨v859, rfl, ho0, hb⟩; refine ⟨_, rfl, ?_⟩; have n0_ := zh (Kd.R_below dWh1 hb); have n1_ := zh (Kd.V_lower (Kd.V_mono (ok' := fun k_ => some k_ ≠ (.slice Ao34 y855.length co34 : Value).ownBlock ∧ k_ ≠ gb843 ∧ k_ ≠ gb846) ho0 (fun k_ hk_ => ⟨(Kd.fresh' (Kd.R_lt dWh1) k_ hk_), (Kd.freshB (g := gb843) (o := .cells #[.int .i64 a0_0, .int .i64 a0_1, .int .i64 a0_2, .slice A0_3 l0_3.length c0_3] 24 (0, 0)) (by (with_reducible repeat (first | refine blk_drewN ?_ _ | refine blk_drew ?_ | refine blk_alloc ?_ _)); refine blk_far ?_ NB843_846.out _; (with_reducible repeat (first | refine blk_drewN ?_ _ | refine blk_drew ?_ | refine blk_alloc ?_ _)); exact BK843.out) k_ hk_), (Kd.freshB (g := gb846) (o := .cells #[.int .i64 a0_0, .int .i64 a0_1, .int .i64 a0_2, .slice Ao34 y855.length co34] 24 (0, 0)) (by (with_reducible repeat (first | refine blk_drewN ?_ _ | refine blk_drew ?_ | refine blk_alloc ?_ _)); refine blk_put (cs := #[.int .i64 a0_0, .int .i64 a0_1, .int .i64 a0_2, .slice A0_3 l0_3.length c0_3]) ?_ 3 _ rfl; (with_reducible repeat (first | refine blk_drewN ?_ _ | refine blk_drew ?_ | refine blk_alloc ?_ _)); exact BK846.out) k_ hk_)⟩)) (below_size zb)); have n2_ := zh (blk_below (g := gb843) (o := .cells #[.int .i64 a0_0, .int .i64 a0_1, .int .i64 a0_2, .slice A0_3 l0_3.length c0_3] 24 (0, 0)) (by (with_reducible repeat (first | refine blk_drewN ?_ _ | refine blk_drew ?_ | refine blk_alloc ?_ _)); refine blk_far ?_ NB843_846.out _; (with_reducible repeat (first | refine blk_drewN ?_ _ | refine blk_drew ?_ | refine blk_alloc ?_ _)); exact BK843.out) hb); have n3_ := zh (blk_below (g := gb846) (o := .cells #[.int .i64 a0_0, .int .i64 a0_1, .int .i64 a0_2, .slice Ao34 y855.length co34] 24 (0, 0)) (by (with_reducible repeat (first | refine blk_drewN ?_ _ | refine blk_drew ?_ | refine blk_alloc ?_ _)); refine blk_put (cs := #[.int .i64 a0_0, .int .i64 a0_1, .int .i64 a0_2, .slice A0_3 l0_3.length c0_3]) ?_ 3 _ rfl; (with_reducible repeat (first | refine blk_drewN ?_ _ | refine blk_drew ?_ | refine blk_alloc ?_ _)); exact BK846.out) hb); have n4_ := zh (below_step zb hb); clear HO857; clear BK843; clear BK846; clear HB; have HO857 := n0_; have HO860 := n1_; have BK843 := n2_; have BK846 := n3_; have HB := n4_; clear n0_ n1_ n2_ n3_ n4_; (try clear hb); (try clear hb2); (try clear hk); (try clear hi); (try clear ho0); have hcz38_0 : w37.cell? ⟨gb843, 0, none⟩ = some (.int .i64 a0_0) := vb BK843 0; have hcz38_1 : w37.cell? ⟨gb843, 1, none⟩ = some (.int .i64 a0_1) := vb BK843 1; have hcz38_2 : w37.cell? ⟨gb843, 2, none⟩ = some (.int .i64 a0_2) := vb BK843 2; have hcz38_3 : w37.cell? ⟨gb843, 3, none⟩ = some (.slice A0_3 l0_3.length c0_3) := vb BK843 3; have hfz38_0 := blk_frozen BK843.out 0; have hfz38_1 := blk_frozen BK843.out 1; have hfz38_2 := blk_frozen BK843.out 2; have hfz38_3 := blk_frozen BK843.out 3) | ((with_reducible refine gate_callee (f := 33) rfl ?_); refine goesL_ (some 56) rfl rfl Tryd.func33 zk rfl #[.agg #[.int .i64 a0_0, .int .i64 a0_1, .int .i64 a0_2, .slice A0_3 l0_3.length c0_3]] rfl zm ?_; (with_reducible refine (kernel_Pairs.calls a0_0 a0_1 a0_2 _ _ l0_3 t862 t865 _ ?side1 ?side2 ?side3 A20.out).mono ?_); (case side1 => repeat (first | exact (Kd.C_below HR0_3.out HB.out) | (with_reducible refine Kd.C_alloc ?_ _) | (with_reducible refine Kd.C_drewN ?_ _) | (with_reducible refine Kd.C_drew ?_))); (case side2 => exact HC0_3.out); (case side3 => exact Glob.below HG.out zb); rintro e w39 ⟨v863, rfl, ho0, hb⟩; refine ⟨_, rfl, ?_⟩; have n0_ := zh (Kd.R_below (zR HO857) hb); have n1_ := zh (Kd.V_below (zV HO860) hb); have n2_ := zh (Kd.V_lower (Kd.V_mono (ok' := fun k_ => some k_ ≠ (.slice Ao34 y855.length co34 : Value).ownBlock ∧ k_ ≠ gb843 ∧ k_ ≠ gb846) ho0 (fun k_ hk_ => ⟨(Kd.fresh' (Kd.R_lt (zR HO857)) k_ hk_), (Kd.freshB (g := gb843) (o := .cells #[.int .i64 a0_0, .int .i64 a0_1, .int .i64 a0_2, .slice A0_3 l0_3.length c0_3] 24 (0, 0)) (zc BK843) k_ hk_), (Kd.freshB (g := gb846) (o := .cells #[.int .i64 a0_0, .int .i64 a0_1, .int .i64 a0_2, .slice Ao34 y855.length co34] 24 (0, 0)) (zc BK846) k_ hk_)⟩)) (below_size zb)); have n3_ := zh (blk_below (g := gb843) (o := .cells #[.int .i64 a0_0, .int .i64 a0_1, .int .i64 a0_2, .slice A0_3 l0_3.length c0_3] 24 (0, 0)) (zc BK843) hb); have n4_ := zh (blk_below (g := gb846) (o := .cells #[.int .i64 a0_0, .int .i64 a0_1, .int .i64 a0_2, .slice Ao34 y855.length co34] 24 (0, 0)) (zc BK846) hb); have n5_ := zh (below_step zb hb); clear HO857; clear HO860; clear BK843; clear BK846; clear HB; have HO857 := n0_; have HO860 := n1_; have HO864 := n2_; have BK843 := n3_; have BK846 := n4_; have HB := n5_; clear n0_ n1_ n2_ n3_ n4_ n5_; (try clear hb); (try clear hb2); (try clear hk); (try clear hi); (try clear ho0); have hcz40_0 : w39.cell? ⟨gb846, 0, none⟩ = some (.int .i64 a0_0) := vb BK846 0; have hcz40_1 : w39.cell? ⟨gb846, 1, none⟩ = some (.int .i64 a0_1) := vb BK846 1; have hcz40_2 : w39.cell? ⟨gb846, 2, none⟩ = some (.int .i64 a0_2) := vb BK846 2; have hcz40_3 : w39.cell? ⟨gb846, 3, none⟩ = some (.slice Ao34 y855.length co34) := vb BK846 3; have hfz40_0 := blk_frozen BK846.out 0; have hfz40_1 := blk_frozen BK846.out 1; have hfz40_2 := blk_frozen BK846.out 2; have hfz40_3 := blk_frozen BK846.out 3) | ((with_reducible refine gate_callee (f := 36) rfl ?_); refine goesL_ (some 63) rfl rfl Tryd.func36 zk rfl #[.agg #[.int .i64 a0_0, .int .i64 a0_1, .int .i64 a0_2, .slice Ao34 y855.length co34], .int .i64 (l0_3.length : Int), .int .i64 (l0_3.length : Int)] rfl zm ?_; (with_reducible refine (kernel_Twins.calls a0_0 a0_1 a0_2 _ _ y855 (l0_3.length : Int) (l0_3.length : Int) t866 t869 t872 _ ?side1 ?side2 ?side3 A21.out).mono ?_); (case side1 => repeat (first | exact (Kd.R_reads' HO857.out).2.2 | (with_reducible refine Kd.C_alloc ?_ _) | (with_reducible refine Kd.C_drewN ?_ _) | (with_reducible refine Kd.C_drew ?_))); (case side2 => exact (Kd.R_reads' HO857.out).2.1); (case side3 => exact Glob.below HG.out zb); rintro e w41 ⟨v867, v870, rfl, ho0, ho1, hb⟩; refine ⟨_, rfl, ?_⟩; have n0_ := zh (Kd.R_below (zR HO857) hb); have n1_ := zh (Kd.V_below (zV HO860) hb); have n2_ := zh (Kd.V_below (zV HO864) hb); have n3_ := zh (Kd.V_lower (Kd.V_mono (ok' := fun k_ => some k_ ≠ (.slice Ao34 y855.length co34 : Value).ownBlock ∧ k_ ≠ gb843 ∧ k_ ≠ gb846) ho0 (fun k_ hk_ => ⟨(Kd.fresh' (Kd.R_lt (zR HO857)) k_ hk_), (Kd.freshB (g := gb843) (o := .cells #[.int .i64 a0_0, .int .i64 a0_1, .int .i64 a0_2, .slice A0_3 l0_3.length c0_3] 24 (0, 0)) (zc BK843) k_ hk_), (Kd.freshB (g := gb846) (o := .cells #[.int .i64 a0_0, .int .i64 a0_1, .int .i64 a0_2, .slice Ao34 y855.length co34] 24 (0, 0)) (zc BK846) k_ hk_)⟩)) (below_size zb)); have n4_ := zh (Kd.V_lower (Kd.V_mono (ok' := fun k_ => some k_ ≠ (.slice Ao34 y855.length co34 : Value).ownBlock ∧ k_ ≠ gb843 ∧ k_ ≠ gb846) ho1 (fun k_ hk_ => ⟨(Kd.fresh' (Kd.R_lt (zR HO857)) k_ hk_), (Kd.freshB (g := gb843) (o := .cells #[.int .i64 a0_0, .int .i64 a0_1, .int .i64 a0_2, .slice A0_3 l0_3.length c0_3] 24 (0, 0)) (zc BK843) k_ hk_), (Kd.freshB (g := gb846) (o := .cells #[.int .i64 a0_0, .int .i64 a0_1, .int .i64 a0_2, .slice Ao34 y855.length co34] 24 (0, 0)) (zc BK846) k_ hk_)⟩)) (below_size zb)); have n5_ := zh (blk_below (g := gb843) (o := .cells #[.int .i64 a0_0, .int .i64 a0_1, .int .i64 a0_2, .slice A0_3 l0_3.length c0_3] 24 (0, 0)) (zc BK843) hb); have n6_ := zh (blk_below (g := gb846) (o := .cells #[.int .i64 a0_0, .int .i64 a0_1, .int .i64 a0_2, .slice Ao34 y855.length co34] 24 (0, 0)) (zc BK846) hb); have n7_ := zh (below_step zb hb); clear HO857; clear HO860; clear HO864; clear BK843; clear BK846; clear HB; have HO857 := n0_; have HO860 := n1_; have HO864 := n2_; have HO868 := n3_; have HO871 := n4_; have BK843 := n5_; have BK846 := n6_; have HB := n7_; clear n0_ n1_ n2_ n3_ n4_ n5_ n6_ n7_; (try clear hb); (try clear hb2); (try clear hk); (try clear hi); (try clear ho0); (try clear ho1)))
      (try simp only [Act.put, List.setIfInBounds_toArray, List.set_cons_zero, List.set_cons_succ])
      go_cut [85] (fun v85 wc => ∃ (kq : Nat) (x85_21 : Bool), v85 = .bool x85_21 ∧ Aside0 (saronlaw06_KernelWhole.j1 kq (l0_3.length : Int) t858 x85_21 = some r) ∧ Aside0 (kq ≤ kj2) ∧ Aside0 (Kd.V k61 61 wc w.heap.size (fun k_ => some k_ ≠ ((.slice Ao34 y855.length co34) : Value).ownBlock ∧ k_ ≠ gb843 ∧ k_ ≠ gb846) v859 t858) ∧ Aside0 (Kd.R k66 66 wc w.heap.size (fun _ => True) (.slice Ao34 y855.length co34) y855) ∧ Aside0 (wc.heap[gb843]? = some (.cells #[.int .i64 a0_0, .int .i64 a0_1, .int .i64 a0_2, (.slice A0_3 l0_3.length c0_3)] 24 (0, 0))) ∧ Aside0 (wc.heap[gb846]? = some (.cells #[.int .i64 a0_0, .int .i64 a0_1, .int .i64 a0_2, (.slice Ao34 y855.length co34)] 24 (0, 0))) ∧ Aside0 (Below w.heap.size w wc))
      case first =>
       have H := HC22.out
       clear HC22
       by_cases c42 : t861 = 0
       ·rw [if_pos c42] at H
        have c42b0 : (t861 == 0) = true := beq_iff_eq.mpr c42
        have c42b1 : (t861 != 0) = false := bne_eq_false_iff_eq.mpr c42
        clear c42
        (first | rw [c42b0] | (simp only [i64_w, i32_w]; rw [c42b0]) | skip)
        by_cases c43 : t865 = 0
        ·rw [if_pos c43] at H
         have c43b0 : (t865 == 0) = true := beq_iff_eq.mpr c43
         have c43b1 : (t865 != 0) = false := bne_eq_false_iff_eq.mpr c43
         clear c43
         by_cases c44 : t872 = 4
         ·rw [if_pos c44] at H
          have c44b0 : (t872 == 4) = true := beq_iff_eq.mpr c44
          have c44b1 : (t872 != 4) = false := bne_eq_false_iff_eq.mpr c44
          clear c44
          have H' := zh H
          clear H
          obtain ⟨Ao45, co45, eo45⟩ := Kd.V_slice HO860.out
          subst eo45
          obtain ⟨Ao46, co46, eo46⟩ := Kd.V_slice HO864.out
          subst eo46
          go_wp2
          go_meet
          case rel => exact ⟨_, (((t858.length : Int) != (wrap64 ((t862.length : Int) + (l0_3.length : Int))))), ze, H', ⟨by have := HJ2.out; first | omega | exact Nat.le_refl _⟩, ⟨zV HO860⟩, ⟨zR HO857⟩, ⟨zc BK843⟩, ⟨zc BK846⟩, ⟨zb⟩⟩
         ·rw [if_neg c44] at H
          have c44b0 : (t872 == 4) = false := beq_eq_false_iff_ne.mpr c44
          have c44b1 : (t872 != 4) = true := bne_iff_ne.mpr c44
          have H' := zh H
          clear H
          go_wp2
          go_meet
          case rel => exact ⟨_, (true), ze, H', ⟨by have := HJ2.out; first | omega | exact Nat.le_refl _⟩, ⟨zV HO860⟩, ⟨zR HO857⟩, ⟨zc BK843⟩, ⟨zc BK846⟩, ⟨zb⟩⟩
        ·rw [if_neg c43] at H
         have c43b0 : (t865 == 0) = false := beq_eq_false_iff_ne.mpr c43
         have c43b1 : (t865 != 0) = true := bne_iff_ne.mpr c43
         have H' := zh H
         clear H
         go_wp2
         go_meet
         case rel => exact ⟨_, (true), ze, H', ⟨by have := HJ2.out; first | omega | exact Nat.le_refl _⟩, ⟨zV HO860⟩, ⟨zR HO857⟩, ⟨zc BK843⟩, ⟨zc BK846⟩, ⟨zb⟩⟩
       ·rw [if_neg c42] at H
        have c42b0 : (t861 == 0) = false := beq_eq_false_iff_ne.mpr c42
        have c42b1 : (t861 != 0) = true := bne_iff_ne.mpr c42
        (first | rw [c42b0] | (simp only [i64_w, i32_w]; rw [c42b0]) | skip)
        have H' := zh H
        clear H
        go_wp2
        go_meet
        case rel => exact ⟨_, (true), ze, H', ⟨by have := HJ2.out; first | omega | exact Nat.le_refl _⟩, ⟨zV HO860⟩, ⟨zR HO857⟩, ⟨zc BK843⟩, ⟨zc BK846⟩, ⟨zb⟩⟩
      case rest =>
       clear HC22
       try clear c1
       try clear c2
       try clear p2
       try clear c3
       try clear c4
       try clear c6
       try clear p6
       try clear c12
       try clear c14
       try clear c15
       try clear c18
       try clear c21
       try clear c25
       try clear c33
       try clear c36
       try clear c39
       try clear c42
       try clear c42b0
       try clear c42b1
       try clear c43
       try clear c43b0
       try clear c43b1
       try clear c44
       try clear c44b0
       try clear c44b1
       try clear hcz10_0
       try clear hcz10_1
       try clear hcz10_2
       try clear hcz10_3
       try clear hcz23_0
       try clear hcz23_1
       try clear hcz23_2
       try clear hcz23_3
       try clear hcz26_0
       try clear hcz26_1
       try clear hcz26_2
       try clear hcz26_3
       try clear hcz27_0
       try clear hcz27_1
       try clear hcz27_2
       try clear hcz27_3
       try clear hcz36_0
       try clear hcz36_1
       try clear hcz36_2
       try clear hcz36_3
       try clear hcz38_0
       try clear hcz38_1
       try clear hcz38_2
       try clear hcz38_3
       try clear hcz40_0
       try clear hcz40_1
       try clear hcz40_2
       try clear hcz40_3
       try clear hcz7_0
       try clear hcz7_1
       try clear hcz7_2
       try clear hcz7_3
       try clear hcz9_0
       try clear hcz9_1
       try clear hcz9_2
       try clear hcz9_3
       try clear hfz10_0
       try clear hfz10_1
       try clear hfz10_2
       try clear hfz10_3
       try clear hfz23_0
       try clear hfz23_1
       try clear hfz23_2
       try clear hfz23_3
       try clear hfz26_0
       try clear hfz26_1
       try clear hfz26_2
       try clear hfz26_3
       try clear hfz27_0
       try clear hfz27_1
       try clear hfz27_2
       try clear hfz27_3
       try clear hfz36_0
       try clear hfz36_1
       try clear hfz36_2
       try clear hfz36_3
       try clear hfz38_0
       try clear hfz38_1
       try clear hfz38_2
       try clear hfz38_3
       try clear hfz40_0
       try clear hfz40_1
       try clear hfz40_2
       try clear hfz40_3
       try clear hfz7_0
       try clear hfz7_1
       try clear hfz7_2
       try clear hfz7_3
       try clear hfz9_0
       try clear hfz9_1
       try clear hfz9_2
       try clear hfz9_3
       try clear p2
       obtain ⟨kq, x85_21, rfl, HA, HJ21, HO_7, HO_847003, BK843, BK846, HB⟩ := hcut
       cases kq with
       | zero => exact absurd HA.out (by simp [saronlaw06_KernelWhole.j1])
       | succ kj21 =>
        have H := HA.out
        clear HA
        simp only [saronlaw06_KernelWhole.j1] at H
        by_cases c47 : x85_21 = true
        ·subst c47
         have H1 : (some false) = some r := by rw [if_pos rfl] at H; exact H
         clear H
         have H := H1
         clear H1
         obtain rfl := Option.some.inj H
         go_wp2
         go_ret
         exact ⟨zf, zb⟩
        ·replace c47 := Bool.eq_false_iff.mpr c47
         subst c47
         have H1 : (saronlaw06_KernelWhole.l0 kj21 (l0_3.length : Int) t858 0 0) = some r := by rw [if_neg (show ¬ (false = true) by decide)] at H; exact H
         clear H
         have H := H1
         clear H1
         have H' := zh H
         clear H
         go_wp2
         go_loopg [14, 15] kj21 (fun kq v14 v15 w' => ∃ (x14_3 : Int) (x15_3 : Int), v14 = .int .i64 x14_3 ∧ v15 = .int .i64 x15_3 ∧ Aside0 (saronlaw06_KernelWhole.l0 kq (l0_3.length : Int) t858 x14_3 x15_3 = some r) ∧ Aside0 (kq ≤ kj21) ∧ Aside0 (Kd.V k61 61 w' w.heap.size (fun k_ => some k_ ≠ ((.slice Ao34 y855.length co34) : Value).ownBlock ∧ k_ ≠ gb843 ∧ k_ ≠ gb846) v859 t858) ∧ Aside0 (Kd.R k66 66 w' w.heap.size (fun _ => True) (.slice Ao34 y855.length co34) y855) ∧ Aside0 (w'.heap[gb843]? = some (.cells #[.int .i64 a0_0, .int .i64 a0_1, .int .i64 a0_2, (.slice A0_3 l0_3.length c0_3)] 24 (0, 0))) ∧ Aside0 (w'.heap[gb846]? = some (.cells #[.int .i64 a0_0, .int .i64 a0_1, .int .i64 a0_2, (.slice Ao34 y855.length co34)] 24 (0, 0))) ∧ Aside0 (Below w.heap.size w w'))
         case atStart => exact ⟨(0), (0), ze, ze, H', ⟨Nat.le_refl _⟩, ⟨zV HO_7⟩, ⟨zR HO_847003⟩, ⟨zc BK843⟩, ⟨zc BK846⟩, ⟨zb⟩⟩
         case round =>
          clear H'
          try clear c1
          try clear c2
          try clear p2
          try clear c3
          try clear c4
          try clear c6
          try clear p6
          try clear c12
          try clear c14
          try clear c15
          try clear c18
          try clear c21
          try clear c25
          try clear c33
          try clear c36
          try clear c39
          try clear c42
          try clear c42b0
          try clear c42b1
          try clear c43
          try clear c43b0
          try clear c43b1
          try clear c44
          try clear c44b0
          try clear c44b1
          try clear c47
          try clear hcz10_0
          try clear hcz10_1
          try clear hcz10_2
          try clear hcz10_3
          try clear hcz23_0
          try clear hcz23_1
          try clear hcz23_2
          try clear hcz23_3
          try clear hcz26_0
          try clear hcz26_1
          try clear hcz26_2
          try clear hcz26_3
          try clear hcz27_0
          try clear hcz27_1
          try clear hcz27_2
          try clear hcz27_3
          try clear hcz36_0
          try clear hcz36_1
          try clear hcz36_2
          try clear hcz36_3
          try clear hcz38_0
          try clear hcz38_1
          try clear hcz38_2
          try clear hcz38_3
          try clear hcz40_0
          try clear hcz40_1
          try clear hcz40_2
          try clear hcz40_3
          try clear hcz7_0
          try clear hcz7_1
          try clear hcz7_2
          try clear hcz7_3
          try clear hcz9_0
          try clear hcz9_1
          try clear hcz9_2
          try clear hcz9_3
          try clear hfz10_0
          try clear hfz10_1
          try clear hfz10_2
          try clear hfz10_3
          try clear hfz23_0
          try clear hfz23_1
          try clear hfz23_2
          try clear hfz23_3
          try clear hfz26_0
          try clear hfz26_1
          try clear hfz26_2
          try clear hfz26_3
          try clear hfz27_0
          try clear hfz27_1
          try clear hfz27_2
          try clear hfz27_3
          try clear hfz36_0
          try clear hfz36_1
          try clear hfz36_2
          try clear hfz36_3
          try clear hfz38_0
          try clear hfz38_1
          try clear hfz38_2
          try clear hfz38_3
          try clear hfz40_0
          try clear hfz40_1
          try clear hfz40_2
          try clear hfz40_3
          try clear hfz7_0
          try clear hfz7_1
          try clear hfz7_2
          try clear hfz7_3
          try clear hfz9_0
          try clear hfz9_1
          try clear hfz9_2
          try clear hfz9_3
          try clear p2
          try clear p6
          obtain ⟨x14_3, x15_3, rfl, rfl, HA, HK3, HO_7, HO_847003, BK843, BK846, HB⟩ := hrel
          cases gk with
          | zero => exact absurd HA.out (by simp [saronlaw06_KernelWhole.l0])
          | succ k3 =>
           have H := HA.out
           clear HA
           simp only [saronlaw06_KernelWhole.l0] at H
           by_cases c48 : x15_3 < (t858.length : Int)
           ·rw [if_pos c48] at H
            have c48b0 : decide (x15_3 < (t858.length : Int)) = true := decide_eq_true c48
            clear c48
            by_cases c49 : 0 ≤ x15_3
            ·rw [if_pos c49] at H
             have c49b0 : decide (0 ≤ x15_3) = true := decide_eq_true c49
             clear c49
             by_cases c50 : ((rd_T61 t858 x15_3).f1) = (l0_3.length : Int)
             ·rw [if_pos c50] at H
              have c50b0 : (((rd_T61 t858 x15_3).f1) == (l0_3.length : Int)) = true := beq_iff_eq.mpr c50
              have c50b1 : (((rd_T61 t858 x15_3).f1) != (l0_3.length : Int)) = false := bne_eq_false_iff_eq.mpr c50
              clear c50
              have H' := zh H
              clear H
              obtain ⟨Ao51, co51, eo51⟩ := Kd.V_slice HO_7.out
              subst eo51
              have p873 : 0 ≤ (x15_3 : Int) := of_decide_eq_true zs
              have q873 : x15_3 < (t858.length : Int) := of_decide_eq_true zs
              obtain ⟨ad873, e873, hx873_0, hx873_1⟩ := at_T61 (Kd.V_reads' HO_7.out).2.2 x15_3 p873 q873
              cases e873
              replace p873 := eq_true p873
              replace q873 := eq_true q873
              go_wp2
              go_roundg k3
              case measure => have := HJ2.out; have := HJ21.out; have := HK3.out; omega
              case rel => exact ⟨(wrap64 (x14_3 + 1)), (wrap64 (x15_3 + 1)), ze, ze, H', ⟨by have := HJ2.out; have := HJ21.out; have := HK3.out; omega⟩, ⟨zV HO_7⟩, ⟨zR HO_847003⟩, ⟨zc BK843⟩, ⟨zc BK846⟩, ⟨zb⟩⟩
             ·rw [if_neg c50] at H
              have c50b0 : (((rd_T61 t858 x15_3).f1) == (l0_3.length : Int)) = false := beq_eq_false_iff_ne.mpr c50
              have c50b1 : (((rd_T61 t858 x15_3).f1) != (l0_3.length : Int)) = true := bne_iff_ne.mpr c50
              have H' := zh H
              clear H
              obtain ⟨Ao52, co52, eo52⟩ := Kd.V_slice HO_7.out
              subst eo52
              have p873 : 0 ≤ (x15_3 : Int) := of_decide_eq_true zs
              have q873 : x15_3 < (t858.length : Int) := of_decide_eq_true zs
              obtain ⟨ad873, e873, hx873_0, hx873_1⟩ := at_T61 (Kd.V_reads' HO_7.out).2.2 x15_3 p873 q873
              cases e873
              replace p873 := eq_true p873
              replace q873 := eq_true q873
              go_wp2
              go_roundg k3
              case measure => have := HJ2.out; have := HJ21.out; have := HK3.out; omega
              case rel => exact ⟨(x14_3), (wrap64 (x15_3 + 1)), ze, ze, H', ⟨by have := HJ2.out; have := HJ21.out; have := HK3.out; omega⟩, ⟨zV HO_7⟩, ⟨zR HO_847003⟩, ⟨zc BK843⟩, ⟨zc BK846⟩, ⟨zb⟩⟩
            ·rw [if_neg c49] at H
             exact absurd H (by simp)
           ·rw [if_neg c48] at H
            have c48b0 : decide (x15_3 < (t858.length : Int)) = false := decide_eq_false c48
            clear c48
            by_cases c53 : x14_3 = (l0_3.length : Int)
            ·rw [if_pos c53] at H
             have c53b0 : (x14_3 == (l0_3.length : Int)) = true := beq_iff_eq.mpr c53
             have c53b1 : (x14_3 != (l0_3.length : Int)) = false := bne_eq_false_iff_eq.mpr c53
             clear c53
             replace H := Option.bind_eq_some_iff.mp H
             obtain ⟨t874, A540, H⟩ := H
             replace H : (some t874) = some r := H
             have A54 := zh A540
             clear A540
             obtain rfl := Option.some.inj H
             obtain ⟨Ao55, co55, eo55⟩ := Kd.V_slice HO_7.out
             subst eo55
             go_wp2_with (first | (go_at_call 21; (with_reducible refine (saronlaw06_works.calls  t874 _ ?side1 A54.out).mono ?_); (case side1 => exact Glob.below HG.out zb); rintro e w56 ⟨rfl, hb⟩; have n0_ := zh (Kd.V_below (zV HO_7) hb); have n1_ := zh (Kd.R_below (zR HO_847003) hb); have n2_ := zh (blk_below (g := gb843) (o := .cells #[.int .i64 a0_0, .int .i64 a0_1, .int .i64 a0_2, .slice A0_3 l0_3.length c0_3] 24 (0, 0)) (zc BK843) hb); have n3_ := zh (blk_below (g := gb846) (o := .cells #[.int .i64 a0_0, .int .i64 a0_1, .int .i64 a0_2, .slice Ao34 y855.length co34] 24 (0, 0)) (zc BK846) hb); have n4_ := zh (below_step zb hb); clear HO_7; clear HO_847003; clear BK843; clear BK846; clear HB; have HO_7 := n0_; have HO_847003 := n1_; have BK843 := n2_; have BK846 := n3_; have HB := n4_; clear n0_ n1_ n2_ n3_ n4_; (try clear hb); (try clear hb2); (try clear hk); (try clear hi)))
             go_ret
             exact ⟨zf, zb⟩
            ·rw [if_neg c53] at H
             have c53b0 : (x14_3 == (l0_3.length : Int)) = false := beq_eq_false_iff_ne.mpr c53
             have c53b1 : (x14_3 != (l0_3.length : Int)) = true := bne_iff_ne.mpr c53
             obtain rfl := Option.some.inj H
             obtain ⟨Ao57, co57, eo57⟩ := Kd.V_slice HO_7.out
             subst eo57
             go_wp2
             go_ret
             exact ⟨zf, zb⟩
     ·rw [if_neg c18] at H
      exact absurd H (by simp)
    ·rw [if_neg c15] at H
     exact absurd H (by simp)
end Go.Proofs.YtagkfkdoibnhfaaDoor.H
end
section
namespace Go.Proofs.YtagkfkdoibnhfaaDoor.K
open Go.RowKit Go.Proofs.YtagkfkdoibnhfaaDoorW.PrintWords Go.Proofs.YtagkfkdoibnhfaaDoorW.PrintMore Go.Proofs.YtagkfkdoibnhfaaDoor.H
namespace O
theorem twinsOf_cons (f : Int × Int → List Int) (met : List (Int × Int)) (p : Int × Int) (rest : List (Int × Int)) : twinsOf f met (p :: rest) = match met.find? fun q => f q == f p with
  | some q => some (q, p)
  | none => twinsOf f (met ++ [p]) rest := by
 conv => lhs; unfold twinsOf
 cases met.find? fun q => f q == f p <;> rfl
theorem twinsOf_none (f : Int × Int → List Int) : ∀ (rest met : List (Int × Int)), (met ++ rest).Nodup → (∀ p ∈ met ++ rest, ∀ q ∈ met ++ rest, f p = f q → p = q) → twinsOf f met rest = none
 | [], met, _, _ => rfl
 | x :: rest, met, hn, h => by
  rw [twinsOf_cons]
  cases hf : met.find? fun q => f q == f x with
  | none => exact twinsOf_none f rest (met ++ [x]) (by simpa using hn) (by simpa using h)
  | some y =>
   exfalso
   have hm1 := List.mem_of_find?_eq_some hf
   have hm2 := List.find?_some hf
   have hm3 : f y = f x := beq_iff_eq.1 hm2
   have := h y (by simp [hm1]) x (by simp) hm3
   subst this
   rw [List.nodup_append] at hn
   exact hn.2.2 _ hm1 _ (by simp) rfl
def wholeReg (m rule step : Int) : S66 := ⟨rule, 0, m - 1, step⟩
theorem whole_strokes (T m rule step : Int) (R : List S66) (hr : 1 ≤ rule) (p q : Int × Int) (hp : (0 ≤ p.1 ∧ p.1 ≤ m - 1) ∧ 0 ≤ p.2 ∧ p.2 ≤ m - 1) (hq : (0 ≤ q.1 ∧ q.1 ≤ m - 1) ∧ 0 ≤ q.2 ∧ q.2 ≤ m - 1)
  (h : strokes T (R ++ [wholeReg m rule step]) (R.length : Int) p.1 p.2 = strokes T (R ++ [wholeReg m rule step]) (R.length : Int) q.1 q.2) : p = q := by
 have e : regAt (R ++ [wholeReg m rule step]) (R.length : Int) = wholeReg m rule step := by unfold regAt; simp
 unfold strokes at h
 rw [e] at h
 have pl : ∀ n, 0 ≤ n → n ≤ m - 1 → plays T (wholeReg m rule step) n = n := fun n h0 h1 => by
  unfold plays wholeReg
  rw [if_pos ⟨h0, h1⟩]
 have f1 := pl p.1 hp.1.1 hp.1.2
 have f2 := pl p.2 hp.2.1 hp.2.2
 have f3 := pl q.1 hq.1.1 hq.1.2
 have f4 := pl q.2 hq.2.1 hq.2.2
 unfold bar at h
 rw [if_neg (show ¬ (wholeReg m rule step).f0 = 0 by show ¬ rule = 0; omega), if_neg (show ¬ (wholeReg m rule step).f0 = 0 by show ¬ rule = 0; omega)] at h
 refine Prod.ext ?_ ?_
 all_goals
  split at h
  ·simp only [List.map_cons, List.map_nil, f1, f2, f3, f4, List.cons.injEq, and_true] at h
   first | exact h.1 | exact h.2
  ·split at h
   ·simp only [List.map_cons, List.map_nil, f1, f2, f3, f4, List.cons.injEq, and_true] at h
    first | exact h.1 | exact h.2.2.1
   ·split at h
    ·simp only [List.map_cons, List.map_nil, f1, f2, f3, f4, List.cons.injEq, and_true] at h
     first | exact h.1 | exact h.2.1
    ·simp only [List.map_cons, List.map_nil, f1, f2, f3, f4, List.cons.injEq, and_true] at h
     first | exact h.2.1 | exact h.2.2.2
theorem strokes_old (T r a b : Int) (R : List S66) (x : S66) (h0 : 0 ≤ r) (h1 : r < R.length) : strokes T (R ++ [x]) r a b = strokes T R r a b := by
 have e : regAt (R ++ [x]) r = regAt R r := by
  unfold regAt
  rw [List.getD_eq_getElem?_getD, List.getD_eq_getElem?_getD, List.getElem?_append_left (by omega)]
 unfold strokes
 rw [e]
theorem twins_old (T O one other : Int) (R : List S66) (x : S66) (h1 : 0 ≤ one) (h1' : one < R.length) (h2 : 0 ≤ other) (h2' : other < R.length) : twins T O (R ++ [x]) one other = twins T O R one other := by
 have e : both T (R ++ [x]) one other = both T R one other := by
  funext p
  unfold both
  rw [strokes_old _ _ _ _ _ _ h1 h1', strokes_old _ _ _ _ _ _ h2 h2']
 unfold twins
 rw [e]
theorem twins_whole (T O m rule step one : Int) (R : List S66) (hm : T * O = m) (hr : 1 ≤ rule) : twins T O (R ++ [wholeReg m rule step]) one (R.length : Int) = none := by
 unfold twins
 rw [hm]
 refine twinsOf_none _ (pairsOf m) [] (by simpa using pairs_nodup m) ?_
 intro p hp q hq h
 have hp' := pairs_mem (m := m) (by simpa using hp)
 have hq' := pairs_mem (m := m) (by simpa using hq)
 unfold both at h
 have hl : ∀ (a b c d : Int), (strokes T (R ++ [wholeReg m rule step]) one a b).length = (strokes T (R ++ [wholeReg m rule step]) one c d).length := fun a b c d => by
  unfold strokes
  rw [List.length_map, List.length_map, width_len, width_len]
 exact whole_strokes T m rule step R hr p q hp' hq' (List.append_inj h (hl _ _ _ _)).2
theorem whole_l0 (n : Nat) (hn : n ≤ 100) (l : List S61) (hl : l.length ≤ 1000) (d : Nat) : ∀ (k i c : Nat), l.length - i = d → i ≤ l.length → c ≤ i → d + 1 ≤ k →
  saronlaw06_KernelWhole.l0 k (n : Int) l (c : Int) (i : Int) = some (decide (c + (l.drop i).countP (fun x => decide (x.f1 = (n : Int))) = n)) := by
 induction d with
 | zero =>
  intro k i c hd hi hc hk
  obtain ⟨k, rfl⟩ : ∃ z, k = z + 1 := ⟨k - 1, by omega⟩
  obtain rfl : i = l.length := by omega
  simp only [saronlaw06_KernelWhole.l0]
  rw [if_neg (by omega), List.drop_length, List.countP_nil, Nat.add_zero]
  by_cases h : c = n
  ·rw [if_pos (by omega), decide_eq_true h]; rfl
  ·rw [if_neg (by omega), decide_eq_false h]
 | succ d ih =>
  intro k i c hd hi hc hk
  obtain ⟨k, rfl⟩ : ∃ z, k = z + 1 := ⟨k - 1, by omega⟩
  have hlt : i < l.length := by omega
  simp only [saronlaw06_KernelWhole.l0]
  rw [if_pos (by omega), if_pos (by omega), rd61 l i hlt, up1 i (by omega), up1 c (by omega), List.drop_eq_getElem_cons hlt, List.countP_cons]
  by_cases h : l[i].f1 = (n : Int)
  ·rw [if_pos h, ih k (i + 1) (c + 1) (by omega) (by omega) (by omega) (by omega), if_pos (decide_eq_true h)]
   congr 2
   rw [Nat.add_assoc, Nat.add_comm 1]
  ·rw [if_neg h, ih k (i + 1) c (by omega) (by omega) (by omega) (by omega), if_neg (by simpa using h)]
   rfl
def pr61 (p : Nat × Nat) : S61 := ⟨(p.1 : Int), (p.2 : Int)⟩
def alone (T O : Int) (R : List S66) (p : Nat × Nat) : Bool := (twins T O R (p.1 : Int) (p.2 : Int)).isNone
theorem Pairs_ok {T O L : Int} {R : List S66} (h : okScale T O L R = true) : Pairs T O L R = (((registerPairs R.length).filter (alone T O R)).map pr61, 0) := by
 unfold Pairs
 rw [if_pos h]
 rfl
def row (n i : Nat) : List (Nat × Nat) := (List.range (n - (i + 1))).map fun k => (i, i + 1 + k)
theorem row_succ (n i : Nat) (h : i < n) : row (n + 1) i = row n i ++ [(i, n)] := by
 unfold row
 rw [show n + 1 - (i + 1) = (n - (i + 1)) + 1 by omega, List.range_succ, List.map_append, List.map_cons, List.map_nil]
 congr 3
 omega
theorem row_mem (n i : Nat) (p : Nat × Nat) (h : p ∈ row n i) : p.1 = i ∧ i < p.2 ∧ p.2 < n := by
 unfold row at h
 rw [List.mem_map] at h
 obtain ⟨k, hk, rfl⟩ := h
 rw [List.mem_range] at hk
 exact ⟨rfl, by show i < i + 1 + k; omega, by show i + 1 + k < n; omega⟩
theorem whole_rows (T O m rule step : Int) (R : List S66) (hm : T * O = m) (hr : 1 ≤ rule) : ∀ l : List Nat, (∀ i ∈ l, i < R.length) →
  ((l.flatMap (row (R.length + 1))).filter (alone T O (R ++ [wholeReg m rule step]))).length = ((l.flatMap (row R.length)).filter (alone T O R)).length + l.length ∧
   (((l.flatMap (row (R.length + 1))).filter (alone T O (R ++ [wholeReg m rule step]))).map pr61).countP (fun x => decide (x.f1 = (R.length : Int))) = l.length
 | [], _ => ⟨rfl, rfl⟩
 | i :: l, h => by
  obtain ⟨ih1, ih2⟩ := whole_rows T O m rule step R hm hr l (fun j hj => h j (by simp [hj]))
  have hi := h i (by simp)
  have e1 : (row R.length i).filter (alone T O (R ++ [wholeReg m rule step])) = (row R.length i).filter (alone T O R) := by
   apply List.filter_congr
   intro p hp
   obtain ⟨g1, g2, g3⟩ := row_mem _ _ _ hp
   unfold alone
   rw [twins_old T O (p.1 : Int) (p.2 : Int) R _ (by omega) (by omega) (by omega) (by omega)]
  have e2 : alone T O (R ++ [wholeReg m rule step]) (i, R.length) = true := by
   unfold alone
   rw [twins_whole T O m rule step (i : Int) R hm hr]
   rfl
  have e3 : ((row R.length i).filter (alone T O R)).map pr61 = ((row R.length i).filter (alone T O R)).map pr61 := rfl
  have e4 : (((row R.length i).filter (alone T O R)).map pr61).countP (fun x => decide (x.f1 = (R.length : Int))) = 0 := by
   rw [List.countP_eq_zero]
   intro x hx
   rw [List.mem_map] at hx
   obtain ⟨p, hp, rfl⟩ := hx
   obtain ⟨g1, g2, g3⟩ := row_mem _ _ _ (List.mem_filter.1 hp).1
   have : ¬ ((pr61 p).f1 = (R.length : Int)) := by show ¬ ((p.2 : Int) = (R.length : Int)); omega
   simpa using this
  have e5 : ([(i, R.length)].filter (alone T O (R ++ [wholeReg m rule step]))) = [(i, R.length)] := by
   rw [List.filter_cons, if_pos e2]
   rfl
  rw [List.flatMap_cons, List.flatMap_cons, row_succ _ _ hi, List.filter_append, List.filter_append, List.filter_append, e1, e5]
  refine ⟨?_, ?_⟩
  ·rw [List.length_append, List.length_append, List.length_append, ih1, List.length_cons, List.length_cons, List.length_nil]
   omega
  ·rw [List.map_append, List.map_append, List.countP_append, List.countP_append, e4, ih2, List.length_cons]
   show 0 + List.countP _ [pr61 (i, R.length)] + l.length = l.length + 1
   rw [List.countP_cons, if_pos (by show decide ((R.length : Int) = (R.length : Int)) = true; simp)]
   simp
   omega
theorem registerPairs_rows (n : Nat) : registerPairs n = (List.range n).flatMap (row n) := rfl
theorem row_last (n : Nat) : row (n + 1) n = [] := by
 unfold row
 rw [Nat.sub_self]
 rfl
theorem whole_pairs (T O m rule step : Int) (R : List S66) (hm : T * O = m) (hr : 1 ≤ rule) :
  ((registerPairs (R.length + 1)).filter (alone T O (R ++ [wholeReg m rule step]))).length = ((registerPairs R.length).filter (alone T O R)).length + R.length ∧
   (((registerPairs (R.length + 1)).filter (alone T O (R ++ [wholeReg m rule step]))).map pr61).countP (fun x => decide (x.f1 = (R.length : Int))) = R.length := by
 obtain ⟨h1, h2⟩ := whole_rows T O m rule step R hm hr (List.range R.length) (fun i hi => List.mem_range.1 hi)
 rw [List.length_range] at h1 h2
 have e : registerPairs (R.length + 1) = (List.range R.length).flatMap (row (R.length + 1)) := by
  rw [registerPairs_rows, List.range_succ, List.flatMap_append]
  show _ ++ (row (R.length + 1) R.length ++ []) = _
  rw [row_last]
  simp
 rw [e, registerPairs_rows R.length]
 exact ⟨h1, h2⟩
theorem flatMap_len_le {α β : Type} (f : α → List β) (B : Nat) : ∀ l : List α, (∀ x ∈ l, (f x).length ≤ B) → (l.flatMap f).length ≤ l.length * B
 | [], _ => by simp
 | x :: l, h => by
  have h1 := h x (by simp)
  have h2 := flatMap_len_le f B l (fun y hy => h y (by simp [hy]))
  rw [List.flatMap_cons, List.length_append, List.length_cons, Nat.add_mul, Nat.one_mul]
  omega
theorem whole_law (T O L rule : Int) (R : List S66) (hR : R.length ≤ 9223372036854775807) (k : Nat) (hk : 2 * R.length + 200 ≤ k) : saronlaw06_KernelWhole.f k T O L R rule = some true := by
 unfold saronlaw06_KernelWhole.f
 rw [sound_f T O L R hR k (by omega), Option.bind_some]
 obtain ⟨k, rfl⟩ : ∃ z, k = z + 2 := ⟨k - 2, by omega⟩
 cases hS : okScale T O L R
 ·rw [if_neg (by simp)]
  simp only [saronlaw06_KernelWhole.j0, if_true]
  rfl
 obtain ⟨t1, t2, t3, t4, t5, t6, t7, t8, t9, hok⟩ := okScale_regs hS
 have mr := mul_range t1 t2 t3 t4
 rw [if_pos rfl]
 simp only [saronlaw06_KernelWhole.j0]
 by_cases h5 : R.length = 5
 ·rw [if_pos (by rw [h5]; rfl)]
  rfl
 have r0 := Int.emod_nonneg rule (by omega : (4 : Int) ≠ 0)
 have r1 := Int.emod_lt_of_pos rule (by omega : (0 : Int) < 4)
 have s0 := Int.emod_nonneg rule (by omega : (3 : Int) ≠ 0)
 have s1 := Int.emod_lt_of_pos rule (by omega : (0 : Int) < 3)
 rw [if_neg (by rw [beq_iff_eq]; omega)]
 simp only [Option.bind_some, List.nil_append, List.length_nil]
 rw [if_pos (by omega), turn_f rule 4 (by omega) (by omega), turn_f rule 3 (by omega) (by omega)]
 simp only [Option.bind_some]
 rw [if_pos (by omega), w64 (n := 1 + rule % 4) (by omega) (by omega), w64 (n := T * O) (by omega) (by omega), w64 (n := T * O - 1) (by omega) (by omega)]
 simp only [kernel_Pairs.f, kernel_Twins.f, Option.bind_some]
 have hS' : okScale T O L (R ++ [wholeReg (T * O) (1 + rule % 4) (rule % 3)]) = true := by
  unfold okScale at hS ⊢
  simp only [Bool.and_eq_true, decide_eq_true_eq, List.all_append, List.length_append, List.length_cons, List.length_nil] at hS ⊢
  obtain ⟨⟨⟨⟨⟨⟨⟨⟨⟨a1, a2⟩, a3⟩, a4⟩, a5⟩, a6⟩, a7⟩, a8⟩, a9⟩, a10⟩ := hS
  refine ⟨⟨⟨⟨⟨⟨⟨⟨⟨a1, a2⟩, a3⟩, a4⟩, a5⟩, a6⟩, a7⟩, by omega⟩, by omega⟩, a10, ?_⟩
  rw [List.all_cons, List.all_nil, Bool.and_true]
  simp only [okReg, wholeReg, Bool.and_eq_true]
  exact ⟨⟨⟨⟨⟨⟨⟨decide_eq_true (by omega), decide_eq_true (by omega)⟩, decide_eq_true (by omega)⟩, decide_eq_true (by omega)⟩, decide_eq_true (by omega)⟩, decide_eq_true (by omega)⟩, decide_eq_true (by omega)⟩, decide_eq_true (by omega)⟩
 obtain ⟨w1, w2⟩ := whole_pairs T O (T * O) (1 + rule % 4) (rule % 3) R rfl (by omega)
 have hlen : (R ++ [wholeReg (T * O) (1 + rule % 4) (rule % 3)]).length = R.length + 1 := by simp
 have hb : ((registerPairs R.length).filter (alone T O R)).length ≤ 25 := by
  refine Nat.le_trans (List.length_filter_le _ _) ?_
  rw [registerPairs_rows]
  refine Nat.le_trans (flatMap_len_le _ 5 _ (fun x _ => by unfold row; rw [List.length_map, List.length_range]; omega)) ?_
  rw [List.length_range]
  omega
 have ht : (Twins T O L (R ++ [wholeReg (T * O) (1 + rule % 4) (rule % 3)]) (R.length : Int) (R.length : Int)) = ([], [], 4) := by
  unfold Twins
  rw [if_pos hS', if_pos (by rw [hlen]; omega), twins_whole T O (T * O) (1 + rule % 4) (rule % 3) (R.length : Int) R rfl (by omega)]
 have hx : (⟨1 + rule % 4, 0, T * O - 1, rule % 3⟩ : S66) = wholeReg (T * O) (1 + rule % 4) (rule % 3) := rfl
 rw [hx, ht, Pairs_ok hS', Pairs_ok hS, hlen]
 rw [if_pos rfl, if_pos rfl, if_pos rfl]
 simp only [List.length_map, saronlaw06_KernelWhole.j1]
 rw [w1, w64 (by omega) (by omega), if_neg (by simp)]
 have hl0 := whole_l0 R.length (by omega) (((registerPairs (R.length + 1)).filter (alone T O (R ++ [wholeReg (T * O) (1 + rule % 4) (rule % 3)]))).map pr61) (by rw [List.length_map, w1]; omega) _ k 0 0 rfl (Nat.zero_le _) (Nat.le_refl _) (by rw [List.length_map, w1]; omega)
 refine hl0.trans ?_
 rw [List.drop_zero, w2, Nat.zero_add, decide_eq_true rfl]
end O
end Go.Proofs.YtagkfkdoibnhfaaDoor.K
end
section
namespace Go.Proofs.YtagkfkdoibnhfaaDoor.kernelWhole
open Go.ChangeShapes Go.WideShapes Go.ChangeAt Go.RowKit Go.Proofs.YtagkfkdoibnhfaaDoorW.PrintWords Go.Proofs.YtagkfkdoibnhfaaDoor.H Go.Proofs.YtagkfkdoibnhfaaDoor.K
set_option linter.unusedVariables false
theorem own : ownKnob Tryd.prog.godebug = none := by kernel_rfl
theorem laidOut : laidOutB Tryd.prog = true := by kernel_rfl
theorem door_met (os : Os) (args : Array Value) : laidMetH Tryd.prog laid1 ((World.doorLaid Tryd.prog 600 os).forCall (fun _ _ => 0) ⟨#[], args, []⟩).memory :=
 laidMetH_of_parts3 (fuel := 8) (laidMet_of_run' 8 zk zk) zk zk
set_option maxRecDepth 100000 in
set_option maxHeartbeats 2000000 in
theorem lifted (os : Os) (started : os.Started) (H : Type) (enc : TypeId × Value → H) :
  ReturnsInHanded {} Tryd.checked os 14 .any (fun w args => (Rows.kernelWholeSpec.pre enc Tryd.prog Tryd.f14 [] false w args ∧ laidMetH Tryd.prog laid1 w) ∧ sizedMet enc Tryd.prog Tryd.f14 (OpenSpec.ofChange Rows.kernelWholeSpec) false w args)
   (Rows.kernelWholeSpec.post enc Tryd.prog Tryd.f14 false true false false) := by
 refine returnsInHanded_of_change_and (C := Tryd.checked) (X := fun w _ => laidMetH Tryd.prog laid1 w) (fun _ _ _ hh h => h.of_heap hh) own started zk Tryd.func14
  (ChangeSpec.witness_shaped (enc := enc) (C := Tryd.checked) (os := os) (X := fun w _ => laidMetH Tryd.prog laid1 w) false (World.doorLaid Tryd.prog 600 os) #[.agg #[.int .i64 0, .int .i64 0, .int .i64 0, .slice none 0 0], .int .i64 0] 8 rfl (World.shaped_of_RefB zk zk) zk zk zk (door_met os _)) ?_
 intro W base args ds gs before hval0 hW _ _ hL _
 have hval : ∀ (j : Nat) t v, Tryd.f14.params[j]? = some t → args[j]? = some v → Value.okWide Tryd.prog W .any base t v := hval0
 have hW' := hW
 obtain ⟨p, q, hA0, hV, rfl, hfz, hnd⟩ := hW
 have hA : DataW.TrodAll enc Tryd.prog W 0 (fun _ => true) true Tryd.f14.params.toList args.toList ds p := hA0
 rw [Tryd.params14] at hA hval
 obtain ⟨v0, vs0, d0, ds0, p0, q0, hargs, rfl, rfl, h0, r0⟩ := trodAll_cons hA
 obtain ⟨v1, vs1, d1, ds1, p1, q1, rfl, rfl, rfl, h1, r1⟩ := trodAll_cons r0
 obtain ⟨rfl, rfl, rfl⟩ := trodAll_nil r1
 obtain rfl : args = #[v0, v1] := by cases args; simp_all
 obtain ⟨rfl, rfl⟩ := trodVars_none hV
 have k0 := h0
 have lt0 : ∀ x ∈ p0, x.block < W.heap.size := by obtain ⟨m, hm⟩ := k0; exact DataW.trod_lt m _ _ _ hm
 obtain ⟨T0, O0, L0, A0, R0, c0, rfl, hc0, hC0, iT0, iO0, iL0, sR0, iR0⟩ := arg_scale (hval 0 24 v0 rfl rfl) h0
 obtain ⟨a1, rfl, rfl, rfl, w1⟩ := open_int Tryd.underlying3 (hval 1 3 v1 rfl rfl) h1
 clear hA0 hval0
 have hG := glob_of_laid hL
 refine (saronlaw06_KernelWhole.calls (2 * R0.length + 200) T0 O0 L0 A0 c0 R0 a1 true W hC0 hc0 hG (K.O.whole_law T0 O0 L0 a1 R0 sR0 _ (Nat.le_refl _))).mono fun e W' ⟨he, bel⟩ => ?_
 subst he
 exact ⟨_, rfl, _, _, _, [], _, [], hW', trodAll_mk1 (shut_bool Tryd.underlying4 _), (trodAll_cons_mk (Below.trod laidOut zk (of_decide_eq_true zk) k0 bel lt0) (trodAll_cons_mk (shut_int Tryd.underlying3 w1) trodAll_mk0)), rfl, bel.frame _, fun h => by cases h⟩
theorem over : Rows.kernelWholeRow.holds Tryd.pinned (OpenSpec.ofChange Rows.kernelWholeSpec) :=
 OpenClaim.holds_of_wide 14 Tryd.f14 rfl rfl rfl rfl rfl rfl rfl ⟨rfl, rfl, rfl, rfl, rfl⟩ rfl rfl rfl rfl rfl zk Tryd.func14 zk
  (of_decide_eq_true zk) (by unfold Func.isWrapper; first | (rw [if_pos (by decide +kernel)]; kernel_rfl) | (rw [if_neg (by decide +kernel)]; exact ⟨rfl, rfl⟩))
  (fun os started H enc _ => lifted os started H enc)
theorem proved : Rows.KernelWholeCardSaid :=
 Claim7.holds_tied_plain_at .later [] [.funcs] true (true, "1546f209dbcbef264cbb20aea537f6d5569935ba401e115858a8843598e79524") false
  over (fun _ h => by cases h) zk (fun _ h => by cases h) kernelWhole_row_tie rfl ⟨rfl, rfl⟩ zk rfl
  (fun f fn hf hfn => by
   obtain rfl : f = 14 := Option.some.inj ((show Tryd.prog.funcNamed "saron/saronlaw06.KernelWhole" = some 14 by kernel_rfl).symm.trans hf) |>.symm
   obtain rfl : fn = Tryd.f14 := (Option.some.inj (Tryd.func14.symm.trans hfn)).symm
   exact ⟨by kernel_rfl, fun j t ht => by
    rw [Tryd.params14] at ht
    have hm : t ∈ [24, 3] := by simpa using Array.mem_of_getElem? ht
    have hall : ([24, 3].all fun u => !Tryd.prog.wantsStandIn u) = true := by kernel_rfl
    exact (show Tryd.prog.wantsStandIn t = false by simpa using List.all_eq_true.1 hall t hm)⟩)
  zk
end Go.Proofs.YtagkfkdoibnhfaaDoor.kernelWhole
namespace Go.Proofs.YtagkfkdoibnhfaaDoor
theorem kernelWhole_card : Rows.KernelWholeCardSaid := kernelWhole.proved
end Go.Proofs.YtagkfkdoibnhfaaDoor
end
