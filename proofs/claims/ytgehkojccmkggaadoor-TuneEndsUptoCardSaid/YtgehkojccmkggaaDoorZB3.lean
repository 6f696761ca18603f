/- Texts of this seat, joined (pruned by a program of this session to what the claim comes to). -/
import Derived.Sort.CutIn
import Derived.Test.YtgehkojccmkggaaDoorZB1
import Derived.Test.YtgehkojccmkggaaDoorZB2
set_option linter.all false
section
namespace Go.Proofs.YtgehkojccmkggaaDoor.K
open Go.RowKit Go.Shelf Go.Proofs.YtgehkojccmkggaaDoorW.PrintWords Go.Proofs.YtgehkojccmkggaaDoorW.PrintLast Go.Proofs.YtgehkojccmkggaaDoorW.PrintMore Go.Proofs.YtgehkojccmkggaaDoor.H Tune
set_option linter.unusedVariables false
set_option linter.unusedSimpArgs false
attribute [local go_sem] Oper.semAt_some
def lfOf (l : List Int) (y : Nat) : Bool := l.any fun x => x == (y : Int)
theorem lfOf_snoc (l : List Int) (k : Nat) (h : k < l.length) (y : Nat) : lfOf (l.take (k + 1)) y = (lfOf (l.take k) y || l[k] == (y : Int)) := by
 unfold lfOf
 rw [List.take_succ_eq_append_getElem h, List.any_append]
 simp
def OpenedPost (vH vS vP : Value) (b0 b1 : Int) (jl : List S80) (lf : Nat → Bool) (w : World) (e : Ending) (w' : World) : Prop :=
 ∃ A3 c3, e = .returned (.agg #[vH, vS, vP, .int .i64 b0, .int .i64 b1, .slice A3 jl.length c3, .bool (lf 0), .bool (lf 1), .bool (lf 2), .bool (lf 3), .bool (lf 4), .bool (lf 5), .bool (lf 6), .bool (lf 7), .int .i64 b0, .int .i64 b1]) ∧ Kd.F k80 w' (fun k => w.heap.size ≤ k) A3 jl.length jl ∧ Below w.heap.size w w'
theorem set_left {w : World} {g : Nat} {vH vS vP vA : Value} {b0 b1 e0 e1 : Int} {lf : Nat → Bool} (h : w.heap[g]? = some (.cells #[vH, vS, vP, .int .i64 b0, .int .i64 b1, vA, .bool (lf 0), .bool (lf 1), .bool (lf 2), .bool (lf 3), .bool (lf 4), .bool (lf 5), .bool (lf 6), .bool (lf 7), .int .i64 e0, .int .i64 e1] 77 (0, 0))) (x : Nat) (hx : x < 8) (lf' : Nat → Bool) (hl : ∀ y, lf' y = (lf y || decide (x = y))) :
  (w.setCell ⟨g, 6 + x, none⟩ (.bool true)).heap[g]? = some (.cells #[vH, vS, vP, .int .i64 b0, .int .i64 b1, vA, .bool (lf' 0), .bool (lf' 1), .bool (lf' 2), .bool (lf' 3), .bool (lf' 4), .bool (lf' 5), .bool (lf' 6), .bool (lf' 7), .int .i64 e0, .int .i64 e1] 77 (0, 0)) := by
 rw [blk_set h]
 simp only [hl]
 rcases x with _ | _ | _ | _ | _ | _ | _ | _ | x
 all_goals first | (simp; done) | omega
theorem set16 {w : World} {g : Nat} {t : TypeId} {a0 a1 a2 a3 a4 a5 a6 a7 a8 a9 a10 a11 a12 a13 a14 a15 : Value} (h : w.heap[g]? = some (.cells #[a0, a1, a2, a3, a4, a5, a6, a7, a8, a9, a10, a11, a12, a13, a14, a15] t (0, 0))) (v0 v1 v2 v3 v4 v5 v6 v7 v8 v9 v10 v11 v12 v13 v14 v15 : Value) :
  ((((((((((((((((w.setCell ⟨g, 0, none⟩ v0).setCell ⟨g, 1, none⟩ v1).setCell ⟨g, 2, none⟩ v2).setCell ⟨g, 3, none⟩ v3).setCell ⟨g, 4, none⟩ v4).setCell ⟨g, 5, none⟩ v5).setCell ⟨g, 6, none⟩ v6).setCell ⟨g, 7, none⟩ v7).setCell ⟨g, 8, none⟩ v8).setCell ⟨g, 9, none⟩ v9).setCell ⟨g, 10, none⟩ v10).setCell ⟨g, 11, none⟩ v11).setCell ⟨g, 12, none⟩ v12).setCell ⟨g, 13, none⟩ v13).setCell ⟨g, 14, none⟩ v14).setCell ⟨g, 15, none⟩ v15).heap[g]? = some (.cells #[v0, v1, v2, v3, v4, v5, v6, v7, v8, v9, v10, v11, v12, v13, v14, v15] t (0, 0)) := by
 have h1 := blk_put (cs' := #[v0, a1, a2, a3, a4, a5, a6, a7, a8, a9, a10, a11, a12, a13, a14, a15]) h 0 v0 (by rfl)
 have h2 := blk_put (cs' := #[v0, v1, a2, a3, a4, a5, a6, a7, a8, a9, a10, a11, a12, a13, a14, a15]) h1 1 v1 (by rfl)
 have h3 := blk_put (cs' := #[v0, v1, v2, a3, a4, a5, a6, a7, a8, a9, a10, a11, a12, a13, a14, a15]) h2 2 v2 (by rfl)
 have h4 := blk_put (cs' := #[v0, v1, v2, v3, a4, a5, a6, a7, a8, a9, a10, a11, a12, a13, a14, a15]) h3 3 v3 (by rfl)
 have h5 := blk_put (cs' := #[v0, v1, v2, v3, v4, a5, a6, a7, a8, a9, a10, a11, a12, a13, a14, a15]) h4 4 v4 (by rfl)
 have h6 := blk_put (cs' := #[v0, v1, v2, v3, v4, v5, a6, a7, a8, a9, a10, a11, a12, a13, a14, a15]) h5 5 v5 (by rfl)
 have h7 := blk_put (cs' := #[v0, v1, v2, v3, v4, v5, v6, a7, a8, a9, a10, a11, a12, a13, a14, a15]) h6 6 v6 (by rfl)
 have h8 := blk_put (cs' := #[v0, v1, v2, v3, v4, v5, v6, v7, a8, a9, a10, a11, a12, a13, a14, a15]) h7 7 v7 (by rfl)
 have h9 := blk_put (cs' := #[v0, v1, v2, v3, v4, v5, v6, v7, v8, a9, a10, a11, a12, a13, a14, a15]) h8 8 v8 (by rfl)
 have h10 := blk_put (cs' := #[v0, v1, v2, v3, v4, v5, v6, v7, v8, v9, a10, a11, a12, a13, a14, a15]) h9 9 v9 (by rfl)
 have h11 := blk_put (cs' := #[v0, v1, v2, v3, v4, v5, v6, v7, v8, v9, v10, a11, a12, a13, a14, a15]) h10 10 v10 (by rfl)
 have h12 := blk_put (cs' := #[v0, v1, v2, v3, v4, v5, v6, v7, v8, v9, v10, v11, a12, a13, a14, a15]) h11 11 v11 (by rfl)
 have h13 := blk_put (cs' := #[v0, v1, v2, v3, v4, v5, v6, v7, v8, v9, v10, v11, v12, a13, a14, a15]) h12 12 v12 (by rfl)
 have h14 := blk_put (cs' := #[v0, v1, v2, v3, v4, v5, v6, v7, v8, v9, v10, v11, v12, v13, a14, a15]) h13 13 v13 (by rfl)
 have h15 := blk_put (cs' := #[v0, v1, v2, v3, v4, v5, v6, v7, v8, v9, v10, v11, v12, v13, v14, a15]) h14 14 v14 (by rfl)
 have h16 := blk_put (cs' := #[v0, v1, v2, v3, v4, v5, v6, v7, v8, v9, v10, v11, v12, v13, v14, v15]) h15 15 v15 (by rfl)
 exact h16
theorem C_int_at {w : World} {A : Option Addr} {n : Nat} {l : List Int} (h : Kd.C (Kd.int .i64) w A n l) (k : Nat) (hk : k < n) : ∃ ad, A = some ad ∧ w.cell? (ad.add k) = some (.int .i64 (l.getD k 0)) := by
 obtain ⟨ad, c, e, _, hK, hc0⟩ := Kd.C_get h (0 : Int) (k : Int) (by omega) (by omega)
 refine ⟨ad, e, ?_⟩
 have hK' : c = [.int .i64 (l.getD ((k : Int).toNat) 0)] := hK
 rw [Int.toNat_natCast] at hK' hc0
 have h1 := hc0 0 (.int .i64 (l.getD k 0)) (by rw [hK']; rfl)
 have hsz : (Kd.int .i64).sz = 1 := rfl
 simpa [hsz] using h1
set_option maxRecDepth 100000 in
set_option maxHeartbeats 8000000 in
theorem opened_calls (A0 : Option Addr) (c0 : Nat) (h : List S26) (A1 : Option Addr) (c1 : Nat) (s : List S61) (A2 : Option Addr) (c2 : Nat) (p : List S48) (b0 b1 : Int) (AL : Option Addr) (cL : Nat) (l : List Int) (w : World) (hsm : small h s p = true)
  (h0 : Kd.C k26 w A0 h.length h) (hc0 : h.length ≤ c0) (h1 : Kd.C k61 w A1 s.length s) (hc1 : s.length ≤ c1) (h2 : Kd.C k48 w A2 p.length p) (hc2 : p.length ≤ c2) (hL : Kd.C (Kd.int .i64) w AL l.length l) (hl8 : ∀ (k : Nat) (hk : k < l.length), 0 ≤ l[k] ∧ l[k] < 8) :
  Calls Tryd.prog 52 #[.agg #[.slice A0 h.length c0, .slice A1 s.length c1, .slice A2 p.length c2, .int .i64 b0, .int .i64 b1], .slice AL l.length cL] w (OpenedPost (.slice A0 h.length c0) (.slice A1 s.length c1) (.slice A2 p.length c2) b0 b1 (jointsT h s p b0 b1).1 (lfOf l) w) := by
 have hu77 := Tryd.underlying77
 have hu28 := Tryd.underlying28
 have hu26 := Tryd.underlying26
 have hu75 := Tryd.underlying75
 have hll : l.length ≤ 9223372036854775807 := hL.2.1
 have HB0 := zh (below_alloc (below_alloc (Below.refl w.heap.size w) (.cells #[.slice A0 h.length c0, .slice A1 s.length c1, .slice A2 p.length c2, .int .i64 b0, .int .i64 b1] 28)) (.cells #[.slice none 0 0, .slice none 0 0, .slice none 0 0, .int .i64 0, .int .i64 0, .slice none 0 0, .bool false, .bool false, .bool false, .bool false, .bool false, .bool false, .bool false, .bool false, .int .i64 0, .int .i64 0] 77))
 have D0 := zh (Kd.C_below h0 HB0.out)
 have D1 := zh (Kd.C_below h1 HB0.out)
 have D2 := zh (Kd.C_below h2 HB0.out)
 have B0 := zh (blk_alloc (alloc_at w (.cells #[.slice A0 h.length c0, .slice A1 s.length c1, .slice A2 p.length c2, .int .i64 b0, .int .i64 b1] 28) w.heap.size rfl) (.cells #[.slice none 0 0, .slice none 0 0, .slice none 0 0, .int .i64 0, .int .i64 0, .slice none 0 0, .bool false, .bool false, .bool false, .bool false, .bool false, .bool false, .bool false, .bool false, .int .i64 0, .int .i64 0] 77))
 have B1 := zh (alloc_at (w.alloc (.cells #[.slice A0 h.length c0, .slice A1 s.length c1, .slice A2 p.length c2, .int .i64 b0, .int .i64 b1] 28)) (.cells #[.slice none 0 0, .slice none 0 0, .slice none 0 0, .int .i64 0, .int .i64 0, .slice none 0 0, .bool false, .bool false, .bool false, .bool false, .bool false, .bool false, .bool false, .bool false, .int .i64 0, .int .i64 0] 77) (w.heap.size + 1) (by simp))
 have HL := zh hL
 have HL8 := zh hl8
 obtain ⟨J, hJ⟩ : ∃ J, jointsT h s p b0 b1 = J := ⟨_, rfl⟩
 obtain ⟨jl, jok⟩ := J
 have HF := zh ((joints_f (b0 := b0) (b1 := b1) hsm).trans (congrArg some hJ))
 rw [hJ]
 clear h0 h1 h2 hL hl8 hJ
 go_enter Tryd.func52, Tryd.ntmps52
 go_wp2_with (go_at_call 58; (with_reducible refine (tune_joints.calls _ A0 c0 h A1 c1 s A2 c2 p b0 b1 jl jok _ D0.out hc0 D1.out hc1 D2.out hc2 HF.out).mono ?_); rintro e w1 ⟨v, rfl, hr, hb⟩; obtain ⟨A3, c3, rfl⟩ := Kd.R_slice hr; have HR := zh (Kd.F_mono (ok' := fun k => w.heap.size + 2 ≤ k) (Kd.R_F (Kd.R_bound hr)) (fun k hk => by have h9 := hk.2.1; simp at h9; omega)); have HB1 := zh (HB0.out.trans (hb.mono (by simp; omega))); have C0 := zh (blk_below B0.out hb); have C1 := zh (blk_below B1.out hb); clear hr hb; have z3 : w1.cell? ⟨w.heap.size, 3, none⟩ = some (.int .i64 b0) := vb C0 3; have z4 : w1.cell? ⟨w.heap.size, 4, none⟩ = some (.int .i64 b1) := vb C0 4; have z0 : w1.cell? ⟨w.heap.size, 0, none⟩ = some (.slice A0 h.length c0) := vb C0 0; have z1 : w1.cell? ⟨w.heap.size, 1, none⟩ = some (.slice A1 s.length c1) := vb C0 1; have z2 : w1.cell? ⟨w.heap.size, 2, none⟩ = some (.slice A2 p.length c2) := vb C0 2)
 have X0 : Aside0 ((w1.alloc (.cells #[.slice A0 h.length c0, .slice A1 s.length c1, .slice A2 p.length c2, .int .i64 b0, .int .i64 b1, .slice A3 jl.length c3, .bool false, .bool false, .bool false, .bool false, .bool false, .bool false, .bool false, .bool false, .int .i64 b0, .int .i64 b1] 77)).heap[w1.heap.size]? = some (.cells #[.slice A0 h.length c0, .slice A1 s.length c1, .slice A2 p.length c2, .int .i64 b0, .int .i64 b1, .slice A3 jl.length c3, .bool (lfOf (l.take 0) 0), .bool (lfOf (l.take 0) 1), .bool (lfOf (l.take 0) 2), .bool (lfOf (l.take 0) 3), .bool (lfOf (l.take 0) 4), .bool (lfOf (l.take 0) 5), .bool (lfOf (l.take 0) 6), .bool (lfOf (l.take 0) 7), .int .i64 b0, .int .i64 b1] 77 (0, 0))) := ⟨alloc_at _ _ _ rfl⟩
 have C1a := zh (blk_alloc C1.out (.cells #[.slice A0 h.length c0, .slice A1 s.length c1, .slice A2 p.length c2, .int .i64 b0, .int .i64 b1, .slice A3 jl.length c3, .bool false, .bool false, .bool false, .bool false, .bool false, .bool false, .bool false, .bool false, .int .i64 b0, .int .i64 b1] 77))
 have HB2 := zh (below_alloc HB1.out (.cells #[.slice A0 h.length c0, .slice A1 s.length c1, .slice A2 p.length c2, .int .i64 b0, .int .i64 b1, .slice A3 jl.length c3, .bool false, .bool false, .bool false, .bool false, .bool false, .bool false, .bool false, .bool false, .int .i64 b0, .int .i64 b1] 77))
 have hws := HB1.out.size
 have hc1l := blk_lt C1.out
 go_loopw [22] (fun u wr => ∃ k : Nat, k ≤ l.length ∧ u = .int .i64 k ∧ Aside0 (wr.heap[w1.heap.size]? = some (.cells #[.slice A0 h.length c0, .slice A1 s.length c1, .slice A2 p.length c2, .int .i64 b0, .int .i64 b1, .slice A3 jl.length c3, .bool (lfOf (l.take k) 0), .bool (lfOf (l.take k) 1), .bool (lfOf (l.take k) 2), .bool (lfOf (l.take k) 3), .bool (lfOf (l.take k) 4), .bool (lfOf (l.take k) 5), .bool (lfOf (l.take k) 6), .bool (lfOf (l.take k) 7), .int .i64 b0, .int .i64 b1] 77 (0, 0))) ∧ Aside0 (Below w.heap.size w wr) ∧ Aside0 (Below w1.heap.size w1 wr)) (fun u _ => l.length - (intOf u).toNat)
 case atStart => exact ⟨0, Nat.zero_le _, rfl, X0, HB2, ⟨below_alloc (Below.refl _ _) _⟩⟩
 case round =>
  obtain ⟨k, hk, rfl, Xk, HBk, H1k⟩ := hrel
  by_cases hlt : k < l.length
  ·have hlt' : (k : Int) < (l.length : Int) := by omega
   obtain ⟨ad, rfl, ca⟩ := C_int_at (Kd.C_below HL.out HBk.out) k hlt
   have hlk : l.getD k 0 = l[k] := by simp [List.getD_eq_getElem?_getD, hlt]
   rw [hlk] at ca
   obtain ⟨l0, l8⟩ := HL8.out k hlt
   obtain ⟨x, hx⟩ : ∃ x : Nat, l[k] = (x : Int) := ⟨l[k].toNat, by omega⟩
   have HSN := zh (fun y => (lfOf_snoc l k hlt y).trans (by rw [hx]))
   rw [hx] at ca
   have hx8 : x < 8 := by omega
   have c0_ := left_cell (.slice A0 h.length c0) (.slice A1 s.length c1) (.slice A2 p.length c2) (.slice A3 jl.length c3) b0 b1 (lfOf (l.take k)) b0 b1 Xk.out x hx8
   have d0_ := blk_frozen Xk.out (6 + x)
   clear hx hlk l0 l8
   go_wp2
   go_roundw
   case rel => exact ⟨k + 1, by omega, by go_num, ⟨set_left Xk.out x hx8 (lfOf (l.take (k + 1))) (fun y => (HSN.out y).trans (by congr 1; rw [beq_dec]; exact decide_eq_decide.2 (by omega)))⟩, ⟨HBk.out.setCell (by show w.heap.size ≤ w1.heap.size; omega) _⟩, ⟨H1k.out.setCell (Nat.le_refl _) _⟩⟩
   case measure => simp [intOf]; omega
  ·obtain rfl : k = l.length := by omega
   have hlt' : ¬ ((l.length : Nat) : Int) < (l.length : Int) := by omega
   have Xe : wr.heap[w1.heap.size]? = some (.cells #[.slice A0 h.length c0, .slice A1 s.length c1, .slice A2 p.length c2, .int .i64 b0, .int .i64 b1, .slice A3 jl.length c3, .bool (lfOf l 0), .bool (lfOf l 1), .bool (lfOf l 2), .bool (lfOf l 3), .bool (lfOf l 4), .bool (lfOf l 5), .bool (lfOf l 6), .bool (lfOf l 7), .int .i64 b0, .int .i64 b1] 77 (0, 0)) := by have h := Xk.out; rw [List.take_length] at h; exact h
   have XE := zh Xe
   have C1k := zh ((H1k.out.block _ hc1l).trans C1.out)
   have x0 : wr.cell? ⟨w1.heap.size, 0, none⟩ = some (.slice A0 h.length c0) := (blk_cell Xe 0).trans rfl
   have x1 : wr.cell? ⟨w1.heap.size, 1, none⟩ = some (.slice A1 s.length c1) := (blk_cell Xe 1).trans rfl
   have x2 : wr.cell? ⟨w1.heap.size, 2, none⟩ = some (.slice A2 p.length c2) := (blk_cell Xe 2).trans rfl
   have x3 : wr.cell? ⟨w1.heap.size, 3, none⟩ = some (.int .i64 b0) := (blk_cell Xe 3).trans rfl
   have x4 : wr.cell? ⟨w1.heap.size, 4, none⟩ = some (.int .i64 b1) := (blk_cell Xe 4).trans rfl
   have x5 : wr.cell? ⟨w1.heap.size, 5, none⟩ = some (.slice A3 jl.length c3) := (blk_cell Xe 5).trans rfl
   have x6 : wr.cell? ⟨w1.heap.size, 6, none⟩ = some (.bool (lfOf l 0)) := (blk_cell Xe 6).trans rfl
   have x7 : wr.cell? ⟨w1.heap.size, 7, none⟩ = some (.bool (lfOf l 1)) := (blk_cell Xe 7).trans rfl
   have x8 : wr.cell? ⟨w1.heap.size, 8, none⟩ = some (.bool (lfOf l 2)) := (blk_cell Xe 8).trans rfl
   have x9 : wr.cell? ⟨w1.heap.size, 9, none⟩ = some (.bool (lfOf l 3)) := (blk_cell Xe 9).trans rfl
   have x10 : wr.cell? ⟨w1.heap.size, 10, none⟩ = some (.bool (lfOf l 4)) := (blk_cell Xe 10).trans rfl
   have x11 : wr.cell? ⟨w1.heap.size, 11, none⟩ = some (.bool (lfOf l 5)) := (blk_cell Xe 11).trans rfl
   have x12 : wr.cell? ⟨w1.heap.size, 12, none⟩ = some (.bool (lfOf l 6)) := (blk_cell Xe 12).trans rfl
   have x13 : wr.cell? ⟨w1.heap.size, 13, none⟩ = some (.bool (lfOf l 7)) := (blk_cell Xe 13).trans rfl
   have x14 : wr.cell? ⟨w1.heap.size, 14, none⟩ = some (.int .i64 b0) := (blk_cell Xe 14).trans rfl
   have x15 : wr.cell? ⟨w1.heap.size, 15, none⟩ = some (.int .i64 b1) := (blk_cell Xe 15).trans rfl
   have r0 : wr.cell? ⟨w.heap.size + 1, 0, none⟩ = some (.slice none 0 0) := vb C1k 0
   have f0 : wr.frozen? ⟨w.heap.size + 1, 0, none⟩ = false := blk_frozen C1k.out 0
   have r1 : wr.cell? ⟨w.heap.size + 1, 1, none⟩ = some (.slice none 0 0) := vb C1k 1
   have f1 : wr.frozen? ⟨w.heap.size + 1, 1, none⟩ = false := blk_frozen C1k.out 1
   have r2 : wr.cell? ⟨w.heap.size + 1, 2, none⟩ = some (.slice none 0 0) := vb C1k 2
   have f2 : wr.frozen? ⟨w.heap.size + 1, 2, none⟩ = false := blk_frozen C1k.out 2
   have r3 : wr.cell? ⟨w.heap.size + 1, 3, none⟩ = some (.int .i64 0) := vb C1k 3
   have f3 : wr.frozen? ⟨w.heap.size + 1, 3, none⟩ = false := blk_frozen C1k.out 3
   have r4 : wr.cell? ⟨w.heap.size + 1, 4, none⟩ = some (.int .i64 0) := vb C1k 4
   have f4 : wr.frozen? ⟨w.heap.size + 1, 4, none⟩ = false := blk_frozen C1k.out 4
   have r5 : wr.cell? ⟨w.heap.size + 1, 5, none⟩ = some (.slice none 0 0) := vb C1k 5
   have f5 : wr.frozen? ⟨w.heap.size + 1, 5, none⟩ = false := blk_frozen C1k.out 5
   have r6 : wr.cell? ⟨w.heap.size + 1, 6, none⟩ = some (.bool false) := vb C1k 6
   have f6 : wr.frozen? ⟨w.heap.size + 1, 6, none⟩ = false := blk_frozen C1k.out 6
   have r7 : wr.cell? ⟨w.heap.size + 1, 7, none⟩ = some (.bool false) := vb C1k 7
   have f7 : wr.frozen? ⟨w.heap.size + 1, 7, none⟩ = false := blk_frozen C1k.out 7
   have r8 : wr.cell? ⟨w.heap.size + 1, 8, none⟩ = some (.bool false) := vb C1k 8
   have f8 : wr.frozen? ⟨w.heap.size + 1, 8, none⟩ = false := blk_frozen C1k.out 8
   have r9 : wr.cell? ⟨w.heap.size + 1, 9, none⟩ = some (.bool false) := vb C1k 9
   have f9 : wr.frozen? ⟨w.heap.size + 1, 9, none⟩ = false := blk_frozen C1k.out 9
   have r10 : wr.cell? ⟨w.heap.size + 1, 10, none⟩ = some (.bool false) := vb C1k 10
   have f10 : wr.frozen? ⟨w.heap.size + 1, 10, none⟩ = false := blk_frozen C1k.out 10
   have r11 : wr.cell? ⟨w.heap.size + 1, 11, none⟩ = some (.bool false) := vb C1k 11
   have f11 : wr.frozen? ⟨w.heap.size + 1, 11, none⟩ = false := blk_frozen C1k.out 11
   have r12 : wr.cell? ⟨w.heap.size + 1, 12, none⟩ = some (.bool false) := vb C1k 12
   have f12 : wr.frozen? ⟨w.heap.size + 1, 12, none⟩ = false := blk_frozen C1k.out 12
   have r13 : wr.cell? ⟨w.heap.size + 1, 13, none⟩ = some (.bool false) := vb C1k 13
   have f13 : wr.frozen? ⟨w.heap.size + 1, 13, none⟩ = false := blk_frozen C1k.out 13
   have r14 : wr.cell? ⟨w.heap.size + 1, 14, none⟩ = some (.int .i64 0) := vb C1k 14
   have f14 : wr.frozen? ⟨w.heap.size + 1, 14, none⟩ = false := blk_frozen C1k.out 14
   have r15 : wr.cell? ⟨w.heap.size + 1, 15, none⟩ = some (.int .i64 0) := vb C1k 15
   have f15 : wr.frozen? ⟨w.heap.size + 1, 15, none⟩ = false := blk_frozen C1k.out 15
   clear Xe
   go_wp2
   have HB9 : Aside0 (∀ X, Below w.heap.size w X → ∀ i v, Below w.heap.size w (X.setCell ⟨w.heap.size + 1, i, none⟩ v)) := ⟨fun X hX i v => hX.setCell dQ2 _⟩
   refine bodyPost_ret (results_cell_row rfl _ _ (w.heap.size + 1) 77 #[.slice A0 h.length c0, .slice A1 s.length c1, .slice A2 p.length c2, .int .i64 b0, .int .i64 b1, .slice A3 jl.length c3, .bool (lfOf l 0), .bool (lfOf l 1), .bool (lfOf l 2), .bool (lfOf l 3), .bool (lfOf l 4), .bool (lfOf l 5), .bool (lfOf l 6), .bool (lfOf l 7), .int .i64 b0, .int .i64 b1] (0, 0) _ rfl (set16 C1k.out _ _ _ _ _ _ _ _ _ _ _ _ _ _ _ _) Tryd.underlying77 rfl zk) rfl ⟨A3, c3, rfl, ?_, ?_⟩
   ·refine Kd.F_mono (Kd.F_keep (g := w.heap.size + 1) HR.out ?_ (fun k (hk : w.heap.size + 2 ≤ k) => by omega)) (fun k (hk : w.heap.size + 2 ≤ k) => (by show w.heap.size ≤ k; omega))
    with_reducible repeat (refine KeepBut.set_ ?_ _ _)
    exact KeepBut.of_below H1k.out _ _
   ·with_reducible repeat (first | exact HBk.out | refine HB9.out _ ?_ _ _)
end Go.Proofs.YtgehkojccmkggaaDoor.K
end
section
namespace Go.Proofs.YtgehkojccmkggaaDoor.K
open Go.RowKit Go.Shelf Go.Proofs.YtgehkojccmkggaaDoorW.PrintWords Go.Proofs.YtgehkojccmkggaaDoorW.PrintLast Go.Proofs.YtgehkojccmkggaaDoorW.PrintMore Go.Proofs.YtgehkojccmkggaaDoor.H Tune
set_option linter.unusedVariables false
set_option linter.unusedSimpArgs false
attribute [local go_sem] Oper.semAt_some
def is_ (l : List Int) : Array Value := (l.map (Value.int .i64)).toArray
theorem is_at {w : World} {g : Nat} {t : TypeId} {l : List Int} (h : w.heap[g]? = some (.cells (is_ l) t (0, 0))) (x : Nat) (hx : x < l.length) : w.cell? ⟨g, x, none⟩ = some (.int .i64 (l.getD x 0)) := by
 rw [blk_cell h x]
 unfold is_
 simp [hx]
theorem is_set {w : World} {g : Nat} {t : TypeId} {l : List Int} (h : w.heap[g]? = some (.cells (is_ l) t (0, 0))) (x : Nat) (b : Int) : (w.setCell ⟨g, x, none⟩ (.int .i64 b)).heap[g]? = some (.cells (is_ (l.set x b)) t (0, 0)) := by
 rw [blk_set h]
 unfold is_
 simp [List.map_set]
end Go.Proofs.YtgehkojccmkggaaDoor.K
end
section
namespace Go.Proofs.YtgehkojccmkggaaDoor.H
open Go.RowKit Go.Proofs.YtgehkojccmkggaaDoorW.PrintWords Go.Proofs.YtgehkojccmkggaaDoorW.PrintLast Go.Proofs.YtgehkojccmkggaaDoorW.PrintMore
attribute [local go_sem] max2_int min2_int max_two min_two max_three min_three max_four min_four   -- for this text's walks alone
set_option linter.unusedVariables false
set_option linter.unusedSimpArgs false
def tune_isSpan.f (a0_0 : Int) (a0_1 : Int) (a1 : Int) (a2 : Int) : Option (Bool) := if a1 ≤ a0_0 then (if a0_0 ≤ a0_1 then (some (decide (a0_1 ≤ a2))) else (some false)) else (some false)
set_option maxHeartbeats 8000000 in
set_option maxRecDepth 100000 in
theorem tune_isSpan.calls (a0_0 : Int) (a0_1 : Int) (a1 : Int) (a2 : Int) (r : Bool) (w : World) (h : tune_isSpan.f a0_0 a0_1 a1 a2 = some r) :
  Calls Tryd.prog 56 #[.agg #[.int .i64 a0_0, .int .i64 a0_1], .int .i64 a1, .int .i64 a2] w fun e w' => e = .returned (.bool r) ∧ Below w.heap.size w w' := by
 have hu26 := Tryd.underlying26
 have HB := zh (Below.refl w.heap.size w)
 have H : (if a1 ≤ a0_0 then (if a0_0 ≤ a0_1 then (some (decide (a0_1 ≤ a2))) else (some false)) else (some false)) = some r := h
 clear h
 by_cases c4 : a1 ≤ a0_0
 ·rw [if_pos c4] at H
  have c4b0 : decide (a1 ≤ a0_0) = true := decide_eq_true c4
  clear c4
  by_cases c5 : a0_0 ≤ a0_1
  ·rw [if_pos c5] at H
   have c5b0 : decide (a0_0 ≤ a0_1) = true := decide_eq_true c5
   clear c5
   obtain rfl := Option.some.inj H
   go_enter Tryd.func56, Tryd.ntmps56
   go_wp2_with (first | ((with_reducible refine gate_dst (N := 3) rfl ?_); refine box_event ?hg (N := 3) ?hd (cs := #[.int .i64 a0_0, .int .i64 a0_1]) (t := 26) ?hr ?_; (case hd => rfl); (case hg => rfl); (case hr => first | (go_simp; done) | (go_simp; rfl)); intro gb101 hg w6 hbox hb; have BK101 := zh (hbox); have GW101 := zh ((by rw [hg]; exact (below_size zb) : w.heap.size ≤ gb101)); have GE101 := zh ((by rw [hg]; exact (below_size zb) : w.heap.size ≤ gb101)); replace HB := zh (below_step zb hb); clear hb hbox hg; obtain ⟨hcz7_0, hcz7_1⟩ := zC2 BK101.out; obtain ⟨hfz7_0, hfz7_1⟩ := zF2 BK101.out))
   go_ret
   exact ⟨zf, zb⟩
  ·rw [if_neg c5] at H
   have c5b0 : decide (a0_0 ≤ a0_1) = false := decide_eq_false c5
   clear c5
   obtain rfl := Option.some.inj H
   go_enter Tryd.func56, Tryd.ntmps56
   go_wp2_with (first | ((with_reducible refine gate_dst (N := 3) rfl ?_); refine box_event ?hg (N := 3) ?hd (cs := #[.int .i64 a0_0, .int .i64 a0_1]) (t := 26) ?hr ?_; (case hd => rfl); (case hg => rfl); (case hr => first | (go_simp; done) | (go_simp; rfl)); intro gb101 hg w8 hbox hb; have BK101 := zh (hbox); have GW101 := zh ((by rw [hg]; exact (below_size zb) : w.heap.size ≤ gb101)); have GE101 := zh ((by rw [hg]; exact (below_size zb) : w.heap.size ≤ gb101)); replace HB := zh (below_step zb hb); clear hb hbox hg; obtain ⟨hcz9_0, hcz9_1⟩ := zC2 BK101.out; obtain ⟨hfz9_0, hfz9_1⟩ := zF2 BK101.out))
   go_ret
   exact ⟨zf, zb⟩
 ·rw [if_neg c4] at H
  have c4b0 : decide (a1 ≤ a0_0) = false := decide_eq_false c4
  clear c4
  obtain rfl := Option.some.inj H
  go_enter Tryd.func56, Tryd.ntmps56
  go_wp2_with (first | ((with_reducible refine gate_dst (N := 3) rfl ?_); refine box_event ?hg (N := 3) ?hd (cs := #[.int .i64 a0_0, .int .i64 a0_1]) (t := 26) ?hr ?_; (case hd => rfl); (case hg => rfl); (case hr => first | (go_simp; done) | (go_simp; rfl)); intro gb101 hg w10 hbox hb; have BK101 := zh (hbox); have GW101 := zh ((by rw [hg]; exact (below_size zb) : w.heap.size ≤ gb101)); have GE101 := zh ((by rw [hg]; exact (below_size zb) : w.heap.size ≤ gb101)); replace HB := zh (below_step zb hb); clear hb hbox hg; obtain ⟨hcz11_0, hcz11_1⟩ := zC2 BK101.out; obtain ⟨hfz11_0, hfz11_1⟩ := zF2 BK101.out))
  go_ret
  exact ⟨zf, zb⟩
end Go.Proofs.YtgehkojccmkggaaDoor.H
end
section
namespace Go.Proofs.YtgehkojccmkggaaDoor.H
open Go.RowKit Go.Proofs.YtgehkojccmkggaaDoorW.PrintWords Go.Proofs.YtgehkojccmkggaaDoorW.PrintLast Go.Proofs.YtgehkojccmkggaaDoorW.PrintMore
attribute [local go_sem] max2_int min2_int max_two min_two max_three min_three max_four min_four   -- for this text's walks alone
set_option linter.unusedVariables false
set_option linter.unusedSimpArgs false
def slices_Index_int_int.l0 : Nat → List Int → Int → Int → Int → Option (Int)
 | 0, _, _, _, _ => none
 | k + 1, x0, x1, x7, x8 => if x8 < x7 then (if 0 ≤ x8 then (if x8 < (x0.length : Int) then (if x1 = (rd x0 x8) then (some x8) else (slices_Index_int_int.l0 k x0 x1 x7 (wrap64 (x8 + 1)))) else (none)) else (none)) else (some (-1))
def slices_Index_int_int.f (k : Nat) (l0 : List Int) (a1 : Int) : Option (Int) := slices_Index_int_int.l0 k l0 a1 (l0.length : Int) 0
set_option maxHeartbeats 8000000 in
set_option maxRecDepth 100000 in
theorem slices_Index_int_int.calls (k : Nat) (A0 : Option Addr) (c0 : Nat) (l0 : List Int) (a1 : Int) (r : Int) (w : World) (hr0 : Kd.C (Kd.int .i64) w A0 l0.length l0) (hc0 : l0.length ≤ c0) (h : slices_Index_int_int.f k l0 a1 = some r) :
  Calls Tryd.prog 79 #[.slice A0 l0.length c0, .int .i64 a1] w fun e w' => e = .returned (.int .i64 r) ∧ Drawn0 w w' := by
 have HR0 := zh hr0
 have HC0 := zh hc0
 clear hr0 hc0
 have H : (slices_Index_int_int.l0 k l0 a1 (l0.length : Int) 0) = some r := h
 clear h
 have H' := zh H
 clear H
 go_enter Tryd.func79, Tryd.ntmps79
 go_wp2
 go_loopg [8] k (fun kq v8 w' => ∃ (x8_1 : Int), v8 = .int .i64 x8_1 ∧ Aside0 (slices_Index_int_int.l0 kq l0 a1 (l0.length : Int) x8_1 = some r) ∧ Aside0 (kq ≤ k) ∧ Drawn0 w w')
 case atStart => exact ⟨(0), ze, H', ⟨Nat.le_refl _⟩, by repeat (first | exact Drawn0.refl _ | apply Drawn0.step)⟩
 case round =>
  clear H'
  try clear p2
  obtain ⟨x8_1, rfl, HA, HK1, ⟨m1, rfl⟩⟩ := hrel
  cases gk with
  | zero => exact absurd HA.out (by simp [slices_Index_int_int.l0])
  | succ k1 =>
   have H := HA.out
   clear HA
   simp only [slices_Index_int_int.l0] at H
   by_cases c3 : x8_1 < (l0.length : Int)
   ·rw [if_pos c3] at H
    have c3b0 : decide (x8_1 < (l0.length : Int)) = true := decide_eq_true c3
    clear c3
    by_cases c4 : 0 ≤ x8_1
    ·rw [if_pos c4] at H
     have c4b0 : decide (0 ≤ x8_1) = true := decide_eq_true c4
     clear c4
     by_cases c5 : x8_1 < (l0.length : Int)
     ·rw [if_pos c5] at H
      have c5b0 : decide (x8_1 < (l0.length : Int)) = true := decide_eq_true c5
      clear c5
      by_cases c6 : a1 = (rd l0 x8_1)
      ·rw [if_pos c6] at H
       have c6b0 : (a1 == (rd l0 x8_1)) = true := beq_iff_eq.mpr c6
       have c6b1 : (a1 != (rd l0 x8_1)) = false := bne_eq_false_iff_eq.mpr c6
       clear c6
       obtain rfl := Option.some.inj H
       have p102 : 0 ≤ (x8_1 : Int) := of_decide_eq_true zs
       have q102 : x8_1 < (l0.length : Int) := of_decide_eq_true zs
       obtain ⟨ad102, e102, hx102_0⟩ := Kd.at_int HR0.out x8_1 p102 q102
       cases e102
       replace p102 := eq_true p102
       replace q102 := eq_true q102
       go_wp2
       go_ret
       exact ⟨ze, by repeat (first | exact Drawn0.refl _ | apply Drawn0.step)⟩
      ·rw [if_neg c6] at H
       have c6b0 : (a1 == (rd l0 x8_1)) = false := beq_eq_false_iff_ne.mpr c6
       have c6b1 : (a1 != (rd l0 x8_1)) = true := bne_iff_ne.mpr c6
       have H' := zh H
       clear H
       have p102 : 0 ≤ (x8_1 : Int) := of_decide_eq_true zs
       have q102 : x8_1 < (l0.length : Int) := of_decide_eq_true zs
       obtain ⟨ad102, e102, hx102_0⟩ := Kd.at_int HR0.out x8_1 p102 q102
       cases e102
       replace p102 := eq_true p102
       replace q102 := eq_true q102
       go_wp2
       go_roundg k1
       case measure => have := HK1.out; omega
       case rel => exact ⟨(wrap64 (x8_1 + 1)), ze, H', ⟨by have := HK1.out; omega⟩, by repeat (first | exact Drawn0.refl _ | apply Drawn0.step)⟩
     ·rw [if_neg c5] at H
      exact absurd H (by simp)
    ·rw [if_neg c4] at H
     exact absurd H (by simp)
   ·rw [if_neg c3] at H
    have c3b0 : decide (x8_1 < (l0.length : Int)) = false := decide_eq_false c3
    clear c3
    obtain rfl := Option.some.inj H
    go_wp2
    go_ret
    exact ⟨ze, by repeat (first | exact Drawn0.refl _ | apply Drawn0.step)⟩
end Go.Proofs.YtgehkojccmkggaaDoor.H
end
section
namespace Go.Proofs.YtgehkojccmkggaaDoor.H
open Go.RowKit Go.Proofs.YtgehkojccmkggaaDoorW.PrintWords Go.Proofs.YtgehkojccmkggaaDoorW.PrintLast Go.Proofs.YtgehkojccmkggaaDoorW.PrintMore
attribute [local go_sem] max2_int min2_int max_two min_two max_three min_three max_four min_four   -- for this text's walks alone
set_option linter.unusedVariables false
set_option linter.unusedSimpArgs false
def slices_Contains_int_int.f (k : Nat) (l0 : List Int) (a1 : Int) : Option (Bool) := (slices_Index_int_int.f k l0 a1).bind fun t103 => (some (decide (t103 ≥ 0)))
set_option maxHeartbeats 8000000 in
set_option maxRecDepth 100000 in
theorem slices_Contains_int_int.calls (k : Nat) (A0 : Option Addr) (c0 : Nat) (l0 : List Int) (a1 : Int) (r : Bool) (w : World) (hr0 : Kd.C (Kd.int .i64) w A0 l0.length l0) (hc0 : l0.length ≤ c0) (h : slices_Contains_int_int.f k l0 a1 = some r) :
  Calls Tryd.prog 57 #[.slice A0 l0.length c0, .int .i64 a1] w fun e w' => e = .returned (.bool r) ∧ Drawn0 w w' := by
 have HR0 := zh hr0
 have HC0 := zh hc0
 clear hr0 hc0
 have H : ((slices_Index_int_int.f k l0 a1).bind fun t103 => (some (decide (t103 ≥ 0)))) = some r := h
 clear h
 replace H := Option.bind_eq_some_iff.mp H
 obtain ⟨t103, A30, H⟩ := H
 replace H : (some (decide (t103 ≥ 0))) = some r := H
 have A3 := zh A30
 clear A30
 obtain rfl := Option.some.inj H
 go_enter Tryd.func57, Tryd.ntmps57
 go_wp2_with (first | ((with_reducible refine gate_callee (f := 79) rfl ?_); refine goesL_ (some 7) rfl rfl Tryd.func79 zk rfl #[.slice A0 l0.length c0, .int .i64 a1] rfl zm ?_; (with_reducible refine (slices_Index_int_int.calls k _ _ l0 a1 t103 _ ?side1 ?side2 A3.out).mono ?_); (case side1 => repeat (first | exact HR0.out | (with_reducible refine Kd.C_alloc ?_ _) | (with_reducible refine Kd.C_drewN ?_ _) | (with_reducible refine Kd.C_drew ?_))); (case side2 => exact HC0.out); rintro e w' ⟨rfl, ⟨nd, rfl⟩⟩; refine ⟨_, rfl, ?_⟩))
 go_ret
 exact ⟨ze, by repeat (first | exact Drawn0.refl _ | apply Drawn0.step)⟩
end Go.Proofs.YtgehkojccmkggaaDoor.H
end
section
namespace Go.Proofs.YtgehkojccmkggaaDoor.K
open Go.RowKit Go.Shelf Go.Proofs.YtgehkojccmkggaaDoorW.PrintWords Go.Proofs.YtgehkojccmkggaaDoorW.PrintLast Go.Proofs.YtgehkojccmkggaaDoorW.PrintMore Go.Proofs.YtgehkojccmkggaaDoor.H Tune
set_option linter.unusedVariables false
set_option linter.unusedSimpArgs false
attribute [local go_sem] Oper.semAt_some
def okSpan (x : S26) (a b : Int) : Bool := decide (a ≤ x.f0) && (decide (x.f0 ≤ x.f1) && decide (x.f1 ≤ b))
def okHeard (x : S26) : Bool := okSpan x 1 4000 && decide (x.f1 - x.f0 ≤ 40)
def noRep (l : List Int) (n : Nat) : Bool := (List.range n).all fun i => !((l.take i).contains (l.getD i 0))
def okLen (x : S61) : Bool := decide (0 < x.f0.length) && decide ((x.f1.length : Int) = (x.f0.length : Int) - 1)
def okScale (x : S61) : Bool := okLen x && noRep x.f0 x.f0.length && x.f1.all (okSpan · 200 5000)
def ok0 (h : List S26) (s : List S61) (p : List S48) (b0 b1 : Int) : Bool := decide (1 ≤ (h.length : Int)) && (decide ((h.length : Int) ≤ 8) && (decide ((s.length : Int) ≤ 2) && (decide ((p.length : Int) ≤ 4) && okSpan ⟨b0, b1⟩ 0 60)))
theorem isSpan_f (a b lo hi : Int) : tune_isSpan.f a b lo hi = some (okSpan ⟨a, b⟩ lo hi) := by
 unfold tune_isSpan.f okSpan
 by_cases h1 : lo ≤ a
 ·rw [if_pos h1, decide_eq_true h1, Bool.true_and]
  by_cases h2 : a ≤ b
  ·rw [if_pos h2, decide_eq_true h2, Bool.true_and]
  ·rw [if_neg h2, decide_eq_false h2, Bool.false_and]
 ·rw [if_neg h1, decide_eq_false h1, Bool.false_and]
theorem all_snoc {α : Type} (P : α → Bool) (l : List α) (k : Nat) (h : k < l.length) : (l.take (k + 1)).all P = ((l.take k).all P && P l[k]) := by
 rw [List.take_succ_eq_append_getElem h, List.all_append]
 simp
theorem noRep_snoc (l : List Int) (n : Nat) : noRep l (n + 1) = (noRep l n && !((l.take n).contains (l.getD n 0))) := by
 unfold noRep
 rw [List.range_succ, List.all_append]
 simp
def unite (g : List Int) (a b : Int) : List Int := g.map fun z => if z = b then a else z
def ringF : List S80 → List Int → Bool
 | [], _ => true
 | j :: t, g => if g.getD j.f0.toNat 0 = g.getD j.f1.toNat 0 then false else ringF t (unite g (g.getD j.f0.toNat 0) (g.getD j.f1.toNat 0))
def okAll (h : List S26) (s : List S61) (p : List S48) (b0 b1 : Int) : Bool := (ok0 h s p b0 b1 && h.all okHeard && s.all okScale) && (jointsT h s p b0 b1).2
def checkT (h : List S26) (s : List S61) (p : List S48) (b0 b1 : Int) : Int := if okAll h s p b0 b1 = true ∧ ringF (jointsT h s p b0 b1).1 [0, 1, 2, 3, 4, 5, 6, 7] = true then 0 else 10
def Good (n : Nat) (q : S80) : Prop := inK n q.f0 = true ∧ inK n q.f1 = true
theorem scale_good (n : Nat) (x : S61) : ∀ (d i : Nat) (st : List S80 × Bool), (∀ q ∈ st.1, Good n q) → (st.2 = true → ∀ m, m < i → inK n (x.f0.getD m 0) = true) → ∀ q ∈ ((List.range' i d).foldl (scaleStep n x) st).1, Good n q := by
 intro d
 induction d with
 | zero => intro i st h _; exact h
 | succ d ih =>
  intro i st h1 h2
  rw [List.range'_succ, List.foldl_cons]
  refine ih (i + 1) _ ?_ ?_
  ·unfold scaleStep
   dsimp only
   split
   ·rename_i hc
    intro q hq
    rcases List.mem_append.1 hq with hq | hq
    ·exact h1 q hq
    ·obtain rfl := List.mem_singleton.1 hq
     have h3 := hc.1
     rw [Bool.and_eq_true] at h3
     exact ⟨h2 h3.1 (i - 1) (by omega), h3.2⟩
   ·exact h1
  ·intro h3 m hm
   have h4 : (st.2 && inK n (x.f0.getD i 0)) = true := h3
   rw [Bool.and_eq_true] at h4
   rcases Nat.lt_succ_iff_lt_or_eq.1 hm with hm | rfl
   ·exact h2 h4.1 m hm
   ·exact h4.2
theorem joints_good (h : List S26) (s : List S61) (p : List S48) (b0 b1 : Int) : ∀ q ∈ (jointsT h s p b0 b1).1, Good h.length q := by
 have hp : ∀ (p : List S48) (st : List S80 × Bool), (∀ q ∈ st.1, Good h.length q) → ∀ q ∈ (p.foldl (pairStep h.length b0 b1) st).1, Good h.length q := by
  intro p
  induction p with
  | nil => intro st h; exact h
  | cons y p ih =>
   intro st h1
   rw [List.foldl_cons]
   refine ih _ ?_
   unfold pairStep
   dsimp only
   split
   ·rename_i hc
    intro q hq
    rcases List.mem_append.1 hq with hq | hq
    ·exact h1 q hq
    ·obtain rfl := List.mem_singleton.1 hq
     simp only [Bool.and_eq_true] at hc
     exact ⟨hc.1.2, hc.2⟩
   ·exact h1
 have hs : ∀ (s : List S61) (st : List S80 × Bool), (∀ q ∈ st.1, Good h.length q) → ∀ q ∈ (s.foldl (scaleJ h.length) st).1, Good h.length q := by
  intro s
  induction s with
  | nil => intro st h; exact h
  | cons y s ih =>
   intro st h1
   rw [List.foldl_cons]
   refine ih _ ?_
   unfold scaleJ
   rw [List.range_eq_range']
   exact scale_good h.length y _ 0 st h1 (fun _ m hm => absurd hm (Nat.not_lt_zero _))
 exact hp p _ (hs s _ (fun q hq => by cases hq))
def ini (k : Nat) : List Int := (List.range 8).map fun i => if i < k then (i : Int) else 0
theorem ini_set : ∀ k, k < 8 → (ini k).set k (k : Int) = ini (k + 1) := by decide
theorem unite_set (g : List Int) (a b : Int) (k : Nat) (h : k < g.length) : (((unite g a b).take k ++ g.drop k).set k (if g[k] = b then a else g[k])) = (unite g a b).take (k + 1) ++ g.drop (k + 1) := by
 have hl : (unite g a b).length = g.length := by unfold unite; rw [List.length_map]
 have hk : ((unite g a b).take k).length = k := by rw [List.length_take]; omega
 rw [List.set_append, if_neg (by omega), hk, Nat.sub_self, List.drop_eq_getElem_cons h, List.set_cons_zero, List.take_succ_eq_append_getElem (by omega), List.append_assoc]
 congr 1
 unfold unite
 simp
theorem index_f (l : List Int) (a : Int) (hl : l.length ≤ 9223372036854775807) : ∀ (d j k : Nat), j + d = l.length → d < k → ∃ r, slices_Index_int_int.l0 k l a (l.length : Int) (j : Int) = some r ∧ decide (r ≥ 0) = (l.drop j).contains a := by
 intro d
 induction d with
 | zero =>
  intro j k hj hk
  obtain ⟨k, rfl⟩ : ∃ m, k = m + 1 := ⟨k - 1, by omega⟩
  refine ⟨-1, by rw [slices_Index_int_int.l0, if_neg (by omega)], ?_⟩
  rw [List.drop_of_length_le (by omega)]
  rfl
 | succ d ih =>
  intro j k hj hk
  obtain ⟨k, rfl⟩ : ∃ m, k = m + 1 := ⟨k - 1, by omega⟩
  have hlt : j < l.length := by omega
  have hrd : rd l (j : Int) = l[j] := by unfold rd; rw [Int.toNat_natCast]; simp [List.getD_eq_getElem?_getD, hlt]
  have hw : wrap64 ((j : Int) + 1) = ((j + 1 : Nat) : Int) := by rw [w64 (by omega) (by omega)]; omega
  rw [slices_Index_int_int.l0, if_pos (by omega), if_pos (by omega), if_pos (by omega), hrd, List.drop_eq_getElem_cons hlt, List.contains_cons, hw]
  by_cases e : a = l[j]
  ·rw [if_pos e]
   exact ⟨_, rfl, by rw [decide_eq_true (by omega), beq_iff_eq.2 e]; rfl⟩
  ·rw [if_neg e]
   obtain ⟨r, h1, h2⟩ := ih (j + 1) k (by omega) (by omega)
   exact ⟨r, h1, by rw [h2, beq_eq_false_iff_ne.2 e, Bool.false_or]⟩
theorem contains_f (l : List Int) (a : Int) (hl : l.length ≤ 9223372036854775807) : slices_Contains_int_int.f (l.length + 1) l a = some (l.contains a) := by
 obtain ⟨r, h1, h2⟩ := index_f l a hl l.length 0 (l.length + 1) (by omega) (by omega)
 unfold slices_Contains_int_int.f slices_Index_int_int.f
 have h1' : slices_Index_int_int.l0 (l.length + 1) l a (l.length : Int) 0 = some r := h1
 rw [h1', Option.bind_some, h2, List.drop_zero]
theorem contains_calls (A : Option Addr) (c : Nat) (l : List Int) (a : Int) (i : Nat) (w : World) (hi : i ≤ l.length) (hC : Kd.C (Kd.int .i64) w A l.length l) (hc : l.length ≤ c) :
  Calls Tryd.prog 57 #[.slice A i c, .int .i64 a] w fun e w' => e = .returned (.bool ((l.take i).contains a)) ∧ Below w.heap.size w w' := by
 have hll : l.length ≤ 9223372036854775807 := hC.2.1
 have hti : (l.take i).length = i := by rw [List.length_take]; omega
 have hT := slices_Contains_int_int.calls ((l.take i).length + 1) A c (l.take i) a ((l.take i).contains a) w (Kd.C_take hC hi) (by omega) (contains_f _ _ (by omega))
 rw [hti] at hT
 exact hT.mono (fun e w' h => ⟨h.1, drawn_below h.2⟩)
def fCheck.T34 : Bool × List (List Nat × List Nat) := (true, [([], []), ([0], [0]), ([1], [1]), ([2], [2]), ([], []), ([4], [4]), ([5], [5]), ([6], [6]), ([3, 0, 1, 2, 3], [3]), ([7, 8, 0, 1, 2, 3, 4, 5, 6, 7, 8], [7])])
def fCheck.B34 : List Nat := [0, 1, 3, 7, 0, 16, 48, 112, 15, 511]
theorem fCheck.tab34 : rtab .any (opsOf Tryd.f18 34) = fCheck.T34 := by kernel_rfl
theorem fCheck.bits34 : waitsOk fCheck.T34.2 fCheck.B34 = true := by kernel_rfl
set_option maxRecDepth 100000 in
set_option maxHeartbeats 8000000 in
theorem check_calls (A0 : Option Addr) (c0 : Nat) (h : List S26) (A1 : Option Addr) (c1 : Nat) (s : List S61) (A2 : Option Addr) (c2 : Nat) (p : List S48) (b0 b1 : Int) (w : World) (hsm : small h s p = true)
  (h0 : Kd.C k26 w A0 h.length h) (hc0 : h.length ≤ c0) (h1 : Kd.C k61 w A1 s.length s) (hc1 : s.length ≤ c1) (h2 : Kd.C k48 w A2 p.length p) (hc2 : p.length ≤ c2) :
  Calls Tryd.prog 18 #[.agg #[.slice A0 h.length c0, .slice A1 s.length c1, .slice A2 p.length c2, .int .i64 b0, .int .i64 b1]] w fun e w' => e = .returned (.int .i64 (checkT h s p b0 b1)) ∧ Below w.heap.size w w' := by
 have hu77 := Tryd.underlying77
 have hu28 := Tryd.underlying28
 have hu26 := Tryd.underlying26
 have hu22 := Tryd.underlying22
 have hu75 := Tryd.underlying75
 have hu89 := Tryd.underlying89
 have hll0 : h.length ≤ 9223372036854775807 := h0.2.1
 have hll1 : s.length ≤ 9223372036854775807 := h1.2.1
 have hll2 : p.length ≤ 9223372036854775807 := h2.2.1
 have HB0 := zh (below_alloc (Below.refl w.heap.size w) (.cells #[.slice A0 h.length c0, .slice A1 s.length c1, .slice A2 p.length c2, .int .i64 b0, .int .i64 b1] 28))
 have B0 := zh (alloc_at w (.cells #[.slice A0 h.length c0, .slice A1 s.length c1, .slice A2 p.length c2, .int .i64 b0, .int .i64 b1] 28) w.heap.size rfl)
 have D0 := zh h0
 have D1 := zh h1
 have D2 := zh h2
 have HSM := zh hsm
 clear h0 h1 h2 hsm
 go_enter Tryd.func18, Tryd.ntmps18
 go_upto_region 1 with (fail)
 go_cut [3] (fun v3 wc => v3 = .bool (ok0 h s p b0 b1) ∧ Aside0 (wc.heap[w.heap.size]? = some (.cells #[.slice A0 h.length c0, .slice A1 s.length c1, .slice A2 p.length c2, .int .i64 b0, .int .i64 b1] 28 (0, 0))) ∧ Aside0 (Below w.heap.size w wc))
 case first =>
  have z0 := vb B0 0
  by_cases a1 : 1 ≤ (h.length : Int) ∧ (h.length : Int) ≤ 8
  ·have HLT : Aside0 (tune_lies.f h.length 1 8 = some true) := ⟨by rw [lies_f, decide_eq_true a1.1, decide_eq_true a1.2]; rfl⟩
   by_cases a2 : (s.length : Int) ≤ 2
   ·by_cases a3 : (p.length : Int) ≤ 4
    ·have HOK : Aside0 (ok0 h s p b0 b1 = okSpan ⟨b0, b1⟩ 0 60) := ⟨by unfold ok0; rw [decide_eq_true a1.1, decide_eq_true a1.2, decide_eq_true a2, decide_eq_true a3]; rfl⟩
     clear a1
     go_wp2_with (first | (go_at_call 51; refine (tune_lies.calls _ _ _ _ _ HLT.out).mono ?_; rintro e w1 ⟨rfl, hd⟩; have hb := drawn_below hd; have HB1 := zh (HB0.out.trans (hb.mono (by simp))); have B1 := zh (blk_below B0.out hb); clear hd hb; have y0 := vb B1 0; have y1 := vb B1 1; have y2 := vb B1 2; have y3 := vb B1 3; have y4 := vb B1 4) | (go_at_call 56; refine (tune_isSpan.calls _ _ _ _ _ _ (isSpan_f b0 b1 0 60)).mono ?_; rintro e w2 ⟨rfl, hb⟩; have HB2 := zh (HB1.out.trans (hb.mono HB1.out.size)); have B2 := zh (blk_below B1.out hb); clear hb))
     go_meet
     case rel => rw [HOK.out]; exact ⟨rfl, B2, HB2⟩
    ·have HOK : Aside0 (ok0 h s p b0 b1 = false) := ⟨by unfold ok0; rw [decide_eq_false a3]; simp⟩
     clear a1
     go_wp2_with ((go_at_call 51; refine (tune_lies.calls _ _ _ _ _ HLT.out).mono ?_; rintro e w1 ⟨rfl, hd⟩; have hb := drawn_below hd; have HB1 := zh (HB0.out.trans (hb.mono (by simp))); have B1 := zh (blk_below B0.out hb); clear hd hb; have y0 := vb B1 0; have y1 := vb B1 1; have y2 := vb B1 2; have y3 := vb B1 3; have y4 := vb B1 4))
     go_meet
     case rel => rw [HOK.out]; exact ⟨rfl, B1, HB1⟩
   ·have HOK : Aside0 (ok0 h s p b0 b1 = false) := ⟨by unfold ok0; rw [decide_eq_false a2]; simp⟩
    clear a1
    go_wp2_with ((go_at_call 51; refine (tune_lies.calls _ _ _ _ _ HLT.out).mono ?_; rintro e w1 ⟨rfl, hd⟩; have hb := drawn_below hd; have HB1 := zh (HB0.out.trans (hb.mono (by simp))); have B1 := zh (blk_below B0.out hb); clear hd hb; have y0 := vb B1 0; have y1 := vb B1 1; have y2 := vb B1 2; have y3 := vb B1 3; have y4 := vb B1 4))
    go_meet
    case rel => rw [HOK.out]; exact ⟨rfl, B1, HB1⟩
  ·have HOK : Aside0 (ok0 h s p b0 b1 = false) := ⟨by
    unfold ok0
    by_cases a4 : 1 ≤ (h.length : Int)
    ·rw [decide_eq_false (fun a5 => a1 ⟨a4, a5⟩)]; simp
    ·rw [decide_eq_false a4]; simp⟩
   have HLT : Aside0 (tune_lies.f h.length 1 8 = some false) := ⟨by
    rw [lies_f]
    by_cases a4 : 1 ≤ (h.length : Int)
    ·rw [decide_eq_false (p := (h.length : Int) ≤ 8) (fun a5 => a1 ⟨a4, a5⟩)]; simp
    ·rw [decide_eq_false a4]; simp⟩
   clear a1
   go_wp2_with ((go_at_call 51; refine (tune_lies.calls _ _ _ _ _ HLT.out).mono ?_; rintro e w1 ⟨rfl, hd⟩; have hb := drawn_below hd; have HB1 := zh (HB0.out.trans (hb.mono (by simp))); have B1 := zh (blk_below B0.out hb); clear hd hb; have y0 := vb B1 0; have y1 := vb B1 1; have y2 := vb B1 2; have y3 := vb B1 3; have y4 := vb B1 4))
   go_meet
   case rel => rw [HOK.out]; exact ⟨rfl, B1, HB1⟩
 case rest =>
  obtain ⟨rfl, B1, HB1⟩ := hcut
  obtain ⟨OK, HOK⟩ : ∃ OK, Aside0 (ok0 h s p b0 b1 = OK) := ⟨_, ⟨rfl⟩⟩
  rw [HOK.out]
  have y0 : wc.cell? ⟨w.heap.size, 0, none⟩ = some (.slice A0 h.length c0) := vb B1 0
  go_wp2
  go_loopw [3, 45] (fun u3 u45 wr => ∃ k : Nat, k ≤ h.length ∧ u3 = .bool (OK && (h.take k).all okHeard) ∧ u45 = .int .i64 k ∧ Aside0 (wr.heap[w.heap.size]? = some (.cells #[.slice A0 h.length c0, .slice A1 s.length c1, .slice A2 p.length c2, .int .i64 b0, .int .i64 b1] 28 (0, 0))) ∧ Aside0 (Below w.heap.size w wr)) (fun _ u45 _ => h.length - (intOf u45).toNat)
  case atStart => exact ⟨0, Nat.zero_le _, by simp, rfl, B1, HB1⟩
  case round =>
   obtain ⟨k, hk, rfl, rfl, Bk, HBk⟩ := hrel
   by_cases hlt : k < h.length
   ·have hlt' : (k : Int) < (h.length : Int) := by omega
    obtain ⟨ad_, rfl, g0, g1⟩ := H_at (Kd.C_below D0.out HBk.out) k hlt
    have hel : h[k] = ⟨loH h k, hiH h k⟩ := by unfold loH hiH; simp [List.getD_eq_getElem?_getD, hlt]
    obtain ⟨lo, hlo⟩ : ∃ x, loH h k = x := ⟨_, rfl⟩
    obtain ⟨hi, hhi⟩ : ∃ x, hiH h k = x := ⟨_, rfl⟩
    rw [hlo] at g0 hel
    rw [hhi] at g1 hel
    have HSN := zh (all_snoc okHeard h k hlt)
    rw [hel] at HSN
    clear hel hlo hhi
    obtain ⟨b, hb⟩ : ∃ b, (OK && (h.take k).all okHeard) = b := ⟨_, rfl⟩
    have HN : Aside0 ((OK && (h.take (k + 1)).all okHeard) = (b && okHeard ⟨lo, hi⟩)) := ⟨by rw [HSN.out, ← Bool.and_assoc, hb]⟩
    rw [hb]
    clear hb HSN
    have HBa := zh (below_alloc HBk.out (.cells #[.int .i64 lo, .int .i64 hi] 26))
    have Ba := zh (blk_alloc Bk.out (.cells #[.int .i64 lo, .int .i64 hi] 26))
    cases b with
    | false =>
     go_wp2
     go_roundw
     case rel => exact ⟨k + 1, by omega, by rw [HN.out]; rfl, by go_num, Ba, HBa⟩
     case measure => simp [intOf]; omega
    | true =>
     obtain ⟨b1_, HSPB⟩ : ∃ b, Aside0 (okSpan ⟨lo, hi⟩ 1 4000 = b) := ⟨_, ⟨rfl⟩⟩
     cases b1_ with
     | false =>
      go_wp2_with (go_at_call 56; refine (tune_isSpan.calls _ _ _ _ _ _ ((isSpan_f lo hi 1 4000).trans (congrArg some HSPB.out))).mono ?_; rintro e w2 ⟨rfl, hb⟩; have HB2 := zh (HBa.out.trans (hb.mono HBa.out.size)); have B2 := zh (blk_below Ba.out hb); clear hb)
      go_roundw
      case rel => exact ⟨k + 1, by omega, by rw [HN.out]; unfold okHeard; rw [HSPB.out]; rfl, by go_num, B2, HB2⟩
      case measure => simp [intOf]; omega
     | true =>
      have HW : Aside0 (wrap64 (hi - lo) = hi - lo) := ⟨by
       have h9 := HSPB.out
       unfold okSpan at h9
       simp only [Bool.and_eq_true, decide_eq_true_eq] at h9
       exact w64 (by omega) (by omega)⟩
      have X1 := zh (alloc_at wr (.cells #[.int .i64 lo, .int .i64 hi] 26) wr.heap.size rfl)
      go_wp2_with (go_at_call 56; refine (tune_isSpan.calls _ _ _ _ _ _ ((isSpan_f lo hi 1 4000).trans (congrArg some HSPB.out))).mono ?_; rintro e w2 ⟨rfl, hb⟩; have HB2 := zh (HBa.out.trans (hb.mono HBa.out.size)); have B2 := zh (blk_below Ba.out hb); have X2 := zh (blk_below X1.out hb); have x0 : w2.cell? ⟨wr.heap.size, 0, none⟩ = some (.int .i64 lo) := vb X2 0; have x1 : w2.cell? ⟨wr.heap.size, 1, none⟩ = some (.int .i64 hi) := vb X2 1; clear hb)
      go_roundw
      case rel => exact ⟨k + 1, by omega, by rw [HN.out]; unfold okHeard; rw [HSPB.out]; exact congrArg Value.bool (by rw [HW.out]; rfl), by go_num, B2, HB2⟩
      case measure => simp [intOf]; omega
   ·obtain rfl : k = h.length := by omega
    have hlt' : ¬ ((h.length : Nat) : Int) < (h.length : Int) := by omega
    rw [List.take_length]
    have y1 : wr.cell? ⟨w.heap.size, 1, none⟩ = some (.slice A1 s.length c1) := vb Bk 1
    go_wp2
    obtain ⟨OK1, HOK1⟩ : ∃ b, Aside0 ((OK && h.all okHeard) = b) := ⟨_, ⟨rfl⟩⟩
    rw [HOK1.out]
    have HB3 := HBk
    have B3 := Bk
    clear hk hlt hlt'
    go_loopw [3, 66] (fun u3 u66 wr => ∃ k : Nat, k ≤ s.length ∧ u3 = .bool (OK1 && (s.take k).all okScale) ∧ u66 = .int .i64 k ∧ Aside0 (wr.heap[w.heap.size]? = some (.cells #[.slice A0 h.length c0, .slice A1 s.length c1, .slice A2 p.length c2, .int .i64 b0, .int .i64 b1] 28 (0, 0))) ∧ Aside0 (Below w.heap.size w wr)) (fun _ u66 _ => s.length - (intOf u66).toNat)
    case atStart => exact ⟨0, Nat.zero_le _, by simp, rfl, B3, HB3⟩
    case round =>
     obtain ⟨k, hk, rfl, rfl, Bk, HBk⟩ := hrel
     by_cases hlt : k < s.length
     ·have hlt' : (k : Int) < (s.length : Int) := by omega
      have h' := at_T61 (Kd.C_below D1.out HBk.out) (k : Int) (by omega) (by omega)
      have e : rd_T61 s (k : Int) = s[k] := by unfold rd_T61; rw [Int.toNat_natCast]; simp [List.getD_eq_getElem?_getD, hlt]
      rw [e] at h'
      simp only [Int.toNat_natCast] at h'
      have HSN := zh (all_snoc okScale s k hlt)
      obtain ⟨x, hx⟩ : ∃ x, s[k] = x := ⟨_, rfl⟩
      rw [hx] at h' HSN
      clear e hx
      obtain ⟨ad_, X0, cx0, X1, cx1, rfl, g0, g1, hcx0, hX0, hcx1, hX1⟩ := h'
      have hx0l : x.f0.length ≤ 9223372036854775807 := hX0.2.1
      have hx1l : x.f1.length ≤ 9223372036854775807 := hX1.2.1
      obtain ⟨b, hb⟩ : ∃ b, (OK1 && (s.take k).all okScale) = b := ⟨_, rfl⟩
      have HN : Aside0 ((OK1 && (s.take (k + 1)).all okScale) = (b && okScale x)) := ⟨by rw [HSN.out, ← Bool.and_assoc, hb]⟩
      rw [hb]
      clear hb HSN
      have HBa := zh (below_alloc HBk.out (.cells #[.slice X0 x.f0.length cx0, .slice X1 x.f1.length cx1] 61))
      have Ba := zh (blk_alloc Bk.out (.cells #[.slice X0 x.f0.length cx0, .slice X1 x.f1.length cx1] 61))
      have Xa := zh (alloc_at wr (.cells #[.slice X0 x.f0.length cx0, .slice X1 x.f1.length cx1] 61) wr.heap.size rfl)
      have CX0 := zh (Kd.C_alloc hX0 (.cells #[.slice X0 x.f0.length cx0, .slice X1 x.f1.length cx1] 61))
      have CX1 := zh (Kd.C_alloc hX1 (.cells #[.slice X0 x.f0.length cx0, .slice X1 x.f1.length cx1] 61))
      clear hX0 hX1
      go_upto_region 10 with (fail)
      go_cut [3] (fun v3 wc => v3 = .bool (b && okLen x) ∧ wc = wr.alloc (.cells #[.slice X0 x.f0.length cx0, .slice X1 x.f1.length cx1] 61))
      case first =>
       have x0 : (wr.alloc (.cells #[.slice X0 x.f0.length cx0, .slice X1 x.f1.length cx1] 61)).cell? ⟨wr.heap.size, 0, none⟩ = some (.slice X0 x.f0.length cx0) := vb Xa 0
       have x1 : (wr.alloc (.cells #[.slice X0 x.f0.length cx0, .slice X1 x.f1.length cx1] 61)).cell? ⟨wr.heap.size, 1, none⟩ = some (.slice X1 x.f1.length cx1) := vb Xa 1
       cases b with
       | false =>
        go_wp2
        go_meet
        case rel => exact ⟨rfl, rfl⟩
       | true =>
        by_cases a1 : (x.f0.length : Int) > 0
        ·by_cases a2 : (x.f1.length : Int) = (x.f0.length : Int) - 1
         ·have HL : Aside0 (okLen x = true) := ⟨by unfold okLen; rw [decide_eq_true a2, decide_eq_true (by omega)]; rfl⟩
          have a2b : ((x.f1.length : Int) == (x.f0.length : Int) - 1) = true := beq_iff_eq.2 a2
          have hw9 : wrap64 ((x.f0.length : Int) - 1) = (x.f0.length : Int) - 1 := w64 (by omega) (by omega)
          clear a2
          go_wp2
          go_meet
          case rel => rw [HL.out]; exact ⟨rfl, rfl⟩
         ·have HL : Aside0 (okLen x = false) := ⟨by unfold okLen; rw [decide_eq_false a2]; simp⟩
          have a2b : ((x.f1.length : Int) == (x.f0.length : Int) - 1) = false := beq_eq_false_iff_ne.2 a2
          clear a2
          go_wp2
          go_meet
          case rel => rw [HL.out]; exact ⟨rfl, rfl⟩
        ·have HL : Aside0 (okLen x = false) := ⟨by unfold okLen; rw [decide_eq_false (by omega)]; rfl⟩
         go_wp2
         go_meet
         case rel => rw [HL.out]; exact ⟨rfl, rfl⟩
      case rest =>
       obtain ⟨rfl, rfl⟩ := hcut
       obtain ⟨b2, hb2⟩ : ∃ b2, (b && okLen x) = b2 := ⟨_, rfl⟩
       have HN2 : Aside0 ((OK1 && (s.take (k + 1)).all okScale) = ((b2 && noRep x.f0 x.f0.length) && x.f1.all (okSpan · 200 5000))) := ⟨by rw [HN.out, ← hb2]; unfold okScale; simp only [Bool.and_assoc]⟩
       rw [hb2]
       clear hb2 HN
       have hwr := HBk.out.size
       have hwl := blk_lt Bk.out
       clear Bk HBk HB1 B1 HB3 B3 HB0 B0 y0 y1
       obtain ⟨WX, hWX⟩ : ∃ WX, wr.alloc (.cells #[.slice X0 x.f0.length cx0, .slice X1 x.f1.length cx1] 61) = WX := ⟨_, rfl⟩
       rw [hWX] at HBa Ba Xa CX0 CX1 ⊢
       clear hWX
       obtain ⟨gx, hgx⟩ : ∃ gx, wr.heap.size = gx := ⟨_, rfl⟩
       rw [hgx] at Xa hwr hwl ⊢
       clear hgx
       have x0 : WX.cell? ⟨gx, 0, none⟩ = some (.slice X0 x.f0.length cx0) := vb Xa 0
       go_wp2
       go_loopw [3, 90] (fun u3 u90 wi => ∃ i : Nat, i ≤ x.f0.length ∧ u3 = .bool (b2 && noRep x.f0 i) ∧ u90 = .int .i64 i ∧ Aside0 (Below WX.heap.size WX wi)) (fun _ u90 _ => x.f0.length - (intOf u90).toNat)
       case atStart => exact ⟨0, Nat.zero_le _, by simp [noRep], rfl, ⟨Below.refl _ _⟩⟩
       case round =>
        obtain ⟨i, hi, rfl, rfl, HBi⟩ := hrel
        by_cases hil : i < x.f0.length
        ·have hil' : (i : Int) < (x.f0.length : Int) := by omega
         obtain ⟨adk, rfl, ca⟩ := C_int_at (Kd.C_below CX0.out HBi.out) i hil
         have HSN := zh (noRep_snoc x.f0 i)
         obtain ⟨y, hy⟩ : ∃ y, x.f0.getD i 0 = y := ⟨_, rfl⟩
         rw [hy] at HSN ca
         clear hy
         obtain ⟨b3, hb3⟩ : ∃ b3, (b2 && noRep x.f0 i) = b3 := ⟨_, rfl⟩
         have HN3 : Aside0 ((b2 && noRep x.f0 (i + 1)) = (b3 && !((x.f0.take i).contains y))) := ⟨by rw [HSN.out, ← Bool.and_assoc, hb3]⟩
         rw [hb3]
         clear hb3 HSN
         have Xi := zh (blk_below Xa.out HBi.out)
         have x0i : wr.cell? ⟨gx, 0, none⟩ = some (.slice (some adk) x.f0.length cx0) := vb Xi 0
         cases b3 with
         | false =>
          go_wp2
          go_roundw
          case rel => exact ⟨i + 1, by omega, by rw [HN3.out]; rfl, by go_num, HBi⟩
          case measure => simp [intOf]; omega
         | true =>
          have HCC := zh (contains_calls (some adk) cx0 x.f0 y i wr hi (Kd.C_below CX0.out HBi.out) hcx0)
          go_wp2_with (go_at_call 57; refine HCC.out.mono ?_; rintro e w2 ⟨rfl, hb⟩; have HB2 := zh (HBi.out.trans (hb.mono HBi.out.size)); clear hb)
          go_roundw
          case rel => exact ⟨i + 1, by omega, by rw [HN3.out]; simp, by go_num, HB2⟩
          case measure => simp [intOf]; omega
        ·obtain rfl : i = x.f0.length := by omega
         have hil' : ¬ ((x.f0.length : Nat) : Int) < (x.f0.length : Int) := by omega
         have Xi := zh (blk_below Xa.out HBi.out)
         have x1i : wr.cell? ⟨gx, 1, none⟩ = some (.slice X1 x.f1.length cx1) := vb Xi 1
         obtain ⟨b4, hb4⟩ : ∃ b4, (b2 && noRep x.f0 x.f0.length) = b4 := ⟨_, rfl⟩
         rw [hb4] at HN2 ⊢
         clear hb4
         go_wp2
         go_loopw [3, 109] (fun u3 u109 wj => ∃ i : Nat, i ≤ x.f1.length ∧ u3 = .bool (b4 && (x.f1.take i).all (okSpan · 200 5000)) ∧ u109 = .int .i64 i ∧ Aside0 (Below WX.heap.size WX wj)) (fun _ u109 _ => x.f1.length - (intOf u109).toNat)
         case atStart => exact ⟨0, Nat.zero_le _, by simp, rfl, HBi⟩
         case round =>
          clear hi hil hil' Xi x1i HBi
          obtain ⟨i, hi, rfl, rfl, HBi⟩ := hrel
          by_cases hil : i < x.f1.length
          ·have hil' : (i : Int) < (x.f1.length : Int) := by omega
           obtain ⟨adk, rfl, g0, g1⟩ := H_at (Kd.C_below CX1.out HBi.out) i hil
           have hel : x.f1[i] = ⟨loH x.f1 i, hiH x.f1 i⟩ := by unfold loH hiH; simp [List.getD_eq_getElem?_getD, hil]
           obtain ⟨lo, hlo⟩ : ∃ y, loH x.f1 i = y := ⟨_, rfl⟩
           obtain ⟨hi_, hhi⟩ : ∃ y, hiH x.f1 i = y := ⟨_, rfl⟩
           rw [hlo] at g0 hel
           rw [hhi] at g1 hel
           have HSN := zh (all_snoc (okSpan · 200 5000) x.f1 i hil)
           rw [hel] at HSN
           clear hel hlo hhi
           obtain ⟨b3, hb3⟩ : ∃ b3, (b4 && (x.f1.take i).all (okSpan · 200 5000)) = b3 := ⟨_, rfl⟩
           have HN3 : Aside0 ((b4 && (x.f1.take (i + 1)).all (okSpan · 200 5000)) = (b3 && okSpan ⟨lo, hi_⟩ 200 5000)) := ⟨by rw [HSN.out, ← Bool.and_assoc, hb3]⟩
           rw [hb3]
           clear hb3 HSN
           have HBj := zh (below_alloc HBi.out (.cells #[.int .i64 lo, .int .i64 hi_] 26))
           cases b3 with
           | false =>
            go_wp2
            go_roundw
            case rel => exact ⟨i + 1, by omega, by rw [HN3.out]; rfl, by go_num, HBj⟩
            case measure => simp [intOf]; omega
           | true =>
            go_wp2_with (go_at_call 56; refine (tune_isSpan.calls _ _ _ _ _ _ (isSpan_f lo hi_ 200 5000)).mono ?_; rintro e w2 ⟨rfl, hb⟩; have HB2 := zh (HBj.out.trans (hb.mono HBj.out.size)); clear hb)
            go_roundw
            case rel => exact ⟨i + 1, by omega, by rw [HN3.out]; rfl, by go_num, HB2⟩
            case measure => simp [intOf]; omega
          ·obtain rfl : i = x.f1.length := by omega
           have hil' : ¬ ((x.f1.length : Nat) : Int) < (x.f1.length : Int) := by omega
           rw [List.take_length]
           go_wp2
           go_roundw
           case rel => exact ⟨k + 1, by omega, by rw [HN2.out], by go_num, ⟨blk_below Ba.out HBi.out⟩, ⟨HBa.out.trans (HBi.out.mono HBa.out.size)⟩⟩
           case measure => simp [intOf]; omega
     ·obtain rfl : k = s.length := by omega
      have hlt' : ¬ ((s.length : Nat) : Int) < (s.length : Int) := by omega
      rw [List.take_length]
      obtain ⟨J, hJ⟩ : ∃ J, jointsT h s p b0 b1 = J := ⟨_, rfl⟩
      obtain ⟨jl, jok⟩ := J
      have HF := zh ((joints_f (b0 := b0) (b1 := b1) HSM.out).trans (congrArg some hJ))
      obtain ⟨o, ho⟩ : ∃ o, (OK1 && s.all okScale) = o := ⟨_, rfl⟩
      have HCK : Aside0 (checkT h s p b0 b1 = if o = true ∧ jok = true ∧ ringF jl [0, 1, 2, 3, 4, 5, 6, 7] = true then 0 else 10) := ⟨by
       unfold checkT okAll
       rw [hJ, HOK.out, HOK1.out, ho]
       simp only [Bool.and_eq_true, and_assoc]⟩
      rw [ho]
      have HGD : Aside0 (∀ q ∈ jl, Good h.length q) := ⟨by have h9 := joints_good h s p b0 b1; rw [hJ] at h9; exact h9⟩
      have HL8 : Aside0 (o = true → h.length ≤ 8) := ⟨fun ht => by
       rw [← ho, ← HOK1.out, ← HOK.out] at ht
       unfold ok0 at ht
       simp only [Bool.and_eq_true, decide_eq_true_eq] at ht
       omega⟩
      clear hJ ho hk hlt hlt' HB3 B3 HB1 B1 HB0 B0 y0 y1
      have hws := HBk.out.size
      have hwl := blk_lt Bk.out
      have z0 : wr.cell? ⟨w.heap.size, 0, none⟩ = some (.slice A0 h.length c0) := vb Bk 0
      have z1 : wr.cell? ⟨w.heap.size, 1, none⟩ = some (.slice A1 s.length c1) := vb Bk 1
      have z2 : wr.cell? ⟨w.heap.size, 2, none⟩ = some (.slice A2 p.length c2) := vb Bk 2
      have z3 : wr.cell? ⟨w.heap.size, 3, none⟩ = some (.int .i64 b0) := vb Bk 3
      have z4 : wr.cell? ⟨w.heap.size, 4, none⟩ = some (.int .i64 b1) := vb Bk 4
      cases o with
      | false =>
       cases jok with
       | false =>
        go_wp2_with (go_at_call 58; (with_reducible refine (tune_joints.calls _ A0 c0 h A1 c1 s A2 c2 p b0 b1 jl _ _ (Kd.C_below D0.out HBk.out) hc0 (Kd.C_below D1.out HBk.out) hc1 (Kd.C_below D2.out HBk.out) hc2 HF.out).mono ?_); rintro e w5 ⟨v, rfl, hr, hb⟩; obtain ⟨A5, c5, rfl⟩ := Kd.R_slice hr; have HR := zh (Kd.R_reads' hr).2.2; have HB5 := zh (HBk.out.trans (hb.mono HBk.out.size)); clear hr hb)
        go_ret
        exact ⟨by rw [HCK.out]; rfl, HB5.out⟩
       | true =>
        go_wp2_with (go_at_call 58; (with_reducible refine (tune_joints.calls _ A0 c0 h A1 c1 s A2 c2 p b0 b1 jl _ _ (Kd.C_below D0.out HBk.out) hc0 (Kd.C_below D1.out HBk.out) hc1 (Kd.C_below D2.out HBk.out) hc2 HF.out).mono ?_); rintro e w5 ⟨v, rfl, hr, hb⟩; obtain ⟨A5, c5, rfl⟩ := Kd.R_slice hr; have HR := zh (Kd.R_reads' hr).2.2; have HB5 := zh (HBk.out.trans (hb.mono HBk.out.size)); clear hr hb)
        go_ret
        exact ⟨by rw [HCK.out]; rfl, HB5.out⟩
      | true =>
       cases jok with
       | false =>
        go_wp2_with (go_at_call 58; (with_reducible refine (tune_joints.calls _ A0 c0 h A1 c1 s A2 c2 p b0 b1 jl _ _ (Kd.C_below D0.out HBk.out) hc0 (Kd.C_below D1.out HBk.out) hc1 (Kd.C_below D2.out HBk.out) hc2 HF.out).mono ?_); rintro e w5 ⟨v, rfl, hr, hb⟩; obtain ⟨A5, c5, rfl⟩ := Kd.R_slice hr; have HR := zh (Kd.R_reads' hr).2.2; have HB5 := zh (HBk.out.trans (hb.mono HBk.out.size)); clear hr hb)
        go_ret
        exact ⟨by rw [HCK.out]; rfl, HB5.out⟩
       | true =>
        go_wp2_with (go_at_call 58; (with_reducible refine (tune_joints.calls _ A0 c0 h A1 c1 s A2 c2 p b0 b1 jl _ _ (Kd.C_below D0.out HBk.out) hc0 (Kd.C_below D1.out HBk.out) hc1 (Kd.C_below D2.out HBk.out) hc2 HF.out).mono ?_); rintro e w5 ⟨v, rfl, hr, hb⟩; obtain ⟨A5, c5, rfl⟩ := Kd.R_slice hr; have HR := zh (Kd.R_reads' hr).2.2; have HB5 := zh (HBk.out.trans (hb.mono HBk.out.size)); clear hr hb)
        have hw5 := HB5.out.size
        have hjll : jl.length ≤ 9223372036854775807 := HR.out.2.1
        have HB6 := zh (below_alloc HB5.out (.cells #[.int .i64 0, .int .i64 0, .int .i64 0, .int .i64 0, .int .i64 0, .int .i64 0, .int .i64 0, .int .i64 0] 89))
        have H56 := zh (below_alloc (Below.refl w5.heap.size w5) (.cells #[.int .i64 0, .int .i64 0, .int .i64 0, .int .i64 0, .int .i64 0, .int .i64 0, .int .i64 0, .int .i64 0] 89))
        have G6 : Aside0 ((w5.alloc (.cells #[.int .i64 0, .int .i64 0, .int .i64 0, .int .i64 0, .int .i64 0, .int .i64 0, .int .i64 0, .int .i64 0] 89)).heap[w5.heap.size]? = some (.cells (is_ (ini 0)) 89 (0, 0))) := ⟨alloc_at _ _ _ rfl⟩
        go_loopw [131] (fun u131 wr => ∃ k : Nat, k ≤ 8 ∧ u131 = .int .i64 k ∧ Aside0 (wr.heap[w5.heap.size]? = some (.cells (is_ (ini k)) 89 (0, 0))) ∧ Aside0 (Below w.heap.size w wr) ∧ Aside0 (Below w5.heap.size w5 wr)) (fun u131 _ => 8 - (intOf u131).toNat)
        case atStart => exact ⟨0, by omega, rfl, G6, HB6, H56⟩
        case round =>
         obtain ⟨k, hk, rfl, Gk, HBk, H5k⟩ := hrel
         by_cases hlt : k < 8
         ·have hlt' : (k : Int) < 8 := by omega
          have ck := is_at Gk.out k (by simpa [ini] using hlt)
          have fk := blk_frozen Gk.out k
          go_wp2
          go_roundw
          case rel => exact ⟨k + 1, by omega, by go_num, ⟨by rw [← ini_set k hlt]; exact is_set Gk.out k k⟩, ⟨HBk.out.setCell (by show w.heap.size ≤ w5.heap.size; omega) _⟩, ⟨H5k.out.setCell (Nat.le_refl _) _⟩⟩
          case measure => simp [intOf]; omega
         ·obtain rfl : k = 8 := by omega
          go_wp2
          go_loopw [140] (fun u140 wr => ∃ (k : Nat) (g : List Int), k ≤ jl.length ∧ u140 = .int .i64 k ∧ g.length = 8 ∧ Aside0 (ringF jl [0, 1, 2, 3, 4, 5, 6, 7] = ringF (jl.drop k) g) ∧ Aside0 (wr.heap[w5.heap.size]? = some (.cells (is_ g) 89 (0, 0))) ∧ Aside0 (Below w.heap.size w wr) ∧ Aside0 (Below w5.heap.size w5 wr)) (fun u140 _ => jl.length - (intOf u140).toNat)
          case atStart => exact ⟨0, ini 8, Nat.zero_le _, rfl, rfl, ⟨rfl⟩, Gk, HBk, H5k⟩
          case round =>
           clear hk hlt Gk HBk H5k
           obtain ⟨k, g, hk, rfl, hg8, HRG, Gk, HBk, H5k⟩ := hrel
           by_cases hlt : k < jl.length
           ·have hlt' : (k : Int) < (jl.length : Int) := by omega
            have h' := at_T80 (Kd.C_below HR.out H5k.out) (k : Int) (by omega) (by omega)
            have e : rd_T80 jl (k : Int) = jl[k] := by unfold rd_T80; rw [Int.toNat_natCast]; simp [List.getD_eq_getElem?_getD, hlt]
            rw [e] at h'
            simp only [Int.toNat_natCast] at h'
            have hgd := HGD.out jl[k] (List.getElem_mem hlt)
            have hdr : jl.drop k = jl[k] :: jl.drop (k + 1) := List.drop_eq_getElem_cons hlt
            rw [hdr] at HRG
            obtain ⟨⟨q0, q1, q2, q3⟩, hq⟩ : ∃ q, jl[k] = q := ⟨_, rfl⟩
            rw [hq] at h' hgd HRG
            clear hdr e hq
            have h8 := HL8.out trivial
            obtain ⟨g1, g2⟩ := hgd
            unfold inK at g1 g2
            simp only [Bool.and_eq_true, decide_eq_true_eq] at g1 g2
            obtain ⟨x, rfl⟩ : ∃ x : Nat, q0 = (x : Int) := ⟨q0.toNat, by omega⟩
            obtain ⟨y, rfl⟩ : ∃ y : Nat, q1 = (y : Int) := ⟨q1.toNat, by omega⟩
            have hx8 : x < g.length := by omega
            have hy8 : y < g.length := by omega
            have hx8' : x < 8 := by omega
            have hy8' : y < 8 := by omega
            clear g1 g2
            obtain ⟨ad_, rfl, i0, i1, i2, i3, i4⟩ := h'
            have cx := is_at Gk.out x hx8
            have cy := is_at Gk.out y hy8
            have HRG2 : Aside0 (ringF jl [0, 1, 2, 3, 4, 5, 6, 7] = if g.getD x 0 = g.getD y 0 then false else ringF (jl.drop (k + 1)) (unite g (g.getD x 0) (g.getD y 0))) := HRG
            have hgs := blk_lt Gk.out
            have cxa : (wr.alloc (.cells #[.int .i64 (x : Int), .int .i64 (y : Int), .int .i64 q2, .int .i64 q3.f0, .int .i64 q3.f1] 80)).cell? ⟨w5.heap.size, x, none⟩ = some (.int .i64 (g.getD x 0)) := (cell_alloc_old hgs).trans cx
            have cya : (wr.alloc (.cells #[.int .i64 (x : Int), .int .i64 (y : Int), .int .i64 q2, .int .i64 q3.f0, .int .i64 q3.f1] 80)).cell? ⟨w5.heap.size, y, none⟩ = some (.int .i64 (g.getD y 0)) := (cell_alloc_old hgs).trans cy
            clear HRG cx cy
            obtain ⟨a, ha⟩ : ∃ a, g.getD x 0 = a := ⟨_, rfl⟩
            obtain ⟨b, hb⟩ : ∃ b, g.getD y 0 = b := ⟨_, rfl⟩
            rw [ha] at cxa HRG2
            rw [hb] at cya HRG2
            clear ha hb
            go_upto_region 34 with (fail)
            have hx8i : (x : Int) < 8 := by omega
            have hy8i : (y : Int) < 8 := by omega
            have Xq := zh (alloc_at wr (.cells #[.int .i64 (x : Int), .int .i64 (y : Int), .int .i64 q2, .int .i64 q3.f0, .int .i64 q3.f1] 80) wr.heap.size rfl)
            have HBa := zh (below_alloc HBk.out (.cells #[.int .i64 (x : Int), .int .i64 (y : Int), .int .i64 q2, .int .i64 q3.f0, .int .i64 q3.f1] 80))
            have H5a := zh (below_alloc H5k.out (.cells #[.int .i64 (x : Int), .int .i64 (y : Int), .int .i64 q2, .int .i64 q3.f0, .int .i64 q3.f1] 80))
            have Ga := zh (blk_alloc Gk.out (.cells #[.int .i64 (x : Int), .int .i64 (y : Int), .int .i64 q2, .int .i64 q3.f0, .int .i64 q3.f1] 80))
            obtain ⟨W1, hW1⟩ : ∃ W1, wr.alloc (.cells #[.int .i64 (x : Int), .int .i64 (y : Int), .int .i64 q2, .int .i64 q3.f0, .int .i64 q3.f1] 80) = W1 := ⟨_, rfl⟩
            simp only [hW1] at Xq HBa H5a Ga cxa cya ⊢
            obtain ⟨gX, hgX⟩ : ∃ gX, wr.heap.size = gX := ⟨_, rfl⟩
            simp only [hgX] at Xq ⊢
            clear hW1 hgX HBk H5k Gk i0 i1 i2 i3 i4
            replace HBa := zh (HBa.out.trans (below_drew1 (Below.refl W1.heap.size W1) |>.mono HBa.out.size))
            replace H5a := zh (H5a.out.trans (below_drew1 (Below.refl W1.heap.size W1) |>.mono H5a.out.size))
            replace Ga := zh (show W1.drew.heap[w5.heap.size]? = _ from Ga.out)
            replace Xq := zh (show W1.drew.heap[gX]? = _ from Xq.out)
            replace cxa := zh (show W1.drew.cell? ⟨w5.heap.size, x, none⟩ = some (.int .i64 a) from cxa)
            replace cya := zh (show W1.drew.cell? ⟨w5.heap.size, y, none⟩ = some (.int .i64 b) from cya)
            refine start_ (n := 10) (S := fun w' => w'.cell? ⟨gX, 0, none⟩ = some (.int .i64 (x : Int)) ∧ w'.cell? ⟨gX, 1, none⟩ = some (.int .i64 (y : Int)) ∧ w'.cell? ⟨w5.heap.size, x, none⟩ = some (.int .i64 a) ∧ w'.cell? ⟨w5.heap.size, y, none⟩ = some (.int .i64 b)) (ds := []) (Array.replicate 10 false) zk rfl rfl ⟨vb Xq 0, vb Xq 1, cxa.out, cya.out⟩ (fun hHeld => ?_)
            refine with_tabW fCheck.tab34 fCheck.bits34 (fun HT_ HW_ => ?_)
            generalize W1.drew = W2 at HBa H5a Ga Xq cxa cya hHeld ⊢
            refine zu 0 ?_
            refine zu 4 ?_
            refine zt 1 ?_
            refine zu 2 ?_
            refine zt 3 ?_
            refine zt 5 ?_
            refine zu 6 ?_
            refine zt 7 ?_
            refine zu 8 ?_
            refine zu 9 ?_
            refine zd ?_
            clear hHeld HT_ HW_
            by_cases hab : a = b
            ·have hab1 : (a == b) = true := beq_iff_eq.2 hab
             have HC0 : Aside0 (checkT h s p b0 b1 = 10) := ⟨by rw [HCK.out, HRG2.out, if_pos hab]; rfl⟩
             clear hab
             go_wp2
             go_ret
             exact ⟨by rw [HC0.out]; rfl, HBa.out⟩
            ·have hab1 : (a == b) = false := beq_eq_false_iff_ne.2 hab
             have HRG3 : Aside0 (ringF jl [0, 1, 2, 3, 4, 5, 6, 7] = ringF (jl.drop (k + 1)) (unite g a b)) := ⟨by rw [HRG2.out, if_neg hab]⟩
             clear hab HRG2
             go_wp2
             clear Xq cxa cya hab1
             have H0 : Aside0 (W2.heap[w5.heap.size]? = some (.cells (is_ ((unite g a b).take 0 ++ g.drop 0)) 89 (0, 0))) := ⟨by rw [List.take_zero, List.drop_zero, List.nil_append]; exact Ga.out⟩
             go_loopw [155] (fun u155 wr => ∃ m : Nat, m ≤ 8 ∧ u155 = .int .i64 m ∧ Aside0 (wr.heap[w5.heap.size]? = some (.cells (is_ ((unite g a b).take m ++ g.drop m)) 89 (0, 0))) ∧ Aside0 (Below w.heap.size w wr) ∧ Aside0 (Below w5.heap.size w5 wr)) (fun u155 _ => 8 - (intOf u155).toNat)
             case atStart => exact ⟨0, by omega, rfl, H0, HBa, H5a⟩
             case round =>
              obtain ⟨m, hm, rfl, Gm, HBm, H5m⟩ := hrel
              have hul : (unite g a b).length = 8 := by unfold unite; rw [List.length_map]; exact hg8
              by_cases hmt : m < 8
              ·have hmt' : (m : Int) < 8 := by omega
               have hmg : m < g.length := by omega
               have hcl : ((unite g a b).take m ++ g.drop m).length = 8 := by simp; omega
               have cm := is_at Gm.out m (by omega)
               have fm := blk_frozen Gm.out m
               have hge : ((unite g a b).take m ++ g.drop m).getD m 0 = g[m] := by
                have hk : ((unite g a b).take m).length = m := by rw [List.length_take]; omega
                rw [List.getD_eq_getElem?_getD, List.getElem?_append_right (by omega), hk, Nat.sub_self, List.drop_eq_getElem_cons hmg]
                rfl
               rw [hge] at cm
               have HUS := zh (unite_set g a b m hmg)
               obtain ⟨z, hz⟩ : ∃ z, g[m] = z := ⟨_, rfl⟩
               have hcur : ((unite g a b).take m ++ g.drop m)[m]? = some z := by
                rw [← hz, ← hge, List.getD_eq_getElem?_getD]
                simp [hcl, hmt]
               rw [hz] at cm HUS
               have HSS : Aside0 (((unite g a b).take m ++ g.drop m).set m z = (unite g a b).take m ++ g.drop m) := ⟨by
                refine List.ext_getElem? (fun q => ?_)
                rw [List.getElem?_set]
                split
                ·rename_i e
                 subst e
                 rw [hcur]
                 simp [hcl, hmt]
                ·rfl⟩
               clear hge hz hcur hcl
               by_cases hzb : z = b
               ·have hzb1 : (z == b) = true := beq_iff_eq.2 hzb
                have HU2 : Aside0 (((unite g a b).take m ++ g.drop m).set m a = (unite g a b).take (m + 1) ++ g.drop (m + 1)) := ⟨by rw [← HUS.out, if_pos hzb]⟩
                clear hzb
                go_wp2
                go_roundw
                case rel => exact ⟨m + 1, by omega, by go_num, ⟨by rw [← HU2.out]; exact is_set Gm.out m a⟩, ⟨HBm.out.setCell (by show w.heap.size ≤ w5.heap.size; omega) _⟩, ⟨H5m.out.setCell (Nat.le_refl _) _⟩⟩
                case measure => simp [intOf]; omega
               ·have hzb1 : (z == b) = false := beq_eq_false_iff_ne.2 hzb
                have HU2 : Aside0 ((unite g a b).take m ++ g.drop m = (unite g a b).take (m + 1) ++ g.drop (m + 1)) := ⟨by rw [← HUS.out, if_neg hzb, HSS.out]⟩
                clear hzb
                go_wp2
                go_roundw
                case rel => exact ⟨m + 1, by omega, by go_num, ⟨by rw [← HU2.out]; exact Gm.out⟩, HBm, H5m⟩
                case measure => simp [intOf]; omega
              ·obtain rfl : m = 8 := by omega
               go_wp2
               go_roundw
               case rel => exact ⟨k + 1, unite g a b, by omega, by go_num, hul, HRG3, ⟨by have h9 := Gm.out; rw [List.take_of_length_le (by omega), List.drop_of_length_le (by omega), List.append_nil] at h9; exact h9⟩, HBm, H5m⟩
               case measure => simp [intOf]; omega
           ·obtain rfl : k = jl.length := by omega
            have hlt' : ¬ ((jl.length : Nat) : Int) < (jl.length : Int) := by omega
            have HC0 : Aside0 (checkT h s p b0 b1 = 0) := ⟨by rw [HCK.out, HRG.out, List.drop_length]; rfl⟩
            go_wp2
            go_ret
            exact ⟨by rw [HC0.out]; rfl, HBk.out⟩
end Go.Proofs.YtgehkojccmkggaaDoor.K
end
section
namespace Go.Proofs.YtgehkojccmkggaaDoor.K
open Go.RowKit Go.Shelf Go.Proofs.YtgehkojccmkggaaDoorW.PrintWords Go.Proofs.YtgehkojccmkggaaDoorW.PrintLast Go.Proofs.YtgehkojccmkggaaDoorW.PrintMore Go.Proofs.YtgehkojccmkggaaDoor.H Tune
set_option linter.unusedVariables false
set_option linter.unusedSimpArgs false
attribute [local go_sem] Oper.semAt_some
theorem ring_run : ∀ (js : List J) (l : List Int) (g : Nat → Nat), l.length = 8 → (∀ k, k < 8 → l.getD k 0 = (g k : Int)) → (∀ k, 8 ≤ k → g k = k) → (∀ k, k < 8 → g k < 8) → (∀ j ∈ js, j.one < 8 ∧ j.two < 8) → ringF (js.map ofJ) l = true → ∃ g', run js g = some g' := by
 intro js
 induction js with
 | nil => intro l g _ _ _ _ _ _; exact ⟨g, rfl⟩
 | cons j js ih =>
  intro l g hl hg hg8 hgs hj hr
  obtain ⟨h1, h2⟩ := hj j (List.mem_cons_self ..)
  rw [List.map_cons] at hr
  have e1 : (ofJ j).f0.toNat = j.one := by unfold ofJ; simp
  have e2 : (ofJ j).f1.toNat = j.two := by unfold ofJ; simp
  rw [ringF, e1, e2, hg _ h1, hg _ h2] at hr
  by_cases h : g j.one = g j.two
  ·rw [if_pos (by rw [h])] at hr; cases hr
  ·rw [if_neg (by omega)] at hr
   rw [run, if_neg h]
   refine ih _ _ (by unfold unite; rw [List.length_map]; exact hl) ?_ ?_ ?_ (fun k hk => hj k (List.mem_cons_of_mem _ hk)) hr
   ·intro k hk
    have hgk := hg k hk
    have hkl : k < l.length := by omega
    rw [List.getD_eq_getElem?_getD] at hgk ⊢
    unfold unite
    rw [List.getElem?_map]
    rw [List.getElem?_eq_getElem hkl] at hgk ⊢
    simp only [Option.getD_some, Option.map_some] at hgk ⊢
    rw [hgk]
    by_cases h3 : g k = g j.two
    ·rw [if_pos (by rw [h3]), if_pos h3]
    ·rw [if_neg (by omega), if_neg h3]
   ·intro k hk
    rw [hg8 k hk]
    have := hgs _ h2
    rw [if_neg (by omega)]
   ·intro k hk
    have := hgs _ h1
    have := hgs _ hk
    split <;> assumption
theorem ring_forest (js : List J) (hj : ∀ j ∈ js, j.one < 8 ∧ j.two < 8) (hr : ringF (js.map ofJ) [0, 1, 2, 3, 4, 5, 6, 7] = true) : ∃ g, Forest js g := by
 obtain ⟨g, hg⟩ := ring_run js [0, 1, 2, 3, 4, 5, 6, 7] id rfl (by decide) (fun _ _ => rfl) (fun _ h => h) hj hr
 exact ⟨g, run_of_forest hg⟩
theorem forest_beaten (b : Int × Int) {js : List J} {g : Nat → Nat} (h : Forest js g) : Forest (js.map (beaten b)) g := by
 induction h with
 | nil => exact .nil
 | @snoc js g j hf hne ih =>
  rw [List.map_append, List.map_singleton]
  have h2 := Forest.snoc (j := beaten b j) ih (by rw [beaten_one, beaten_two]; exact hne)
  rw [beaten_one, beaten_two] at h2
  exact h2
theorem forest_active (b : Int × Int) {js : List J} {g : Nat → Nat} (h : Forest js g) (left : Nat → Bool) : ∃ g', Forest (active b js left) g' := by
 obtain ⟨g', h', _⟩ := h.sub (l := js.filter fun j => !(left j.one || left j.two)) List.filter_sublist
 exact ⟨g', forest_beaten b h'⟩
def Goods (b0 b1 : Int) (q : S80) : Prop := (q.f2 = 0 ∧ okSpan q.f3 200 5000 = true) ∨ (q.f2 = 1 ∧ q.f3 = ⟨b0, b1⟩)
theorem scale_goods (b0 b1 : Int) (n : Nat) (x : S61) (hx : x.f1.all (okSpan · 200 5000) = true) : ∀ (l : List Nat) (st : List S80 × Bool), (∀ q ∈ st.1, Goods b0 b1 q) → ∀ q ∈ (l.foldl (scaleStep n x) st).1, Goods b0 b1 q := by
 intro l
 induction l with
 | nil => intro st h; exact h
 | cons i l ih =>
  intro st h1
  rw [List.foldl_cons]
  refine ih _ ?_
  unfold scaleStep
  dsimp only
  split
  ·rename_i hc
   intro q hq
   rcases List.mem_append.1 hq with hq | hq
   ·exact h1 q hq
   ·obtain rfl := List.mem_singleton.1 hq
    refine .inl ⟨rfl, ?_⟩
    have hi : i - 1 < x.f1.length := by omega
    have he : x.f1.getD (i - 1) z26 = x.f1[i - 1] := by simp [List.getD_eq_getElem?_getD, hi]
    rw [List.all_eq_true] at hx
    have := hx _ (List.getElem_mem hi)
    dsimp only
    rw [he]
    exact this
  ·exact h1
theorem joints_goods (h : List S26) (s : List S61) (p : List S48) (b0 b1 : Int) (hs : s.all okScale = true) : ∀ q ∈ (jointsT h s p b0 b1).1, Goods b0 b1 q := by
 have hp : ∀ (p : List S48) (st : List S80 × Bool), (∀ q ∈ st.1, Goods b0 b1 q) → ∀ q ∈ (p.foldl (pairStep h.length b0 b1) st).1, Goods b0 b1 q := by
  intro p
  induction p with
  | nil => intro st h; exact h
  | cons y p ih =>
   intro st h1
   rw [List.foldl_cons]
   refine ih _ ?_
   unfold pairStep
   dsimp only
   split
   ·intro q hq
    rcases List.mem_append.1 hq with hq | hq
    ·exact h1 q hq
    ·obtain rfl := List.mem_singleton.1 hq
     exact .inr ⟨rfl, rfl⟩
   ·exact h1
 have hss : ∀ (s : List S61) (st : List S80 × Bool), s.all okScale = true → (∀ q ∈ st.1, Goods b0 b1 q) → ∀ q ∈ (s.foldl (scaleJ h.length) st).1, Goods b0 b1 q := by
  intro s
  induction s with
  | nil => intro st _ h; exact h
  | cons y s ih =>
   intro st ha h1
   rw [List.all_cons, Bool.and_eq_true] at ha
   rw [List.foldl_cons]
   refine ih _ ha.2 ?_
   unfold scaleJ
   have h9 := ha.1
   unfold okScale at h9
   rw [Bool.and_eq_true] at h9
   exact scale_goods b0 b1 h.length y h9.2 _ st h1
 exact hp p _ (hss s _ hs (fun q hq => by cases hq))
def toJ (q : S80) : J := ⟨q.f0.toNat, q.f1.toNat, q.f2 == 0, q.f3.f0, q.f3.f1⟩
theorem ofJ_toJ {n : Nat} {b0 b1 : Int} {q : S80} (hg : Good n q) (hs : Goods b0 b1 q) : ofJ (toJ q) = q := by
 obtain ⟨q0, q1, q2, ⟨q3, q4⟩⟩ := q
 obtain ⟨g0, g1⟩ := hg
 unfold inK at g0 g1
 simp only [Bool.and_eq_true, decide_eq_true_eq] at g0 g1
 have e0 : ((q0.toNat : Nat) : Int) = q0 := Int.toNat_of_nonneg g0.1
 have e1 : ((q1.toNat : Nat) : Int) = q1 := Int.toNat_of_nonneg g1.1
 rcases hs with ⟨h2, _⟩ | ⟨h2, _⟩
 ·dsimp only at h2
  subst h2
  unfold ofJ toJ kindV
  simp only [e0, e1]
  rfl
 ·dsimp only at h2
  subst h2
  unfold ofJ toJ kindV
  simp only [e0, e1]
  rfl
theorem ok_set (h : List S26) (s : List S61) (p : List S48) (b0 b1 : Int) (hok : okAll h s p b0 b1 = true) (hr : ringF (jointsT h s p b0 b1).1 [0, 1, 2, 3, 4, 5, 6, 7] = true) :
  ∃ js g, js = (jointsT h s p b0 b1).1.map toJ ∧ (jointsT h s p b0 b1).1 = js.map ofJ ∧ (∀ j ∈ js, OkJ j ∧ j.one < h.length ∧ j.two < h.length ∧ j.one ≠ j.two) ∧ Forest js g ∧ 1 ≤ h.length ∧ h.length ≤ 8 ∧ (∀ x, x < h.length → 1 ≤ loH h x ∧ hiH h x ≤ 4000 ∧ loH h x ≤ hiH h x ∧ hiH h x - loH h x ≤ 40) ∧ 0 ≤ b0 ∧ b0 ≤ b1 ∧ b1 ≤ 60 := by
 unfold okAll at hok
 simp only [Bool.and_eq_true] at hok
 obtain ⟨⟨⟨h0, hh⟩, hs⟩, hj⟩ := hok
 have G1 := joints_good h s p b0 b1
 have G2 := joints_goods h s p b0 b1 hs
 unfold ok0 okSpan at h0
 simp only [Bool.and_eq_true, decide_eq_true_eq] at h0
 obtain ⟨JL, hJL⟩ : ∃ JL, (jointsT h s p b0 b1).1 = JL := ⟨_, rfl⟩
 rw [hJL] at G1 G2 hr ⊢
 have hm : JL = (JL.map toJ).map ofJ := by
  rw [List.map_map]
  refine (List.map_id JL).symm.trans (List.map_congr_left (fun q hq => ?_))
  exact (ofJ_toJ (G1 q hq) (G2 q hq)).symm
 have hb : ∀ j ∈ JL.map toJ, OkJ j ∧ j.one < h.length ∧ j.two < h.length := by
  intro j hj
  obtain ⟨q, hq, rfl⟩ := List.mem_map.1 hj
  obtain ⟨a1, a2⟩ := G1 q hq
  unfold inK at a1 a2
  simp only [Bool.and_eq_true, decide_eq_true_eq] at a1 a2
  refine ⟨?_, by unfold toJ; dsimp only; omega, by unfold toJ; dsimp only; omega⟩
  unfold OkJ toJ
  dsimp only
  rcases G2 q hq with ⟨_, a3⟩ | ⟨_, a3⟩
  ·unfold okSpan at a3
   simp only [Bool.and_eq_true, decide_eq_true_eq] at a3
   omega
  ·rw [a3]
   dsimp only
   omega
 rw [hm] at hr
 obtain ⟨g, hg⟩ := ring_forest _ (fun j hj => ⟨by have := (hb j hj).2.1; omega, by have := (hb j hj).2.2; omega⟩) hr
 refine ⟨JL.map toJ, g, rfl, hm, fun j hj => ⟨(hb j hj).1, (hb j hj).2.1, (hb j hj).2.2, fun e => ?_⟩, hg, by omega, by omega, fun x hx => ?_, by omega, by omega, by omega⟩
 ·exact hg.noloop j.one j.two j.one (by
   have h1 : Walk (JL.map toJ) j.one j.two j.one j.two := .one ⟨j, hj, .inl ⟨rfl, rfl⟩⟩
   rw [← e] at h1 ⊢
   exact h1)
 ·rw [List.all_eq_true] at hh
  have h1 := hh _ (List.getElem_mem hx)
  have h2 : h.getD x z26 = h[x] := by simp [List.getD_eq_getElem?_getD, hx]
  unfold okHeard okSpan at h1
  simp only [Bool.and_eq_true, decide_eq_true_eq] at h1
  unfold loH hiH
  rw [h2]
  omega
end Go.Proofs.YtgehkojccmkggaaDoor.K
end
section
namespace Go.Proofs.YtgehkojccmkggaaDoor.K
open Go.RowKit Go.Shelf Go.Proofs.YtgehkojccmkggaaDoorW.PrintWords Go.Proofs.YtgehkojccmkggaaDoorW.PrintLast Go.Proofs.YtgehkojccmkggaaDoorW.PrintMore Go.Proofs.YtgehkojccmkggaaDoor.H Tune
set_option linter.unusedVariables false
set_option linter.unusedSimpArgs false
attribute [local go_sem] Oper.semAt_some
def Tunable (h : List S26) (js : List J) (left : Nat → Bool) (b : Int × Int) (gl : List (Int × Int)) : Prop := ∃ l, Tun h.length js left b (loH h) (hiH h) (okG gl) l
def jsOf (h : List S26) (s : List S61) (p : List S48) (b0 b1 : Int) : List J := (jointsT h s p b0 b1).1.map toJ
def zeroSet : Value := .agg #[.slice none 0 0, .slice none 0 0, .slice none 0 0, .int .i64 0, .int .i64 0, .slice none 0 0, .bool false, .bool false, .bool false, .bool false, .bool false, .bool false, .bool false, .bool false, .int .i64 0, .int .i64 0]
def noLeft : Nat → Bool := fun _ => false
def tunS (h : List S26) (js : List J) (left : Nat → Bool) (b : Int × Int) (gl : List (Int × Int)) : Bool := tunB h.length js left b (loH h) (hiH h) (okG gl)
theorem tunS_iff {h : List S26} {js : List J} {left : Nat → Bool} {b : Int × Int} {gl : List (Int × Int)} (hj : ∀ j ∈ js, OkJ j ∧ j.one < h.length ∧ j.two < h.length ∧ j.one ≠ j.two) : tunS h js left b gl = true ↔ Tunable h js left b gl := tunB_iff fun j hj' => ⟨(hj j hj').2.1, (hj j hj').2.2.1⟩
theorem cells5 {w : World} {g : Nat} {t : TypeId} {a0 a1 a2 a3 a4 : Value} (h : w.heap[g]? = some (.cells #[a0, a1, a2, a3, a4] t (0, 0))) :
  w.cell? ⟨g, 0, none⟩ = some a0 ∧ w.cell? ⟨g, 1, none⟩ = some a1 ∧ w.cell? ⟨g, 2, none⟩ = some a2 ∧ w.cell? ⟨g, 3, none⟩ = some a3 ∧ w.cell? ⟨g, 4, none⟩ = some a4 :=
 ⟨(blk_cell h 0).trans rfl, (blk_cell h 1).trans rfl, (blk_cell h 2).trans rfl, (blk_cell h 3).trans rfl, (blk_cell h 4).trans rfl⟩
theorem cells16 {w : World} {g : Nat} {t : TypeId} {a0 a1 a2 a3 a4 a5 a6 a7 a8 a9 a10 a11 a12 a13 a14 a15 : Value} (h : w.heap[g]? = some (.cells #[a0, a1, a2, a3, a4, a5, a6, a7, a8, a9, a10, a11, a12, a13, a14, a15] t (0, 0))) :
  w.cell? ⟨g, 0, none⟩ = some a0 ∧ w.cell? ⟨g, 1, none⟩ = some a1 ∧ w.cell? ⟨g, 2, none⟩ = some a2 ∧ w.cell? ⟨g, 3, none⟩ = some a3 ∧ w.cell? ⟨g, 4, none⟩ = some a4 ∧ w.cell? ⟨g, 5, none⟩ = some a5 ∧ w.cell? ⟨g, 6, none⟩ = some a6 ∧ w.cell? ⟨g, 7, none⟩ = some a7 ∧ w.cell? ⟨g, 8, none⟩ = some a8 ∧ w.cell? ⟨g, 9, none⟩ = some a9 ∧ w.cell? ⟨g, 10, none⟩ = some a10 ∧ w.cell? ⟨g, 11, none⟩ = some a11 ∧ w.cell? ⟨g, 12, none⟩ = some a12 ∧ w.cell? ⟨g, 13, none⟩ = some a13 ∧ w.cell? ⟨g, 14, none⟩ = some a14 ∧ w.cell? ⟨g, 15, none⟩ = some a15 :=
 ⟨(blk_cell h 0).trans rfl, (blk_cell h 1).trans rfl, (blk_cell h 2).trans rfl, (blk_cell h 3).trans rfl, (blk_cell h 4).trans rfl, (blk_cell h 5).trans rfl, (blk_cell h 6).trans rfl, (blk_cell h 7).trans rfl, (blk_cell h 8).trans rfl, (blk_cell h 9).trans rfl, (blk_cell h 10).trans rfl, (blk_cell h 11).trans rfl, (blk_cell h 12).trans rfl, (blk_cell h 13).trans rfl, (blk_cell h 14).trans rfl, (blk_cell h 15).trans rfl⟩
theorem froz16 {w : World} {g : Nat} {t : TypeId} {a : Array Value} (h : w.heap[g]? = some (.cells a t (0, 0))) :
  w.frozen? ⟨g, 0, none⟩ = false ∧ w.frozen? ⟨g, 1, none⟩ = false ∧ w.frozen? ⟨g, 2, none⟩ = false ∧ w.frozen? ⟨g, 3, none⟩ = false ∧ w.frozen? ⟨g, 4, none⟩ = false ∧ w.frozen? ⟨g, 5, none⟩ = false ∧ w.frozen? ⟨g, 6, none⟩ = false ∧ w.frozen? ⟨g, 7, none⟩ = false ∧ w.frozen? ⟨g, 8, none⟩ = false ∧ w.frozen? ⟨g, 9, none⟩ = false ∧ w.frozen? ⟨g, 10, none⟩ = false ∧ w.frozen? ⟨g, 11, none⟩ = false ∧ w.frozen? ⟨g, 12, none⟩ = false ∧ w.frozen? ⟨g, 13, none⟩ = false ∧ w.frozen? ⟨g, 14, none⟩ = false ∧ w.frozen? ⟨g, 15, none⟩ = false :=
 ⟨blk_frozen h 0, blk_frozen h 1, blk_frozen h 2, blk_frozen h 3, blk_frozen h 4, blk_frozen h 5, blk_frozen h 6, blk_frozen h 7, blk_frozen h 8, blk_frozen h 9, blk_frozen h 10, blk_frozen h 11, blk_frozen h 12, blk_frozen h 13, blk_frozen h 14, blk_frozen h 15⟩
def askedE (h : List S26) (s : List S61) (p : List S48) (b0 b1 : Int) (right : Bool) : Int := if checkT h s p b0 b1 ≠ 0 then 10 else if right = false then 11 else if tunS h (jsOf h s p b0 b1) noLeft (b0, b1) [] = true then 0 else 12
theorem checkT_ne {h : List S26} {s : List S61} {p : List S48} {b0 b1 : Int} (hc : checkT h s p b0 b1 ≠ 0) : checkT h s p b0 b1 = 10 := by
 unfold checkT at hc ⊢
 split
 ·rename_i h1; rw [if_pos h1] at hc; exact absurd rfl hc
 ·rfl
theorem checkT_eq {h : List S26} {s : List S61} {p : List S48} {b0 b1 : Int} (hc : checkT h s p b0 b1 = 0) : okAll h s p b0 b1 = true ∧ ringF (jointsT h s p b0 b1).1 [0, 1, 2, 3, 4, 5, 6, 7] = true := by
 unfold checkT at hc
 split at hc
 ·rename_i h1; exact h1
 ·cases hc
structure Fine (h : List S26) (js : List J) : Prop where
 forest : ∃ g, Forest js g
 joins : ∀ j ∈ js, OkJ j ∧ j.one < h.length ∧ j.two < h.length ∧ j.one ≠ j.two
 few : h.length ≤ 8
 some : 1 ≤ h.length
 span : ∀ x, x < h.length → 1 ≤ loH h x ∧ hiH h x ≤ 4000 ∧ loH h x ≤ hiH h x ∧ hiH h x - loH h x ≤ 40
theorem fine_of {h : List S26} {s : List S61} {p : List S48} {b0 b1 : Int} (hc : checkT h s p b0 b1 = 0) : Fine h (jsOf h s p b0 b1) ∧ (jointsT h s p b0 b1).1 = (jsOf h s p b0 b1).map ofJ ∧ 0 ≤ b0 ∧ b0 ≤ b1 ∧ b1 ≤ 60 := by
 obtain ⟨h1, h2⟩ := checkT_eq hc
 obtain ⟨js, g, hjs, hjm, hj, hf, hn1, hn8, hsp, hb⟩ := ok_set h s p b0 b1 h1 h2
 subst hjs
 exact ⟨⟨⟨g, hf⟩, hj, hn8, hn1, hsp⟩, hjm, hb⟩
theorem opened_nil (A0 : Option Addr) (c0 : Nat) (h : List S26) (A1 : Option Addr) (c1 : Nat) (s : List S61) (A2 : Option Addr) (c2 : Nat) (p : List S48) (b0 b1 : Int) (W : World) (hsm : small h s p = true)
  (h0 : Kd.C k26 W A0 h.length h) (hc0 : h.length ≤ c0) (h1 : Kd.C k61 W A1 s.length s) (hc1 : s.length ≤ c1) (h2 : Kd.C k48 W A2 p.length p) (hc2 : p.length ≤ c2) :
  Calls Tryd.prog 52 #[.agg #[.slice A0 h.length c0, .slice A1 s.length c1, .slice A2 p.length c2, .int .i64 b0, .int .i64 b1], .slice none 0 0] W fun e w' => ∃ A3 c3, e = .returned (.agg #[.slice A0 h.length c0, .slice A1 s.length c1, .slice A2 p.length c2, .int .i64 b0, .int .i64 b1, .slice A3 (jointsT h s p b0 b1).1.length c3, .bool false, .bool false, .bool false, .bool false, .bool false, .bool false, .bool false, .bool false, .int .i64 b0, .int .i64 b1]) ∧ Kd.F k80 w' (fun k => W.heap.size ≤ k) A3 (jointsT h s p b0 b1).1.length (jointsT h s p b0 b1).1 ∧ Below W.heap.size W w' :=
 opened_calls A0 c0 h A1 c1 s A2 c2 p b0 b1 none 0 [] W hsm h0 hc0 h1 hc1 h2 hc2 (Kd.C_nil _ _) (fun k hk => absurd hk (Nat.not_lt_zero _))
theorem fits_plain (vH vS vP vA : Value) (b0 b1 e0 e1 : Int) (j : J) (p q : Int) (w : World) (hG : Glob w) (hj : OkJ j) (hp : 0 ≤ p) (hp' : p ≤ 4000) (hq : 0 ≤ q) (hq' : q ≤ 4000) :
  Calls Tryd.prog 53 #[.agg #[vH, vS, vP, .int .i64 b0, .int .i64 b1, vA, .bool false, .bool false, .bool false, .bool false, .bool false, .bool false, .bool false, .bool false, .int .i64 e0, .int .i64 e1], .agg #[.int .i64 (j.one : Int), .int .i64 (j.two : Int), .int .i64 (kindV j), .int .i64 j.lo, .int .i64 j.hi], .int .i64 p, .int .i64 q] w fun e w' => e = .returned (.bool (fitB (e0, e1) j p q)) ∧ Below w.heap.size w w' :=
 fits_calls vH vS vP vA b0 b1 noLeft e0 e1 j p q w hG hj hp hp' hq hq'
end Go.Proofs.YtgehkojccmkggaaDoor.K
end
section
namespace Go.Proofs.YtgehkojccmkggaaDoor.K
open Go.RowKit Go.Shelf Go.Proofs.YtgehkojccmkggaaDoorW.PrintWords Go.Proofs.YtgehkojccmkggaaDoorW.PrintLast Go.Proofs.YtgehkojccmkggaaDoorW.PrintMore Go.Proofs.YtgehkojccmkggaaDoor.H Tune
set_option linter.unusedVariables false
set_option linter.unusedSimpArgs false
attribute [local go_sem] Oper.semAt_some
def inSpan (h : List S26) (l : List Int) (k : Nat) : Bool := decide (loH h k ≤ l.getD k 0) && decide (l.getD k 0 ≤ hiH h k)
def fitJ (b : Int × Int) (l : List Int) (j : J) : Bool := fitB b j (l.getD j.one 0) (l.getD j.two 0)
def isT (h : List S26) (js : List J) (b : Int × Int) (l : List Int) : Bool := decide (l.length = h.length) && ((List.range h.length).all (inSpan h l) && js.all (fitJ b l))
def isTB (h : List S26) (s : List S61) (p : List S48) (b0 b1 : Int) (l : List Int) : Bool := decide (checkT h s p b0 b1 = 0) && isT h (jsOf h s p b0 b1) (b0, b1) l
theorem range_snoc (P : Nat → Bool) (k : Nat) : (List.range (k + 1)).all P = ((List.range k).all P && P k) := by
 rw [List.range_succ, List.all_append]
 simp
theorem range_false {P : Nat → Bool} {n k : Nat} (hk : k < n) (h : P k = false) : (List.range n).all P = false := by
 rw [List.all_eq_false]
 exact ⟨k, List.mem_range.2 hk, by rw [h]; decide⟩
theorem all_false {α : Type} {P : α → Bool} {l : List α} {k : Nat} (hk : k < l.length) (h : P l[k] = false) : l.all P = false := by
 rw [List.all_eq_false]
 exact ⟨_, List.getElem_mem hk, by rw [h]; decide⟩
set_option maxRecDepth 100000 in
set_option maxHeartbeats 8000000 in
theorem isTuning_calls (A0 : Option Addr) (c0 : Nat) (h : List S26) (A1 : Option Addr) (c1 : Nat) (s : List S61) (A2 : Option Addr) (c2 : Nat) (p : List S48) (b0 b1 : Int) (A4 : Option Addr) (c4 : Nat) (l : List Int) (w : World) (hsm : small h s p = true) (hG : Glob w)
  (h0 : Kd.C k26 w A0 h.length h) (hc0 : h.length ≤ c0) (h1 : Kd.C k61 w A1 s.length s) (hc1 : s.length ≤ c1) (h2 : Kd.C k48 w A2 p.length p) (hc2 : p.length ≤ c2) (hL : Kd.C (Kd.int .i64) w A4 l.length l) :
  Calls Tryd.prog 16 #[.agg #[.slice A0 h.length c0, .slice A1 s.length c1, .slice A2 p.length c2, .int .i64 b0, .int .i64 b1], .slice A4 l.length c4] w fun e w' => e = .returned (.tuple #[.bool (isTB h s p b0 b1 l), .int .i64 (checkT h s p b0 b1)]) ∧ Below w.heap.size w w' := by
 have hu77 := Tryd.underlying77
 have hu80 := Tryd.underlying80
 have hu28 := Tryd.underlying28
 have hu26 := Tryd.underlying26
 have HB0 := zh (below_alloc (Below.refl w.heap.size w) (.cells #[.slice A0 h.length c0, .slice A1 s.length c1, .slice A2 p.length c2, .int .i64 b0, .int .i64 b1] 28))
 have B0 := zh (alloc_at w (.cells #[.slice A0 h.length c0, .slice A1 s.length c1, .slice A2 p.length c2, .int .i64 b0, .int .i64 b1] 28) w.heap.size rfl)
 have D0 := zh h0
 have D1 := zh h1
 have D2 := zh h2
 have DL := zh hL
 have HG := zh hG
 have HSM := zh hsm
 have HCK := zh (check_calls A0 c0 h A1 c1 s A2 c2 p b0 b1 _ hsm (Kd.C_below h0 HB0.out) hc0 (Kd.C_below h1 HB0.out) hc1 (Kd.C_below h2 HB0.out) hc2)
 have hlm := hL.2.1
 clear h0 h1 h2 hG hsm hL
 obtain ⟨ck, hck⟩ : ∃ ck, checkT h s p b0 b1 = ck := ⟨_, rfl⟩
 rw [hck] at HCK
 by_cases hz : ck = 0
 ·obtain rfl := hz
  obtain ⟨F, hjm, _, _, _⟩ := fine_of hck
  have HF := zh F
  obtain ⟨ad0, rfl⟩ : ∃ ad, A0 = some ad := by obtain ⟨ad, e, _⟩ := H_at D0.out 0 (by have := F.some; omega); exact ⟨ad, e⟩
  obtain ⟨R, hR⟩ : ∃ R, isTB h s p b0 b1 l = R := ⟨_, rfl⟩
  have HR : Aside0 (isT h (jsOf h s p b0 b1) (b0, b1) l = R) := ⟨by rw [← hR]; unfold isTB; rw [hck]; rfl⟩
  rw [hR, hck]
  have hn8 := F.few
  obtain ⟨js, hjs⟩ : ∃ js, jsOf h s p b0 b1 = js := ⟨_, rfl⟩
  rw [hjs] at HR HF hjm
  clear hR hck F hjs
  have hjl : (jointsT h s p b0 b1).1.length = js.length := by rw [hjm, List.length_map]
  have HOP : Aside0 (∀ W, Below w.heap.size w W → Calls Tryd.prog 52 #[.agg #[.slice (some ad0) h.length c0, .slice A1 s.length c1, .slice A2 p.length c2, .int .i64 b0, .int .i64 b1], .slice none 0 0] W fun e w' => ∃ A3 c3, e = .returned (.agg #[.slice (some ad0) h.length c0, .slice A1 s.length c1, .slice A2 p.length c2, .int .i64 b0, .int .i64 b1, .slice A3 js.length c3, .bool false, .bool false, .bool false, .bool false, .bool false, .bool false, .bool false, .bool false, .int .i64 b0, .int .i64 b1]) ∧ Kd.F k80 w' (fun k => W.heap.size ≤ k) A3 js.length (js.map ofJ) ∧ Below W.heap.size W w') := ⟨fun W hW => by
   have h9 := opened_nil (some ad0) c0 h A1 c1 s A2 c2 p b0 b1 W HSM.out (Kd.C_below D0.out hW) hc0 (Kd.C_below D1.out hW) hc1 (Kd.C_below D2.out hW) hc2
   rw [hjm, List.length_map] at h9
   exact h9⟩
  clear hjm hjl
  by_cases hlen : l.length = h.length
  ·have hlen' : ((l.length : Int) != (h.length : Int)) = false := by rw [hlen]; simp
   have HLEN := zh hlen
   have HR2 : Aside0 (((List.range h.length).all (inSpan h l) && js.all (fitJ (b0, b1) l)) = R) := ⟨by rw [← HR.out]; unfold isT; rw [decide_eq_true hlen]; rfl⟩
   clear hlen
   go_enter Tryd.func16, Tryd.ntmps16
   go_wp2_with (go_at_call 18; refine HCK.out.mono ?_; rintro e w1 ⟨rfl, hb⟩; have HB1 := zh (HB0.out.trans (hb.mono (by simp))); have C1 := zh (blk_below B0.out hb); clear hb; obtain ⟨z0, z1, z2, z3, z4⟩ := cells5 C1.out)
   clear z0 z1 z2 z3 z4
   go_loopw [25] (fun u wr => ∃ k : Nat, k ≤ l.length ∧ u = .int .i64 k ∧ Aside0 ((List.range k).all (inSpan h l) = true) ∧ Aside0 (wr.heap[w.heap.size]? = some (.cells #[.slice (some ad0) h.length c0, .slice A1 s.length c1, .slice A2 p.length c2, .int .i64 b0, .int .i64 b1] 28 (0, 0))) ∧ Aside0 (Below w.heap.size w wr)) (fun u _ => l.length - (intOf u).toNat)
   case atStart => exact ⟨0, Nat.zero_le _, rfl, ⟨rfl⟩, C1, HB1⟩
   case round =>
    obtain ⟨k, hk, rfl, HA, Br, HBr⟩ := hrel
    by_cases hlt : k < l.length
    ·have hlt' : (k : Int) < (l.length : Int) := by omega
     have hlh : k < h.length := by have := HLEN.out; omega
     have hlh' : (k : Int) < (h.length : Int) := by omega
     obtain ⟨ad4, rfl, ca⟩ := C_int_at (Kd.C_below DL.out HBr.out) k hlt
     obtain ⟨q, hq⟩ : ∃ q, l.getD k 0 = q := ⟨_, rfl⟩
     have hiq : inSpan h l k = (decide (loH h k ≤ q) && decide (q ≤ hiH h k)) := by unfold inSpan; rw [hq]
     rw [hq] at ca
     cases hin : inSpan h l k with
     | false =>
      have HIN : Aside0 ((decide (loH h k ≤ q) && decide (q ≤ hiH h k)) = false) := ⟨by rw [← hiq]; exact hin⟩
      have HRF : Aside0 (R = false) := ⟨by rw [← HR2.out, range_false hlh hin]; rfl⟩
      clear hin hiq hq
      go_wp2
      have BD : Aside0 (wr.drew.heap[w.heap.size]? = some (.cells #[.slice (some ad0) h.length c0, .slice A1 s.length c1, .slice A2 p.length c2, .int .i64 b0, .int .i64 b1] 28 (0, 0))) := ⟨Br.out⟩
      have HBD := zh (below_drew1 HBr.out)
      refine wp_region_still_tail 13 zk zk ?_
      simp only [List.take_succ_cons, List.take_zero, List.drop_succ_cons, List.drop_zero]
      change wpStill Tryd.prog _ wr.drew _ _ _
      obtain ⟨W2, hW2⟩ : ∃ W2, wr.drew = W2 := ⟨_, rfl⟩
      rw [hW2] at BD HBD ⊢
      have HW2 := zh hW2
      clear hW2 ca
      obtain ⟨z0, z1, z2, z3, z4⟩ := cells5 BD.out
      obtain ⟨ad_, he_, g0, g1⟩ := H_at (Kd.C_below D0.out HBD.out) k hlh
      injection he_ with he_
      subst he_
      repeat still_step
      refine wpStill_nil ?_
      change wpList _ _ _ _ _ wr.drew
      rw [HW2.out]
      clear HW2
      go_wp2_with (go_at_call 51; (with_reducible refine (tune_lies.calls q (loH h k) (hiH h k) _ _ (lies_f _ _ _)).mono ?_); rintro e w6 ⟨rfl, hd⟩; rw [HIN.out]; have HB6 := zh (HBD.out.trans ((drawn_below hd).mono HBD.out.size)); have B6 := zh (blk_below BD.out (drawn_below hd)); clear hd)
      go_ret2
      exact ⟨by rw [HRF.out]; rfl, HB6.out⟩
     | true =>
      have HIN : Aside0 ((decide (loH h k ≤ q) && decide (q ≤ hiH h k)) = true) := ⟨by rw [← hiq]; exact hin⟩
      have HA2 : Aside0 ((List.range (k + 1)).all (inSpan h l) = true) := ⟨by rw [range_snoc, HA.out, hin]; rfl⟩
      clear hin hiq hq
      go_wp2
      have BD : Aside0 (wr.drew.heap[w.heap.size]? = some (.cells #[.slice (some ad0) h.length c0, .slice A1 s.length c1, .slice A2 p.length c2, .int .i64 b0, .int .i64 b1] 28 (0, 0))) := ⟨Br.out⟩
      have HBD := zh (below_drew1 HBr.out)
      refine wp_region_still_tail 13 zk zk ?_
      simp only [List.take_succ_cons, List.take_zero, List.drop_succ_cons, List.drop_zero]
      change wpStill Tryd.prog _ wr.drew _ _ _
      obtain ⟨W2, hW2⟩ : ∃ W2, wr.drew = W2 := ⟨_, rfl⟩
      rw [hW2] at BD HBD ⊢
      have HW2 := zh hW2
      clear hW2 ca
      obtain ⟨z0, z1, z2, z3, z4⟩ := cells5 BD.out
      obtain ⟨ad_, he_, g0, g1⟩ := H_at (Kd.C_below D0.out HBD.out) k hlh
      injection he_ with he_
      subst he_
      repeat still_step
      refine wpStill_nil ?_
      change wpList _ _ _ _ _ wr.drew
      rw [HW2.out]
      clear HW2
      go_wp2_with (go_at_call 51; (with_reducible refine (tune_lies.calls q (loH h k) (hiH h k) _ _ (lies_f _ _ _)).mono ?_); rintro e w6 ⟨rfl, hd⟩; rw [HIN.out]; have HB6 := zh (HBD.out.trans ((drawn_below hd).mono HBD.out.size)); have B6 := zh (blk_below BD.out (drawn_below hd)); clear hd)
      go_roundw
      case rel => exact ⟨k + 1, by omega, by go_num, HA2, B6, HB6⟩
      case measure => simp [intOf]; omega
    ·obtain rfl : k = l.length := by omega
     have hlt' : ¬ ((l.length : Nat) : Int) < (l.length : Int) := by omega
     have HR3 : Aside0 (js.all (fitJ (b0, b1) l) = R) := ⟨by have h9 := HA.out; rw [HLEN.out] at h9; rw [← HR2.out, h9]; rfl⟩
     obtain ⟨z0, z1, z2, z3, z4⟩ := cells5 Br.out
     go_wp2_with (go_at_call 52; (with_reducible refine (HOP.out _ HBr.out).mono ?_); rintro e w3 ⟨A3, c3, rfl, hF, hb⟩; have HC3 := zh (Kd.F_now hF); have HB3 := zh (HBr.out.trans (hb.mono HBr.out.size)); clear hF hb)
     have X0 : Aside0 ((w3.alloc (.cells #[.slice (some ad0) h.length c0, .slice A1 s.length c1, .slice A2 p.length c2, .int .i64 b0, .int .i64 b1, .slice A3 js.length c3, .bool false, .bool false, .bool false, .bool false, .bool false, .bool false, .bool false, .bool false, .int .i64 b0, .int .i64 b1] 77)).heap[w3.heap.size]? = some (.cells #[.slice (some ad0) h.length c0, .slice A1 s.length c1, .slice A2 p.length c2, .int .i64 b0, .int .i64 b1, .slice A3 js.length c3, .bool false, .bool false, .bool false, .bool false, .bool false, .bool false, .bool false, .bool false, .int .i64 b0, .int .i64 b1] 77 (0, 0))) := ⟨alloc_at _ _ _ rfl⟩
     have hjlm : js.length ≤ 9223372036854775807 := HC3.out.2.1
     have HBX := zh (below_alloc HB3.out (.cells #[.slice (some ad0) h.length c0, .slice A1 s.length c1, .slice A2 p.length c2, .int .i64 b0, .int .i64 b1, .slice A3 js.length c3, .bool false, .bool false, .bool false, .bool false, .bool false, .bool false, .bool false, .bool false, .int .i64 b0, .int .i64 b1] 77))
     clear z0 z1 z2 z3 z4
     go_loopw [51] (fun u wr => ∃ k : Nat, k ≤ js.length ∧ u = .int .i64 k ∧ Aside0 ((js.take k).all (fitJ (b0, b1) l) = true) ∧ Aside0 (wr.heap[w3.heap.size]? = some (.cells #[.slice (some ad0) h.length c0, .slice A1 s.length c1, .slice A2 p.length c2, .int .i64 b0, .int .i64 b1, .slice A3 js.length c3, .bool false, .bool false, .bool false, .bool false, .bool false, .bool false, .bool false, .bool false, .int .i64 b0, .int .i64 b1] 77 (0, 0))) ∧ Aside0 (Below w.heap.size w wr) ∧ Aside0 (Below w3.heap.size w3 wr)) (fun u _ => js.length - (intOf u).toNat)
     case atStart => exact ⟨0, Nat.zero_le _, rfl, ⟨rfl⟩, X0, HBX, ⟨below_alloc (Below.refl _ _) _⟩⟩
     case round =>
      obtain ⟨k, hk, rfl, HJ, Xr, HBr, H3r⟩ := hrel
      by_cases hlt : k < js.length
      ·have hlt' : (k : Int) < (js.length : Int) := by omega
       obtain ⟨ad3, rfl, a0, a1, a2, a3, a4⟩ := J_at (Kd.C_below HC3.out H3r.out) k hlt
       obtain ⟨hok, ho1, ho2, hne⟩ := HF.out.joins _ (List.getElem_mem hlt)
       have HSN := zh (all_snoc (fitJ (b0, b1) l) js k hlt)
       have HFA := zh (all_false (P := fitJ (b0, b1) l) hlt)
       generalize js[k] = j at a0 a1 a2 a3 a4 hok ho1 ho2 hne HSN HFA
       have hl1 : j.one < l.length := by have := HLEN.out; omega
       have hl2 : j.two < l.length := by have := HLEN.out; omega
       have hl1' : (j.one : Int) < (l.length : Int) := by omega
       have hl2' : (j.two : Int) < (l.length : Int) := by omega
       have HPB : Aside0 (∀ x, x < h.length → 0 ≤ l.getD x 0 ∧ l.getD x 0 ≤ 4000) := ⟨fun x hx => by
        have h9 := HA.out
        rw [HLEN.out, List.all_eq_true] at h9
        have h8 := h9 x (List.mem_range.2 hx)
        have h7 := HF.out.span x hx
        unfold inSpan at h8
        simp only [Bool.and_eq_true, decide_eq_true_eq] at h8
        omega⟩
       obtain ⟨qa, hqa⟩ : ∃ q, l.getD j.one 0 = q := ⟨_, rfl⟩
       obtain ⟨qb, hqb⟩ : ∃ q, l.getD j.two 0 = q := ⟨_, rfl⟩
       have hfj : fitJ (b0, b1) l j = fitB (b0, b1) j qa qb := by unfold fitJ; rw [hqa, hqb]
       have hba := HPB.out _ ho1
       have hbb := HPB.out _ ho2
       rw [hqa] at hba
       rw [hqb] at hbb
       have HFT : Aside0 (∀ W3, Below w.heap.size w W3 → Calls Tryd.prog 53 #[.agg #[.slice (some ad0) h.length c0, .slice A1 s.length c1, .slice A2 p.length c2, .int .i64 b0, .int .i64 b1, .slice (some ad3) js.length c3, .bool false, .bool false, .bool false, .bool false, .bool false, .bool false, .bool false, .bool false, .int .i64 b0, .int .i64 b1], .agg #[.int .i64 (j.one : Int), .int .i64 (j.two : Int), .int .i64 (kindV j), .int .i64 j.lo, .int .i64 j.hi], .int .i64 qa, .int .i64 qb] W3 fun e w' => e = .returned (.bool (fitB (b0, b1) j qa qb)) ∧ Below W3.heap.size W3 w') := ⟨fun W3 hW => fits_plain _ _ _ _ b0 b1 b0 b1 j _ _ W3 (HG.out.below hW) hok hba.1 hba.2 hbb.1 hbb.2⟩
       clear hok hba hbb
       cases hin : fitJ (b0, b1) l j with
       | false =>
        have HIN : Aside0 (fitB (b0, b1) j qa qb = false) := ⟨by rw [← hfj]; exact hin⟩
        have HRF : Aside0 (R = false) := ⟨by rw [← HR3.out]; exact HFA.out hin⟩
        clear hin hfj
        go_wp2
        have XD : Aside0 (((wr.alloc (.cells #[.int .i64 (j.one : Int), .int .i64 (j.two : Int), .int .i64 (kindV j), .int .i64 j.lo, .int .i64 j.hi] 80)).drew).heap[w3.heap.size]? = some (.cells #[.slice (some ad0) h.length c0, .slice A1 s.length c1, .slice A2 p.length c2, .int .i64 b0, .int .i64 b1, .slice (some ad3) js.length c3, .bool false, .bool false, .bool false, .bool false, .bool false, .bool false, .bool false, .bool false, .int .i64 b0, .int .i64 b1] 77 (0, 0))) := ⟨blk_alloc Xr.out _⟩
        have YD : Aside0 (((wr.alloc (.cells #[.int .i64 (j.one : Int), .int .i64 (j.two : Int), .int .i64 (kindV j), .int .i64 j.lo, .int .i64 j.hi] 80)).drew).heap[wr.heap.size]? = some (.cells #[.int .i64 (j.one : Int), .int .i64 (j.two : Int), .int .i64 (kindV j), .int .i64 j.lo, .int .i64 j.hi] 80 (0, 0))) := ⟨alloc_at wr _ _ rfl⟩
        have HBD : Aside0 (Below w.heap.size w ((wr.alloc (.cells #[.int .i64 (j.one : Int), .int .i64 (j.two : Int), .int .i64 (kindV j), .int .i64 j.lo, .int .i64 j.hi] 80)).drew)) := ⟨below_drew1 (below_alloc HBr.out _)⟩
        have H3D : Aside0 (Below w3.heap.size w3 ((wr.alloc (.cells #[.int .i64 (j.one : Int), .int .i64 (j.two : Int), .int .i64 (kindV j), .int .i64 j.lo, .int .i64 j.hi] 80)).drew)) := ⟨below_drew1 (below_alloc H3r.out _)⟩
        refine wp_region_still_tail 12 zk zk ?_
        simp only [List.take_succ_cons, List.take_zero, List.drop_succ_cons, List.drop_zero]
        change wpStill Tryd.prog _ (wr.alloc (.cells #[.int .i64 (j.one : Int), .int .i64 (j.two : Int), .int .i64 (kindV j), .int .i64 j.lo, .int .i64 j.hi] 80)).drew _ _ _
        obtain ⟨W2, hW2⟩ : ∃ W2, (wr.alloc (.cells #[.int .i64 (j.one : Int), .int .i64 (j.two : Int), .int .i64 (kindV j), .int .i64 j.lo, .int .i64 j.hi] 80)).drew = W2 := ⟨_, rfl⟩
        rw [hW2] at XD YD HBD H3D ⊢
        have HW2 := zh hW2
        clear hW2 a0 a1 a2 a3 a4
        obtain ⟨x0, x1, x2, x3, x4, x5, x6, x7, x8, x9, x10, x11, x12, x13, x14, x15⟩ := cells16 XD.out
        obtain ⟨y0, y1, y2, y3, y4⟩ := cells5 YD.out
        obtain ⟨ad4, rfl, ca⟩ := C_int_at (Kd.C_below DL.out HBD.out) j.one hl1
        obtain ⟨ad_, he_, cb⟩ := C_int_at (Kd.C_below DL.out HBD.out) j.two hl2
        injection he_ with he_
        subst he_
        rw [hqa] at ca
        rw [hqb] at cb
        clear hqa hqb
        repeat still_step
        refine wpStill_nil ?_
        change wpList _ _ _ _ _ (wr.alloc (.cells #[.int .i64 (j.one : Int), .int .i64 (j.two : Int), .int .i64 (kindV j), .int .i64 j.lo, .int .i64 j.hi] 80)).drew
        rw [HW2.out]
        clear HW2
        go_wp2_with (go_at_call 53; (with_reducible refine (HFT.out _ HBD.out).mono ?_); rintro e w6 ⟨rfl, hb⟩; rw [HIN.out]; have HB6 := zh (HBD.out.trans (hb.mono HBD.out.size)); have H36 := zh (H3D.out.trans (hb.mono H3D.out.size)); have X6 := zh (blk_below XD.out hb); clear hb)
        go_ret2
        exact ⟨by rw [HRF.out]; rfl, HB6.out⟩
       | true =>
        have HIN : Aside0 (fitB (b0, b1) j qa qb = true) := ⟨by rw [← hfj]; exact hin⟩
        have HJ2 : Aside0 ((js.take (k + 1)).all (fitJ (b0, b1) l) = true) := ⟨by rw [HSN.out, HJ.out, hin]; rfl⟩
        clear hin hfj
        go_wp2
        have XD : Aside0 (((wr.alloc (.cells #[.int .i64 (j.one : Int), .int .i64 (j.two : Int), .int .i64 (kindV j), .int .i64 j.lo, .int .i64 j.hi] 80)).drew).heap[w3.heap.size]? = some (.cells #[.slice (some ad0) h.length c0, .slice A1 s.length c1, .slice A2 p.length c2, .int .i64 b0, .int .i64 b1, .slice (some ad3) js.length c3, .bool false, .bool false, .bool false, .bool false, .bool false, .bool false, .bool false, .bool false, .int .i64 b0, .int .i64 b1] 77 (0, 0))) := ⟨blk_alloc Xr.out _⟩
        have YD : Aside0 (((wr.alloc (.cells #[.int .i64 (j.one : Int), .int .i64 (j.two : Int), .int .i64 (kindV j), .int .i64 j.lo, .int .i64 j.hi] 80)).drew).heap[wr.heap.size]? = some (.cells #[.int .i64 (j.one : Int), .int .i64 (j.two : Int), .int .i64 (kindV j), .int .i64 j.lo, .int .i64 j.hi] 80 (0, 0))) := ⟨alloc_at wr _ _ rfl⟩
        have HBD : Aside0 (Below w.heap.size w ((wr.alloc (.cells #[.int .i64 (j.one : Int), .int .i64 (j.two : Int), .int .i64 (kindV j), .int .i64 j.lo, .int .i64 j.hi] 80)).drew)) := ⟨below_drew1 (below_alloc HBr.out _)⟩
        have H3D : Aside0 (Below w3.heap.size w3 ((wr.alloc (.cells #[.int .i64 (j.one : Int), .int .i64 (j.two : Int), .int .i64 (kindV j), .int .i64 j.lo, .int .i64 j.hi] 80)).drew)) := ⟨below_drew1 (below_alloc H3r.out _)⟩
        refine wp_region_still_tail 12 zk zk ?_
        simp only [List.take_succ_cons, List.take_zero, List.drop_succ_cons, List.drop_zero]
        change wpStill Tryd.prog _ (wr.alloc (.cells #[.int .i64 (j.one : Int), .int .i64 (j.two : Int), .int .i64 (kindV j), .int .i64 j.lo, .int .i64 j.hi] 80)).drew _ _ _
        obtain ⟨W2, hW2⟩ : ∃ W2, (wr.alloc (.cells #[.int .i64 (j.one : Int), .int .i64 (j.two : Int), .int .i64 (kindV j), .int .i64 j.lo, .int .i64 j.hi] 80)).drew = W2 := ⟨_, rfl⟩
        rw [hW2] at XD YD HBD H3D ⊢
        have HW2 := zh hW2
        clear hW2 a0 a1 a2 a3 a4
        obtain ⟨x0, x1, x2, x3, x4, x5, x6, x7, x8, x9, x10, x11, x12, x13, x14, x15⟩ := cells16 XD.out
        obtain ⟨y0, y1, y2, y3, y4⟩ := cells5 YD.out
        obtain ⟨ad4, rfl, ca⟩ := C_int_at (Kd.C_below DL.out HBD.out) j.one hl1
        obtain ⟨ad_, he_, cb⟩ := C_int_at (Kd.C_below DL.out HBD.out) j.two hl2
        injection he_ with he_
        subst he_
        rw [hqa] at ca
        rw [hqb] at cb
        clear hqa hqb
        repeat still_step
        refine wpStill_nil ?_
        change wpList _ _ _ _ _ (wr.alloc (.cells #[.int .i64 (j.one : Int), .int .i64 (j.two : Int), .int .i64 (kindV j), .int .i64 j.lo, .int .i64 j.hi] 80)).drew
        rw [HW2.out]
        clear HW2
        go_wp2_with (go_at_call 53; (with_reducible refine (HFT.out _ HBD.out).mono ?_); rintro e w6 ⟨rfl, hb⟩; rw [HIN.out]; have HB6 := zh (HBD.out.trans (hb.mono HBD.out.size)); have H36 := zh (H3D.out.trans (hb.mono H3D.out.size)); have X6 := zh (blk_below XD.out hb); clear hb)
        go_roundw
        case rel => exact ⟨k + 1, by omega, by go_num, HJ2, X6, HB6, H36⟩
        case measure => simp [intOf]; omega
      ·obtain rfl : k = js.length := by omega
       have hlt' : ¬ ((js.length : Nat) : Int) < (js.length : Int) := by omega
       have HRT : Aside0 (R = true) := ⟨by rw [← HR3.out]; have h9 := HJ.out; rw [List.take_length] at h9; exact h9⟩
       go_wp2
       go_ret2
       exact ⟨by rw [HRT.out]; rfl, HBr.out⟩
  ·have hlen' : ((l.length : Int) != (h.length : Int)) = true := bne_iff_ne.2 (fun e => hlen (by omega))
   have HRF : Aside0 (R = false) := ⟨by rw [← HR.out]; unfold isT; rw [decide_eq_false hlen]; rfl⟩
   clear hlen
   go_enter Tryd.func16, Tryd.ntmps16
   go_wp2_with (go_at_call 18; refine HCK.out.mono ?_; rintro e w1 ⟨rfl, hb⟩; have HB1 := zh (HB0.out.trans (hb.mono (by simp))); have C1 := zh (blk_below B0.out hb); clear hb; obtain ⟨z0, z1, z2, z3, z4⟩ := cells5 C1.out)
   go_ret2
   exact ⟨by rw [HRF.out]; rfl, HB1.out⟩
 ·have HE : Aside0 (isTB h s p b0 b1 l = false) := ⟨by unfold isTB; rw [hck, decide_eq_false hz]; rfl⟩
  obtain rfl : ck = 10 := by rw [← hck]; exact checkT_ne (by rw [hck]; exact hz)
  rw [HE.out, hck]
  clear hz hck HE
  go_enter Tryd.func16, Tryd.ntmps16
  go_wp2_with (go_at_call 18; refine HCK.out.mono ?_; rintro e w1 ⟨rfl, hb⟩; have HB1 := zh (HB0.out.trans (hb.mono (by simp))); clear hb)
  go_ret2
  exact ⟨rfl, HB1.out⟩
end Go.Proofs.YtgehkojccmkggaaDoor.K
end
section
namespace Go.Proofs.YtgehkojccmkggaaDoor.K
open Go.RowKit Go.Shelf Go.Proofs.YtgehkojccmkggaaDoorW.PrintWords Go.Proofs.YtgehkojccmkggaaDoorW.PrintLast Go.Proofs.YtgehkojccmkggaaDoorW.PrintMore Go.Proofs.YtgehkojccmkggaaDoor.H Tune
set_option linter.unusedVariables false
set_option linter.unusedSimpArgs false
attribute [local go_sem] Oper.semAt_some
def allTo (P : Int → Bool) (lo : Int) (n : Nat) : Bool := (List.range n).all fun d => P (lo + (d : Int))
theorem allTo_succ (P : Int → Bool) (lo : Int) (n : Nat) : allTo P lo (n + 1) = (allTo P lo n && P (lo + (n : Int))) := by unfold allTo; rw [range_snoc]
theorem irange_all (P : Int → Bool) (lo hi : Int) : (irange lo hi).all P = allTo P lo (hi + 1 - lo).toNat := by
 unfold irange allTo
 rw [List.all_map]
 rfl
def sureJ (h : List S26) (b : Int × Int) (j : J) : Bool := (irange (loH h j.one) (hiH h j.one)).all fun p => (irange (loH h j.two) (hiH h j.two)).all fun q => fitB b j p q
def sureB (h : List S26) (s : List S61) (p : List S48) (b0 b1 : Int) : Bool := decide (checkT h s p b0 b1 = 0) && (jsOf h s p b0 b1).all (sureJ h (b0, b1))
theorem set2 {w : World} {g : Nat} {t : TypeId} {a0 a1 : Value} (h : w.heap[g]? = some (.cells #[a0, a1] t (0, 0))) (u0 u1 : Value) : ((w.setCell ⟨g, 0, none⟩ u0).setCell ⟨g, 1, none⟩ u1).heap[g]? = some (.cells #[u0, u1] t (0, 0)) :=
 blk_set (blk_set h 0 u0) 1 u1
def fSure.T8 : Bool × List (List Nat × List Nat) := (true, [([], []), ([0], [0]), ([], []), ([2], [2]), ([1, 3], [1, 3]), ([4], [4]), ([], []), ([6], [6]), ([], []), ([8], [8]), ([7, 9], [7, 9]), ([10], [10]), ([], []), ([], []), ([12, 5, 0, 1, 2, 3, 4, 5, 12, 13], [5, 12]), ([13, 11, 14, 0, 1, 2, 3, 4, 5, 6, 7, 8, 9, 10, 11, 12, 13, 14], [11, 13])])
def fSure.B8 : List Nat := [0, 1, 0, 4, 15, 31, 0, 64, 0, 256, 960, 1984, 0, 0, 12351, 32767]
theorem fSure.tab8 : rtab .any (opsOf Tryd.f31 8) = fSure.T8 := by kernel_rfl
theorem fSure.bits8 : waitsOk fSure.T8.2 fSure.B8 = true := by kernel_rfl
set_option maxRecDepth 100000 in
set_option maxHeartbeats 8000000 in
theorem sure_calls (A0 : Option Addr) (c0 : Nat) (h : List S26) (A1 : Option Addr) (c1 : Nat) (s : List S61) (A2 : Option Addr) (c2 : Nat) (p : List S48) (b0 b1 : Int) (w : World) (hsm : small h s p = true) (hG : Glob w)
  (h0 : Kd.C k26 w A0 h.length h) (hc0 : h.length ≤ c0) (h1 : Kd.C k61 w A1 s.length s) (hc1 : s.length ≤ c1) (h2 : Kd.C k48 w A2 p.length p) (hc2 : p.length ≤ c2) :
  Calls Tryd.prog 31 #[.agg #[.slice A0 h.length c0, .slice A1 s.length c1, .slice A2 p.length c2, .int .i64 b0, .int .i64 b1]] w fun e w' => e = .returned (.tuple #[.bool (sureB h s p b0 b1), .int .i64 (checkT h s p b0 b1)]) ∧ Below w.heap.size w w' := by
 have hu77 := Tryd.underlying77
 have hu80 := Tryd.underlying80
 have hu28 := Tryd.underlying28
 have hu26 := Tryd.underlying26
 have HB0 := zh (below_alloc (Below.refl w.heap.size w) (.cells #[.slice A0 h.length c0, .slice A1 s.length c1, .slice A2 p.length c2, .int .i64 b0, .int .i64 b1] 28))
 have B0 := zh (alloc_at w (.cells #[.slice A0 h.length c0, .slice A1 s.length c1, .slice A2 p.length c2, .int .i64 b0, .int .i64 b1] 28) w.heap.size rfl)
 have D0 := zh h0
 have D1 := zh h1
 have D2 := zh h2
 have HG := zh hG
 have HSM := zh hsm
 have HCK := zh (check_calls A0 c0 h A1 c1 s A2 c2 p b0 b1 _ hsm (Kd.C_below h0 HB0.out) hc0 (Kd.C_below h1 HB0.out) hc1 (Kd.C_below h2 HB0.out) hc2)
 clear h0 h1 h2 hG hsm
 obtain ⟨ck, hck⟩ : ∃ ck, checkT h s p b0 b1 = ck := ⟨_, rfl⟩
 rw [hck] at HCK
 by_cases hz : ck = 0
 ·obtain rfl := hz
  obtain ⟨F, hjm, _, _, _⟩ := fine_of hck
  have HF := zh F
  obtain ⟨ad0, rfl⟩ : ∃ ad, A0 = some ad := by obtain ⟨ad, e, _⟩ := H_at D0.out 0 (by have := F.some; omega); exact ⟨ad, e⟩
  obtain ⟨R, hR⟩ : ∃ R, sureB h s p b0 b1 = R := ⟨_, rfl⟩
  have HR : Aside0 ((jsOf h s p b0 b1).all (sureJ h (b0, b1)) = R) := ⟨by rw [← hR]; unfold sureB; rw [hck]; rfl⟩
  rw [hR, hck]
  have hn8 := F.few
  obtain ⟨js, hjs⟩ : ∃ js, jsOf h s p b0 b1 = js := ⟨_, rfl⟩
  rw [hjs] at HR HF hjm
  clear hR hck F hjs
  have HOP : Aside0 (∀ W, Below w.heap.size w W → Calls Tryd.prog 52 #[.agg #[.slice (some ad0) h.length c0, .slice A1 s.length c1, .slice A2 p.length c2, .int .i64 b0, .int .i64 b1], .slice none 0 0] W fun e w' => ∃ A3 c3, e = .returned (.agg #[.slice (some ad0) h.length c0, .slice A1 s.length c1, .slice A2 p.length c2, .int .i64 b0, .int .i64 b1, .slice A3 js.length c3, .bool false, .bool false, .bool false, .bool false, .bool false, .bool false, .bool false, .bool false, .int .i64 b0, .int .i64 b1]) ∧ Kd.F k80 w' (fun k => W.heap.size ≤ k) A3 js.length (js.map ofJ) ∧ Below W.heap.size W w') := ⟨fun W hW => by
   have h9 := opened_nil (some ad0) c0 h A1 c1 s A2 c2 p b0 b1 W HSM.out (Kd.C_below D0.out hW) hc0 (Kd.C_below D1.out hW) hc1 (Kd.C_below D2.out hW) hc2
   rw [hjm, List.length_map] at h9
   exact h9⟩
  clear hjm
  go_enter Tryd.func31, Tryd.ntmps31
  go_wp2_with (first | (go_at_call 18; refine HCK.out.mono ?_; rintro e w1 ⟨rfl, hb⟩; have HB1 := zh (HB0.out.trans (hb.mono (by simp))); have C1 := zh (blk_below B0.out hb); clear hb; obtain ⟨z0, z1, z2, z3, z4⟩ := cells5 C1.out) | (go_at_call 52; (with_reducible refine (HOP.out _ HB1.out).mono ?_); rintro e w3 ⟨A3, c3, rfl, hF, hb⟩; have HC3 := zh (Kd.F_now hF); have HB3 := zh (HB1.out.trans (hb.mono HB1.out.size)); have B3 := zh (blk_alloc (blk_below C1.out hb) (.cells #[.slice (some ad0) h.length c0, .slice A1 s.length c1, .slice A2 p.length c2, .int .i64 b0, .int .i64 b1, .slice A3 js.length c3, .bool false, .bool false, .bool false, .bool false, .bool false, .bool false, .bool false, .bool false, .int .i64 b0, .int .i64 b1] 77)); clear hF hb))
  have X0 : Aside0 ((w3.alloc (.cells #[.slice (some ad0) h.length c0, .slice A1 s.length c1, .slice A2 p.length c2, .int .i64 b0, .int .i64 b1, .slice A3 js.length c3, .bool false, .bool false, .bool false, .bool false, .bool false, .bool false, .bool false, .bool false, .int .i64 b0, .int .i64 b1] 77)).heap[w3.heap.size]? = some (.cells #[.slice (some ad0) h.length c0, .slice A1 s.length c1, .slice A2 p.length c2, .int .i64 b0, .int .i64 b1, .slice A3 js.length c3, .bool false, .bool false, .bool false, .bool false, .bool false, .bool false, .bool false, .bool false, .int .i64 b0, .int .i64 b1] 77 (0, 0))) := ⟨alloc_at _ _ _ rfl⟩
  have HBX := zh (below_alloc HB3.out (.cells #[.slice (some ad0) h.length c0, .slice A1 s.length c1, .slice A2 p.length c2, .int .i64 b0, .int .i64 b1, .slice A3 js.length c3, .bool false, .bool false, .bool false, .bool false, .bool false, .bool false, .bool false, .bool false, .int .i64 b0, .int .i64 b1] 77))
  have hjlm : js.length ≤ 9223372036854775807 := HC3.out.2.1
  clear z0 z1 z2 z3 z4
  go_loopw [22] (fun u wr => ∃ k : Nat, k ≤ js.length ∧ u = .int .i64 k ∧ Aside0 ((js.take k).all (sureJ h (b0, b1)) = true) ∧ Aside0 (wr.heap[w3.heap.size]? = some (.cells #[.slice (some ad0) h.length c0, .slice A1 s.length c1, .slice A2 p.length c2, .int .i64 b0, .int .i64 b1, .slice A3 js.length c3, .bool false, .bool false, .bool false, .bool false, .bool false, .bool false, .bool false, .bool false, .int .i64 b0, .int .i64 b1] 77 (0, 0))) ∧ Aside0 (wr.heap[w.heap.size]? = some (.cells #[.slice (some ad0) h.length c0, .slice A1 s.length c1, .slice A2 p.length c2, .int .i64 b0, .int .i64 b1] 28 (0, 0))) ∧ Aside0 (Below w.heap.size w wr) ∧ Aside0 (Below w3.heap.size w3 wr)) (fun u _ => js.length - (intOf u).toNat)
  case atStart => exact ⟨0, Nat.zero_le _, rfl, ⟨rfl⟩, X0, B3, HBX, ⟨below_alloc (Below.refl _ _) _⟩⟩
  case round =>
   obtain ⟨k, hk, rfl, HJ, Xr, Br, HBr, H3r⟩ := hrel
   by_cases hlt : k < js.length
   ·have hlt' : (k : Int) < (js.length : Int) := by omega
    obtain ⟨ad3, rfl, a0, a1, a2, a3, a4⟩ := J_at (Kd.C_below HC3.out H3r.out) k hlt
    obtain ⟨hok, ho1, ho2, hne⟩ := HF.out.joins _ (List.getElem_mem hlt)
    have HSN := zh (all_snoc (sureJ h (b0, b1)) js k hlt)
    have HFA := zh (all_false (P := sureJ h (b0, b1)) hlt)
    generalize js[k] = j at a0 a1 a2 a3 a4 hok ho1 ho2 hne HSN HFA
    have HOK := zh hok
    have hi1 : (j.one : Int) < (h.length : Int) := by omega
    have hi2 : (j.two : Int) < (h.length : Int) := by omega
    have sp1 := HF.out.span j.one ho1
    have sp2 := HF.out.span j.two ho2
    obtain ⟨alo, halo⟩ : ∃ x, loH h j.one = x := ⟨_, rfl⟩
    obtain ⟨ahi, hahi⟩ : ∃ x, hiH h j.one = x := ⟨_, rfl⟩
    obtain ⟨blo, hblo⟩ : ∃ x, loH h j.two = x := ⟨_, rfl⟩
    obtain ⟨bhi, hbhi⟩ : ∃ x, hiH h j.two = x := ⟨_, rfl⟩
    have hsj : sureJ h (b0, b1) j = (irange alo ahi).all fun p => (irange blo bhi).all fun q => fitB (b0, b1) j p q := by unfold sureJ; rw [halo, hahi, hblo, hbhi]
    obtain ⟨na, hna⟩ : ∃ n : Nat, ahi + 1 - alo = n := ⟨(ahi + 1 - alo).toNat, by omega⟩
    obtain ⟨nb, hnb⟩ : ∃ n : Nat, bhi + 1 - blo = n := ⟨(bhi + 1 - blo).toNat, by omega⟩
    rw [irange_all, hna, Int.toNat_natCast] at hsj
    rw [halo, hahi] at sp1
    rw [hblo, hbhi] at sp2
    have HSJ : Aside0 (sureJ h (b0, b1) j = allTo (fun p => allTo (fun q => fitB (b0, b1) j p q) blo nb) alo na) := ⟨by rw [hsj]; congr 1; funext p; rw [irange_all, hnb, Int.toNat_natCast]⟩
    clear hsj hok
    go_upto_region 8 with (fail)
    have X0 := zh (blk_alloc Xr.out (.cells #[.int .i64 (j.one : Int), .int .i64 (j.two : Int), .int .i64 (kindV j), .int .i64 j.lo, .int .i64 j.hi] 80))
    have B0 := zh (blk_alloc Br.out (.cells #[.int .i64 (j.one : Int), .int .i64 (j.two : Int), .int .i64 (kindV j), .int .i64 j.lo, .int .i64 j.hi] 80))
    have Y0 := zh (alloc_at wr (.cells #[.int .i64 (j.one : Int), .int .i64 (j.two : Int), .int .i64 (kindV j), .int .i64 j.lo, .int .i64 j.hi] 80) wr.heap.size rfl)
    have HBD := zh (below_alloc HBr.out (.cells #[.int .i64 (j.one : Int), .int .i64 (j.two : Int), .int .i64 (kindV j), .int .i64 j.lo, .int .i64 j.hi] 80))
    have H3D := zh (below_alloc H3r.out (.cells #[.int .i64 (j.one : Int), .int .i64 (j.two : Int), .int .i64 (kindV j), .int .i64 j.lo, .int .i64 j.hi] 80))
    obtain ⟨W1, hW1⟩ : ∃ W1, wr.alloc (.cells #[.int .i64 (j.one : Int), .int .i64 (j.two : Int), .int .i64 (kindV j), .int .i64 j.lo, .int .i64 j.hi] 80) = W1 := ⟨_, rfl⟩
    simp only [hW1] at X0 B0 Y0 HBD H3D ⊢
    obtain ⟨gy, hgy⟩ : ∃ gy, wr.heap.size = gy := ⟨_, rfl⟩
    simp only [hgy] at Y0 ⊢
    clear hW1 hgy HBr H3r a0 a1 a2 a3 a4
    replace X0 := zh (show W1.drew.heap[w3.heap.size]? = _ from X0.out)
    replace B0 := zh (show W1.drew.heap[w.heap.size]? = _ from B0.out)
    replace Y0 := zh (show W1.drew.heap[gy]? = _ from Y0.out)
    replace HBD := zh (below_drew1 HBD.out)
    replace H3D := zh (below_drew1 H3D.out)
    have HA1 : Aside0 (∀ W, Below W1.drew.heap.size W1.drew W → W.cell? (ad0.add (j.one * 2)) = some (.int .i64 alo) ∧ W.cell? ⟨(ad0.add (j.one * 2)).block, (ad0.add (j.one * 2)).off + 1, none⟩ = some (.int .i64 ahi)) := ⟨fun W hW => by
     obtain ⟨ad_, he_, g0, g1⟩ := H_at (Kd.C_below (Kd.C_below D0.out HBD.out) hW) j.one ho1
     injection he_ with he_
     subst he_
     rw [halo] at g0
     rw [hahi] at g1
     exact ⟨g0, g1⟩⟩
    have HA2 : Aside0 (∀ W, Below W1.drew.heap.size W1.drew W → W.cell? (ad0.add (j.two * 2)) = some (.int .i64 blo) ∧ W.cell? ⟨(ad0.add (j.two * 2)).block, (ad0.add (j.two * 2)).off + 1, none⟩ = some (.int .i64 bhi)) := ⟨fun W hW => by
     obtain ⟨ad_, he_, g0, g1⟩ := H_at (Kd.C_below (Kd.C_below D0.out HBD.out) hW) j.two ho2
     injection he_ with he_
     subst he_
     rw [hblo] at g0
     rw [hbhi] at g1
     exact ⟨g0, g1⟩⟩
    clear halo hahi hblo hbhi
    go_cut [8, 9] (fun u8 u9 wc => ∃ ga gb, u8 = .pointer (some ⟨ga, 0, none⟩) ∧ u9 = .pointer (some ⟨gb, 0, none⟩) ∧ Aside0 (wc.heap[ga]? = some (.cells #[.int .i64 alo, .int .i64 ahi] 26 (0, 0))) ∧ Aside0 (wc.heap[gb]? = some (.cells #[.int .i64 blo, .int .i64 bhi] 26 (0, 0))) ∧ Aside0 (wc.heap[gy]? = some (.cells #[.int .i64 (j.one : Int), .int .i64 (j.two : Int), .int .i64 (kindV j), .int .i64 j.lo, .int .i64 j.hi] 80 (0, 0))) ∧ Aside0 (wc.heap[w3.heap.size]? = some (.cells #[.slice (some ad0) h.length c0, .slice A1 s.length c1, .slice A2 p.length c2, .int .i64 b0, .int .i64 b1, .slice (some ad3) js.length c3, .bool false, .bool false, .bool false, .bool false, .bool false, .bool false, .bool false, .bool false, .int .i64 b0, .int .i64 b1] 77 (0, 0))) ∧ Aside0 (wc.heap[w.heap.size]? = some (.cells #[.slice (some ad0) h.length c0, .slice A1 s.length c1, .slice A2 p.length c2, .int .i64 b0, .int .i64 b1] 28 (0, 0))) ∧ Aside0 (Below w.heap.size w wc) ∧ Aside0 (Below w3.heap.size w3 wc))
    case first =>
     have BL0 := zh (Below.refl W1.drew.heap.size W1.drew)
     refine start_ (n := 16) (S := fun w' => w'.cell? ⟨w.heap.size, 0, none⟩ = some (.slice (some ad0) h.length c0) ∧ w'.cell? ⟨gy, 0, none⟩ = some (.int .i64 (j.one : Int)) ∧ w'.cell? ⟨gy, 1, none⟩ = some (.int .i64 (j.two : Int)) ∧ w'.cell? (ad0.add (j.one * 2)) = some (.int .i64 alo) ∧ w'.cell? ⟨(ad0.add (j.one * 2)).block, (ad0.add (j.one * 2)).off + 1, none⟩ = some (.int .i64 ahi) ∧ w'.cell? (ad0.add (j.two * 2)) = some (.int .i64 blo) ∧ w'.cell? ⟨(ad0.add (j.two * 2)).block, (ad0.add (j.two * 2)).off + 1, none⟩ = some (.int .i64 bhi)) (ds := []) (Array.replicate 16 false) zk rfl rfl ⟨(blk_cell (blk_below B0.out BL0.out) 0).trans rfl, (blk_cell (blk_below Y0.out BL0.out) 0).trans rfl, (blk_cell (blk_below Y0.out BL0.out) 1).trans rfl, (HA1.out _ BL0.out).1, (HA1.out _ BL0.out).2, (HA2.out _ BL0.out).1, (HA2.out _ BL0.out).2⟩ (fun hHeld => ?_)
     refine with_tabW fSure.tab8 fSure.bits8 (fun HT_ HW_ => ?_)
     generalize W1.drew = v0 at B0 Y0 X0 HBD H3D HA1 HA2 BL0 hHeld ⊢
     refine zu 0 ?_
     refine zu 2 ?_
     refine zu 6 ?_
     refine zu 8 ?_
     refine zt 1 ?_
     refine zt 3 ?_
     refine zu 4 ?_
     refine zt 5 ?_
     refine zt 7 ?_
     refine zt 9 ?_
     refine zu 10 ?_
     refine zt 11 ?_
     refine two_ (i := 12) (j := 13) (Ni := some 8) (Nj := some 9) #[true, true, true, true, true, true, true, true, true, true, true, true, true, false, false, false] #[true, true, true, true, true, true, true, true, true, true, true, true, false, true, false, false] rfl rfl rfl rfl (two_of HT_.out zk) (by decide) (by decide) (fun K hK => ?_) (fun K hK => ?_)
     ·refine value_ (v := .pointer (some ⟨v0.heap.size, 0, none⟩)) (w1 := v0.alloc (.cells #[.int .i64 0, .int .i64 0] 26)) (by rfl) rfl ?hr0 ?_
      (case hr0 => first | (go_simp; done) | (go_simp; rfl))
      have BL1 := zh (below_alloc BL0.out (.cells #[.int .i64 0, .int .i64 0] 26))
      have G12_1 := zh (alloc_at v0 (.cells #[.int .i64 0, .int .i64 0] 26) v0.heap.size rfl)
      have hs0 := BL0.out.size
      generalize v0.alloc (.cells #[.int .i64 0, .int .i64 0] 26) = v1 at BL1 G12_1 ⊢
      refine hK.out _ _ ⟨(blk_cell (blk_below B0.out BL1.out) 0).trans rfl, (blk_cell (blk_below Y0.out BL1.out) 0).trans rfl, (blk_cell (blk_below Y0.out BL1.out) 1).trans rfl, (HA1.out _ BL1.out).1, (HA1.out _ BL1.out).2, (HA2.out _ BL1.out).1, (HA2.out _ BL1.out).2⟩ (fun hHeld => ?_)
      clear hK K
      refine zr 8 _ ?_
      refine zo 13 (fun K hK => ?_)
      refine value_ (v := .pointer (some ⟨v1.heap.size, 0, none⟩)) (w1 := v1.alloc (.cells #[.int .i64 0, .int .i64 0] 26)) (by rfl) rfl ?hr1 ?_
      (case hr1 => first | (go_simp; done) | (go_simp; rfl))
      have BL2 := zh (below_alloc BL1.out (.cells #[.int .i64 0, .int .i64 0] 26))
      have G12_2 := zh (blk_alloc G12_1.out (.cells #[.int .i64 0, .int .i64 0] 26))
      have G13_2 := zh (alloc_at v1 (.cells #[.int .i64 0, .int .i64 0] 26) v1.heap.size rfl)
      have hs1 := BL1.out.size
      have hlt12_13 := blk_lt G12_1.out
      generalize v1.alloc (.cells #[.int .i64 0, .int .i64 0] 26) = v2 at BL2 G12_2 G13_2 ⊢
      refine hK.out _ _ ⟨(blk_cell (blk_below B0.out BL2.out) 0).trans rfl, (blk_cell (blk_below Y0.out BL2.out) 0).trans rfl, (blk_cell (blk_below Y0.out BL2.out) 1).trans rfl, (HA1.out _ BL2.out).1, (HA1.out _ BL2.out).2, (HA2.out _ BL2.out).1, (HA2.out _ BL2.out).2⟩ (fun hHeld => ?_)
      clear hK K
      refine zr 9 _ ?_
      refine zp 14 (fun K hK => ?_)
      have c0_ : v2.cell? ⟨v0.heap.size, 0, none⟩ = some (.int .i64 0) := vb G12_2 0
      have d0_ : v2.frozen? ⟨v0.heap.size, 0, none⟩ = false := blk_frozen G12_2.out 0
      have c1_ : v2.cell? ⟨v0.heap.size, 1, none⟩ = some (.int .i64 0) := vb G12_2 1
      have d1_ : v2.frozen? ⟨v0.heap.size, 1, none⟩ = false := blk_frozen G12_2.out 1
      refine skip_ (w1 := ((v2.setCell ⟨v0.heap.size, 0, none⟩ (.int .i64 alo)).setCell ⟨v0.heap.size, 1, none⟩ (.int .i64 ahi))) (by rfl) rfl ?hs2_ ?_
      (case hs2_ => first | (go_simp; done) | (go_simp; rfl))
      clear c0_ d0_ c1_ d1_
      have hs2 := BL2.out.size
      have BL3 : Aside0 (Below v0.heap.size v0 ((v2.setCell ⟨v0.heap.size, 0, none⟩ (.int .i64 alo)).setCell ⟨v0.heap.size, 1, none⟩ (.int .i64 ahi))) := ⟨(Below.setCell (Below.setCell BL2.out dQ4 _) dQ4 _)⟩
      have G12_3 : Aside0 (((v2.setCell ⟨v0.heap.size, 0, none⟩ (.int .i64 alo)).setCell ⟨v0.heap.size, 1, none⟩ (.int .i64 ahi)).heap[v0.heap.size]? = some (.cells #[.int .i64 alo, .int .i64 ahi] 26 (0, 0))) := ⟨set2 G12_2.out _ _⟩
      have G13_3 := zh (blk_far (blk_far G13_2.out (p := ⟨v0.heap.size, 0, none⟩) (by show v1.heap.size ≠ v0.heap.size; omega) (.int .i64 alo)) (p := ⟨v0.heap.size, 1, none⟩) (by show v1.heap.size ≠ v0.heap.size; omega) (.int .i64 ahi))
      generalize ((v2.setCell ⟨v0.heap.size, 0, none⟩ (.int .i64 alo)).setCell ⟨v0.heap.size, 1, none⟩ (.int .i64 ahi)) = v3 at BL3 G12_3 G13_3 ⊢
      refine hK.out _ _ ⟨(blk_cell (blk_below B0.out BL3.out) 0).trans rfl, (blk_cell (blk_below Y0.out BL3.out) 0).trans rfl, (blk_cell (blk_below Y0.out BL3.out) 1).trans rfl, (HA1.out _ BL3.out).1, (HA1.out _ BL3.out).2, (HA2.out _ BL3.out).1, (HA2.out _ BL3.out).2⟩ (fun hHeld => ?_)
      clear hK K
      refine zp 15 (fun K hK => ?_)
      have c0_ : v3.cell? ⟨v1.heap.size, 0, none⟩ = some (.int .i64 0) := vb G13_3 0
      have d0_ : v3.frozen? ⟨v1.heap.size, 0, none⟩ = false := blk_frozen G13_3.out 0
      have c1_ : v3.cell? ⟨v1.heap.size, 1, none⟩ = some (.int .i64 0) := vb G13_3 1
      have d1_ : v3.frozen? ⟨v1.heap.size, 1, none⟩ = false := blk_frozen G13_3.out 1
      refine skip_ (w1 := ((v3.setCell ⟨v1.heap.size, 0, none⟩ (.int .i64 blo)).setCell ⟨v1.heap.size, 1, none⟩ (.int .i64 bhi))) (by rfl) rfl ?hs3_ ?_
      (case hs3_ => first | (go_simp; done) | (go_simp; rfl))
      clear c0_ d0_ c1_ d1_
      have hs3 := BL3.out.size
      have BL4 : Aside0 (Below v0.heap.size v0 ((v3.setCell ⟨v1.heap.size, 0, none⟩ (.int .i64 blo)).setCell ⟨v1.heap.size, 1, none⟩ (.int .i64 bhi))) := ⟨(Below.setCell (Below.setCell BL3.out dQ3 _) dQ3 _)⟩
      have G13_4 : Aside0 (((v3.setCell ⟨v1.heap.size, 0, none⟩ (.int .i64 blo)).setCell ⟨v1.heap.size, 1, none⟩ (.int .i64 bhi)).heap[v1.heap.size]? = some (.cells #[.int .i64 blo, .int .i64 bhi] 26 (0, 0))) := ⟨set2 G13_3.out _ _⟩
      have G12_4 := zh (blk_far (blk_far G12_3.out (p := ⟨v1.heap.size, 0, none⟩) (by show v0.heap.size ≠ v1.heap.size; omega) (.int .i64 blo)) (p := ⟨v1.heap.size, 1, none⟩) (by show v0.heap.size ≠ v1.heap.size; omega) (.int .i64 bhi))
      generalize ((v3.setCell ⟨v1.heap.size, 0, none⟩ (.int .i64 blo)).setCell ⟨v1.heap.size, 1, none⟩ (.int .i64 bhi)) = v4 at BL4 G12_4 G13_4 ⊢
      refine hK.out _ _ ⟨(blk_cell (blk_below B0.out BL4.out) 0).trans rfl, (blk_cell (blk_below Y0.out BL4.out) 0).trans rfl, (blk_cell (blk_below Y0.out BL4.out) 1).trans rfl, (HA1.out _ BL4.out).1, (HA1.out _ BL4.out).2, (HA2.out _ BL4.out).1, (HA2.out _ BL4.out).2⟩ (fun hHeld => ?_)
      clear hK K
      refine zd ?_
      go_wp2_with (fail)
      go_meet
      case rel => exact ⟨_, _, rfl, rfl, G12_4, G13_4, ⟨blk_below Y0.out BL4.out⟩, ⟨blk_below X0.out BL4.out⟩, ⟨blk_below B0.out BL4.out⟩, ⟨HBD.out.trans (BL4.out.mono HBD.out.size)⟩, ⟨H3D.out.trans (BL4.out.mono H3D.out.size)⟩⟩
     ·refine value_ (v := .pointer (some ⟨v0.heap.size, 0, none⟩)) (w1 := v0.alloc (.cells #[.int .i64 0, .int .i64 0] 26)) (by rfl) rfl ?hr0 ?_
      (case hr0 => first | (go_simp; done) | (go_simp; rfl))
      have BL1 := zh (below_alloc BL0.out (.cells #[.int .i64 0, .int .i64 0] 26))
      have G13_1 := zh (alloc_at v0 (.cells #[.int .i64 0, .int .i64 0] 26) v0.heap.size rfl)
      have hs0 := BL0.out.size
      generalize v0.alloc (.cells #[.int .i64 0, .int .i64 0] 26) = v1 at BL1 G13_1 ⊢
      refine hK.out _ _ ⟨(blk_cell (blk_below B0.out BL1.out) 0).trans rfl, (blk_cell (blk_below Y0.out BL1.out) 0).trans rfl, (blk_cell (blk_below Y0.out BL1.out) 1).trans rfl, (HA1.out _ BL1.out).1, (HA1.out _ BL1.out).2, (HA2.out _ BL1.out).1, (HA2.out _ BL1.out).2⟩ (fun hHeld => ?_)
      clear hK K
      refine zr 9 _ ?_
      refine zo 12 (fun K hK => ?_)
      refine value_ (v := .pointer (some ⟨v1.heap.size, 0, none⟩)) (w1 := v1.alloc (.cells #[.int .i64 0, .int .i64 0] 26)) (by rfl) rfl ?hr1 ?_
      (case hr1 => first | (go_simp; done) | (go_simp; rfl))
      have BL2 := zh (below_alloc BL1.out (.cells #[.int .i64 0, .int .i64 0] 26))
      have G13_2 := zh (blk_alloc G13_1.out (.cells #[.int .i64 0, .int .i64 0] 26))
      have G12_2 := zh (alloc_at v1 (.cells #[.int .i64 0, .int .i64 0] 26) v1.heap.size rfl)
      have hs1 := BL1.out.size
      have hlt13_12 := blk_lt G13_1.out
      generalize v1.alloc (.cells #[.int .i64 0, .int .i64 0] 26) = v2 at BL2 G13_2 G12_2 ⊢
      refine hK.out _ _ ⟨(blk_cell (blk_below B0.out BL2.out) 0).trans rfl, (blk_cell (blk_below Y0.out BL2.out) 0).trans rfl, (blk_cell (blk_below Y0.out BL2.out) 1).trans rfl, (HA1.out _ BL2.out).1, (HA1.out _ BL2.out).2, (HA2.out _ BL2.out).1, (HA2.out _ BL2.out).2⟩ (fun hHeld => ?_)
      clear hK K
      refine zr 8 _ ?_
      refine zp 14 (fun K hK => ?_)
      have c0_ : v2.cell? ⟨v1.heap.size, 0, none⟩ = some (.int .i64 0) := vb G12_2 0
      have d0_ : v2.frozen? ⟨v1.heap.size, 0, none⟩ = false := blk_frozen G12_2.out 0
      have c1_ : v2.cell? ⟨v1.heap.size, 1, none⟩ = some (.int .i64 0) := vb G12_2 1
      have d1_ : v2.frozen? ⟨v1.heap.size, 1, none⟩ = false := blk_frozen G12_2.out 1
      refine skip_ (w1 := ((v2.setCell ⟨v1.heap.size, 0, none⟩ (.int .i64 alo)).setCell ⟨v1.heap.size, 1, none⟩ (.int .i64 ahi))) (by rfl) rfl ?hs2_ ?_
      (case hs2_ => first | (go_simp; done) | (go_simp; rfl))
      clear c0_ d0_ c1_ d1_
      have hs2 := BL2.out.size
      have BL3 : Aside0 (Below v0.heap.size v0 ((v2.setCell ⟨v1.heap.size, 0, none⟩ (.int .i64 alo)).setCell ⟨v1.heap.size, 1, none⟩ (.int .i64 ahi))) := ⟨(Below.setCell (Below.setCell BL2.out dQ3 _) dQ3 _)⟩
      have G12_3 : Aside0 (((v2.setCell ⟨v1.heap.size, 0, none⟩ (.int .i64 alo)).setCell ⟨v1.heap.size, 1, none⟩ (.int .i64 ahi)).heap[v1.heap.size]? = some (.cells #[.int .i64 alo, .int .i64 ahi] 26 (0, 0))) := ⟨set2 G12_2.out _ _⟩
      have G13_3 := zh (blk_far (blk_far G13_2.out (p := ⟨v1.heap.size, 0, none⟩) (by show v0.heap.size ≠ v1.heap.size; omega) (.int .i64 alo)) (p := ⟨v1.heap.size, 1, none⟩) (by show v0.heap.size ≠ v1.heap.size; omega) (.int .i64 ahi))
      generalize ((v2.setCell ⟨v1.heap.size, 0, none⟩ (.int .i64 alo)).setCell ⟨v1.heap.size, 1, none⟩ (.int .i64 ahi)) = v3 at BL3 G13_3 G12_3 ⊢
      refine hK.out _ _ ⟨(blk_cell (blk_below B0.out BL3.out) 0).trans rfl, (blk_cell (blk_below Y0.out BL3.out) 0).trans rfl, (blk_cell (blk_below Y0.out BL3.out) 1).trans rfl, (HA1.out _ BL3.out).1, (HA1.out _ BL3.out).2, (HA2.out _ BL3.out).1, (HA2.out _ BL3.out).2⟩ (fun hHeld => ?_)
      clear hK K
      refine zp 15 (fun K hK => ?_)
      have c0_ : v3.cell? ⟨v0.heap.size, 0, none⟩ = some (.int .i64 0) := vb G13_3 0
      have d0_ : v3.frozen? ⟨v0.heap.size, 0, none⟩ = false := blk_frozen G13_3.out 0
      have c1_ : v3.cell? ⟨v0.heap.size, 1, none⟩ = some (.int .i64 0) := vb G13_3 1
      have d1_ : v3.frozen? ⟨v0.heap.size, 1, none⟩ = false := blk_frozen G13_3.out 1
      refine skip_ (w1 := ((v3.setCell ⟨v0.heap.size, 0, none⟩ (.int .i64 blo)).setCell ⟨v0.heap.size, 1, none⟩ (.int .i64 bhi))) (by rfl) rfl ?hs3_ ?_
      (case hs3_ => first | (go_simp; done) | (go_simp; rfl))
      clear c0_ d0_ c1_ d1_
      have hs3 := BL3.out.size
      have BL4 : Aside0 (Below v0.heap.size v0 ((v3.setCell ⟨v0.heap.size, 0, none⟩ (.int .i64 blo)).setCell ⟨v0.heap.size, 1, none⟩ (.int .i64 bhi))) := ⟨(Below.setCell (Below.setCell BL3.out dQ4 _) dQ4 _)⟩
      have G13_4 : Aside0 (((v3.setCell ⟨v0.heap.size, 0, none⟩ (.int .i64 blo)).setCell ⟨v0.heap.size, 1, none⟩ (.int .i64 bhi)).heap[v0.heap.size]? = some (.cells #[.int .i64 blo, .int .i64 bhi] 26 (0, 0))) := ⟨set2 G13_3.out _ _⟩
      have G12_4 := zh (blk_far (blk_far G12_3.out (p := ⟨v0.heap.size, 0, none⟩) (by show v1.heap.size ≠ v0.heap.size; omega) (.int .i64 blo)) (p := ⟨v0.heap.size, 1, none⟩) (by show v1.heap.size ≠ v0.heap.size; omega) (.int .i64 bhi))
      generalize ((v3.setCell ⟨v0.heap.size, 0, none⟩ (.int .i64 blo)).setCell ⟨v0.heap.size, 1, none⟩ (.int .i64 bhi)) = v4 at BL4 G13_4 G12_4 ⊢
      refine hK.out _ _ ⟨(blk_cell (blk_below B0.out BL4.out) 0).trans rfl, (blk_cell (blk_below Y0.out BL4.out) 0).trans rfl, (blk_cell (blk_below Y0.out BL4.out) 1).trans rfl, (HA1.out _ BL4.out).1, (HA1.out _ BL4.out).2, (HA2.out _ BL4.out).1, (HA2.out _ BL4.out).2⟩ (fun hHeld => ?_)
      clear hK K
      refine zd ?_
      go_wp2_with (fail)
      go_meet
      case rel => exact ⟨_, _, rfl, rfl, G12_4, G13_4, ⟨blk_below Y0.out BL4.out⟩, ⟨blk_below X0.out BL4.out⟩, ⟨blk_below B0.out BL4.out⟩, ⟨HBD.out.trans (BL4.out.mono HBD.out.size)⟩, ⟨H3D.out.trans (BL4.out.mono H3D.out.size)⟩⟩
    case rest =>
     obtain ⟨ga, gb, rfl, rfl, GA, GB, Y1, X1, B1, HBc, H3c⟩ := hcut
     have hw1 : wrap64 (ahi - alo) = ahi - alo := w64 (by omega) (by omega)
     have hw2 : wrap64 (ahi - alo + 1) = (na : Int) := by rw [w64 (by omega) (by omega)]; omega
     have hw3 : wrap64 (bhi - blo) = bhi - blo := w64 (by omega) (by omega)
     have hw4 : wrap64 (bhi - blo + 1) = (nb : Int) := by rw [w64 (by omega) (by omega)]; omega
     have hw5 : ahi - alo + 1 = (na : Int) := by omega
     have hw6 : bhi - blo + 1 = (nb : Int) := by omega
     have HNA := zh hna
     have HNB := zh hnb
     have hna9 : na ≤ 100 := by omega
     have hnb9 : nb ≤ 100 := by omega
     have pa0 : wc.cell? ⟨ga, 0, none⟩ = some (.int .i64 alo) := vb GA 0
     have pa1 : wc.cell? ⟨ga, 1, none⟩ = some (.int .i64 ahi) := vb GA 1
     clear hna hnb
     go_wp2
     clear pa0 pa1
     go_loopw [44] (fun u wr => ∃ i : Nat, i ≤ na ∧ u = .int .i64 i ∧ Aside0 (allTo (fun p => allTo (fun q => fitB (b0, b1) j p q) blo nb) alo i = true) ∧ Aside0 (Below wc.heap.size wc wr)) (fun u _ => na - (intOf u).toNat)
     case atStart => exact ⟨0, Nat.zero_le _, rfl, ⟨rfl⟩, ⟨Below.refl _ _⟩⟩
     case round =>
      obtain ⟨i, hi, rfl, HI, HCw⟩ := hrel
      by_cases hil : i < na
      ·have hil' : (i : Int) < (na : Int) := by omega
       have pb0 : wr.cell? ⟨gb, 0, none⟩ = some (.int .i64 blo) := (blk_cell (blk_below GB.out HCw.out) 0).trans rfl
       have pb1 : wr.cell? ⟨gb, 1, none⟩ = some (.int .i64 bhi) := (blk_cell (blk_below GB.out HCw.out) 1).trans rfl
       go_wp2
       clear pb0 pb1
       go_loopw [53] (fun u wr => ∃ m : Nat, m ≤ nb ∧ u = .int .i64 m ∧ Aside0 (allTo (fun q => fitB (b0, b1) j (alo + (i : Int)) q) blo m = true) ∧ Aside0 (Below wc.heap.size wc wr)) (fun u _ => nb - (intOf u).toNat)
       case atStart => exact ⟨0, Nat.zero_le _, rfl, ⟨rfl⟩, HCw⟩
       case round =>
        obtain ⟨m, hm, rfl, HM, HCr⟩ := hrel
        by_cases hml : m < nb
        ·have hml' : (m : Int) < (nb : Int) := by omega
         obtain ⟨x0, x1, x2, x3, x4, x5, x6, x7, x8, x9, x10, x11, x12, x13, x14, x15⟩ := cells16 (blk_below X1.out HCr.out)
         obtain ⟨y0, y1, y2, y3, y4⟩ := cells5 (blk_below Y1.out HCr.out)
         have pa0 : wr.cell? ⟨ga, 0, none⟩ = some (.int .i64 alo) := (blk_cell (blk_below GA.out HCr.out) 0).trans rfl
         have pb0 : wr.cell? ⟨gb, 0, none⟩ = some (.int .i64 blo) := (blk_cell (blk_below GB.out HCr.out) 0).trans rfl
         have hn1 := HNA.out
         have hn2 := HNB.out
         have hwp : wrap64 (alo + (i : Int)) = alo + (i : Int) := w64 (by omega) (by omega)
         have hwq : wrap64 (blo + (m : Int)) = blo + (m : Int) := w64 (by omega) (by omega)
         have HBr := zh (HBc.out.trans (HCr.out.mono HBc.out.size))
         have HFT : Aside0 (Calls Tryd.prog 53 #[.agg #[.slice (some ad0) h.length c0, .slice A1 s.length c1, .slice A2 p.length c2, .int .i64 b0, .int .i64 b1, .slice (some ad3) js.length c3, .bool false, .bool false, .bool false, .bool false, .bool false, .bool false, .bool false, .bool false, .int .i64 b0, .int .i64 b1], .agg #[.int .i64 (j.one : Int), .int .i64 (j.two : Int), .int .i64 (kindV j), .int .i64 j.lo, .int .i64 j.hi], .int .i64 (alo + (i : Int)), .int .i64 (blo + (m : Int))] wr fun e w' => e = .returned (.bool (fitB (b0, b1) j (alo + (i : Int)) (blo + (m : Int)))) ∧ Below wr.heap.size wr w') := ⟨fits_plain _ _ _ _ b0 b1 b0 b1 j _ _ wr (HG.out.below HBr.out) HOK.out (by omega) (by omega) (by omega) (by omega)⟩
         clear hn1 hn2
         cases hin : fitB (b0, b1) j (alo + (i : Int)) (blo + (m : Int)) with
         | false =>
          have HRF : Aside0 (R = false) := ⟨by
           rw [← HR.out]
           refine HFA.out ?_
           rw [HSJ.out]
           exact range_false hil (range_false hml hin)⟩
          have HIN := zh hin
          clear hin
          go_wp2_with (go_at_call 53; (with_reducible refine HFT.out.mono ?_); rintro e w6 ⟨rfl, hb⟩; rw [HIN.out]; have HB6 := zh (HBr.out.trans (hb.mono HBr.out.size)); clear hb)
          go_ret2
          exact ⟨by rw [HRF.out]; rfl, HB6.out⟩
         | true =>
          have HM2 : Aside0 (allTo (fun q => fitB (b0, b1) j (alo + (i : Int)) q) blo (m + 1) = true) := ⟨by rw [allTo_succ, HM.out, Bool.true_and]; exact hin⟩
          have HIN := zh hin
          clear hin
          go_wp2_with (go_at_call 53; (with_reducible refine HFT.out.mono ?_); rintro e w6 ⟨rfl, hb⟩; rw [HIN.out]; have HC6 := zh (HCr.out.trans (hb.mono HCr.out.size)); clear hb)
          go_roundw
          case rel => exact ⟨m + 1, by omega, by go_num, HM2, HC6⟩
          case measure => simp [intOf]; omega
        ·obtain rfl : m = nb := by omega
         have hml' : ¬ ((m : Nat) : Int) < (m : Int) := by omega
         have HI2 : Aside0 (allTo (fun p => allTo (fun q => fitB (b0, b1) j p q) blo m) alo (i + 1) = true) := ⟨by rw [allTo_succ, HI.out, Bool.true_and]; exact HM.out⟩
         go_wp2
         go_roundw
         case rel => exact ⟨i + 1, by omega, by go_num, HI2, HCr⟩
         case measure => simp [intOf]; omega
      ·obtain rfl : i = na := by omega
       have hil' : ¬ ((i : Nat) : Int) < (i : Int) := by omega
       have HJ2 : Aside0 ((js.take (k + 1)).all (sureJ h (b0, b1)) = true) := ⟨by rw [HSN.out, HJ.out, HSJ.out, HI.out]; rfl⟩
       go_wp2
       go_roundw
       case rel => exact ⟨k + 1, by omega, by go_num, HJ2, ⟨blk_below X1.out HCw.out⟩, ⟨blk_below B1.out HCw.out⟩, ⟨HBc.out.trans (HCw.out.mono HBc.out.size)⟩, ⟨H3c.out.trans (HCw.out.mono H3c.out.size)⟩⟩
       case measure => simp [intOf]; omega
   ·obtain rfl : k = js.length := by omega
    have hlt' : ¬ ((js.length : Nat) : Int) < (js.length : Int) := by omega
    have HRT : Aside0 (R = true) := ⟨by rw [← HR.out]; have h9 := HJ.out; rw [List.take_length] at h9; exact h9⟩
    go_wp2
    go_ret2
    exact ⟨by rw [HRT.out]; rfl, HBr.out⟩
 ·have HE : Aside0 (sureB h s p b0 b1 = false) := ⟨by unfold sureB; rw [hck, decide_eq_false hz]; rfl⟩
  obtain rfl : ck = 10 := by rw [← hck]; exact checkT_ne (by rw [hck]; exact hz)
  rw [HE.out, hck]
  clear hz hck HE
  go_enter Tryd.func31, Tryd.ntmps31
  go_wp2_with (go_at_call 18; refine HCK.out.mono ?_; rintro e w1 ⟨rfl, hb⟩; have HB1 := zh (HB0.out.trans (hb.mono (by simp))); clear hb)
  go_ret2
  exact ⟨rfl, HB1.out⟩
end Go.Proofs.YtgehkojccmkggaaDoor.K
end
section
namespace Go.Proofs.YtgehkojccmkggaaDoor.K
open Go.RowKit Go.Shelf Go.Proofs.YtgehkojccmkggaaDoorW.PrintWords Go.Proofs.YtgehkojccmkggaaDoorW.PrintLast Go.Proofs.YtgehkojccmkggaaDoorW.PrintMore Go.Proofs.YtgehkojccmkggaaDoor.H Tune
set_option linter.unusedVariables false
set_option linter.unusedSimpArgs false
attribute [local go_sem] Oper.semAt_some
def anyTo (T : Int → Bool) (lo q : Int) : Bool := (irange lo (q - 1)).any T
theorem anyTo_start (T : Int → Bool) (lo : Int) : anyTo T lo lo = false := by unfold anyTo; rw [irange_nil (by omega)]; rfl
theorem anyTo_succ {T : Int → Bool} (lo q : Int) (h : lo ≤ q) : anyTo T lo (q + 1) = (anyTo T lo q || T q) := by
 unfold anyTo
 have e : q + 1 - 1 = q - 1 + 1 := by omega
 rw [e, irange_snoc (by omega), List.any_append]
 simp
theorem anyTo_end (T : Int → Bool) (lo hi : Int) : anyTo T lo (hi + 1) = (irange lo hi).any T := by unfold anyTo; rw [show hi + 1 - 1 = hi from by omega]
def asks (b : Int × Int) (lo hi : Nat → Int) (par : Nat → Int) (canV : Nat → Int → Bool) (x : Nat) (p : Int) (oj : Nat × J) : Bool :=
 decide ((oj.1 : Int) = par x) || (irange (lo oj.1) (hi oj.1)).any fun q => fitAtB b oj.2 x p q && canV oj.1 q
theorem kv_given (gl : List (Int × Int)) (x : Nat) (p : Int) : ∃ (nv : Int) (iv : Bool), kvGet (Value.int .i64) (.int .i64 0) gl (x : Int) = (.int .i64 nv, iv) ∧ okG gl x p = (!iv || nv == p) := by
 unfold kvGet okG
 cases gl.find? fun e => decide ((x : Int) = e.1) with
 | none => exact ⟨0, false, rfl, rfl⟩
 | some e => exact ⟨e.2, true, rfl, by simp [beq_dec]⟩
def fCan.T16 : Bool × List (List Nat × List Nat) := (true, [([], []), ([], []), ([1], [1]), ([0, 0], [0]), ([2, 3, 0, 1, 2, 3], [2])])
def fCan.B16 : List Nat := [0, 0, 2, 1, 15]
theorem fCan.tab16 : rtab .any (opsOf Tryd.f80 16) = fCan.T16 := by kernel_rfl
theorem fCan.bits16 : waitsOk fCan.T16.2 fCan.B16 = true := by kernel_rfl
set_option maxRecDepth 100000 in
set_option maxHeartbeats 8000000 in
theorem can_new (ad0 : Addr) (c0 : Nat) (hs : List S26) (vS vP : Value) (b0 b1 : Int) (lf : Nat → Bool) (e0 e1 : Int) (A3 : Option Addr) (c3 : Nat) (js : List J) (go : Option Nat) (gl : List (Int × Int)) (m Bk Bg Bs Bf Bc : Nat) (w0 W : World)
  (hS : CanS (some ad0) hs A3 js go gl m Bk Bg Bs Bf Bc w0) (hW : CanW (some ad0) c0 hs vS vP b0 b1 lf e0 e1 A3 c3 js go m Bk Bg Bs Bf Bc w0 W) (par : Nat → Int) (rank : Nat → Nat) (canV : Nat → Int → Bool) (hP : Plan hs.length js lf (e0, e1) (loH hs) (hiH hs) (okG gl) par rank canV)
  (r x : Nat) (p : Int) (hx : x < hs.length) (hlx : lf x = false) (hlo : loH hs x ≤ p) (hhi : p ≤ hiH hs x) (hr : rank x < r + 1)
  (kv : List ((Int × Int) × Bool)) (hkv : MapIs E111 Value.bool W m kv) (hkt : ∀ e ∈ kv, ∀ x : Nat, e.1.1 = (x : Int) → e.2 = canV x e.1.2) (hv : kvGet Value.bool (.bool false) kv ((x : Int), p) = (.bool false, false))
  (ih : ∀ (o : Nat) (q : Int), rank o < r → o < hs.length → lf o = false → loH hs o ≤ q → q ≤ hiH hs o → ∀ W', CanW (some ad0) c0 hs vS vP b0 b1 lf e0 e1 A3 c3 js go m Bk Bg Bs Bf Bc w0 W' → (memoM canV m).P W' →
   CallsIn Fence.wide 9 Tryd.prog 80 #[.agg #[.int .i64 (o : Int), .int .i64 q], .int .i64 (par o), .pointer (some ⟨Bk, 0, none⟩), .pointer (some ⟨Bg, 0, none⟩), .pointer (some ⟨Bs, 0, none⟩), .pointer (some ⟨Bf, 0, none⟩), .pointer (some ⟨Bc, 0, none⟩)] W' fun e W'' => e = .returned (.bool (canV o q)) ∧ KB (memoM canV m) W' W'') :
  CallsIn Fence.wide 9 Tryd.prog 80 #[.agg #[.int .i64 (x : Int), .int .i64 p], .int .i64 (par x), .pointer (some ⟨Bk, 0, none⟩), .pointer (some ⟨Bg, 0, none⟩), .pointer (some ⟨Bs, 0, none⟩), .pointer (some ⟨Bf, 0, none⟩), .pointer (some ⟨Bc, 0, none⟩)] W fun e W' => e = .returned (.bool (canV x p)) ∧ KB (memoM canV m) W W' := by
 have hu111 := Tryd.underlying111
 have hu77 := Tryd.underlying77
 have hu80 := Tryd.underlying80
 have hu28 := Tryd.underlying28
 have hu26 := Tryd.underlying26
 have hu22 := Tryd.underlying22
 obtain ⟨M, hMdef⟩ : ∃ M, memoM canV m = M := ⟨_, rfl⟩
 have HMP : Aside0 (M.P W) := ⟨by rw [← hMdef]; exact ⟨kv, hkv, hkt⟩⟩
 have HMD := zh hMdef
 have hmW := M.lt HMP.out
 rw [hMdef] at ih ⊢
 clear hMdef
 have IH := zh ih
 have HS := zh hS
 have HW := zh hW
 have HP := zh hP
 have HCAN := zh (hP.can x hx hlx p hlo hhi)
 have hsp := hS.span x hx
 have hne := hS.ne
 have hm0 := hS.m0
 have hn8 := hS.len
 have hw0 := hW.base.size
 have hkl := blk_lt hW.known
 have hgl := blk_lt hW.given
 have hsl := blk_lt hW.set
 have hfl := blk_lt hW.fits
 have hcl := blk_lt hW.can
 obtain ⟨nv, iv, hkg, hok⟩ := kv_given gl x p
 have HKG := zh hkg
 have HOKG := zh hok
 have HK := zh hv
 have k0 : ((W.alloc (.cells #[.int .i64 (x : Int), .int .i64 p] 111)).alloc (.cells #[.int .i64 (par x)] 3)).cell? ⟨Bk, 0, none⟩ = some (.map (some m)) := cell_a2 ((blk_cell hW.known 0).trans rfl) _ _
 have k1 : ((W.alloc (.cells #[.int .i64 (x : Int), .int .i64 p] 111)).alloc (.cells #[.int .i64 (par x)] 3)).cell? ⟨Bg, 0, none⟩ = some (.map go) := cell_a2 ((blk_cell hW.given 0).trans rfl) _ _
 have HKV := zh ((hkv.alloc (.cells #[.int .i64 (x : Int), .int .i64 p] 111)).alloc (.cells #[.int .i64 (par x)] 3))
 have HGV := zh ((hS.given.below hW.base).below (below_alloc (below_alloc (Below.refl W.heap.size W) (.cells #[.int .i64 (x : Int), .int .i64 p] 111)) (.cells #[.int .i64 (par x)] 3)))
 clear hkg hok hv hkv hkt hW hS hP ih
 refine callsIn_of_wp_marks Tryd.func80 rfl trivial ?_ rfl
 simp only [Tryd.ntmps80, List.size_toArray, List.length_cons, List.length_nil, Nat.reduceAdd, Nat.reduceSub, Array.replicate_succ, Array.replicate_zero, List.push_toArray, List.append_toArray, List.nil_append, List.cons_append]
 gi_upto_region 5 with (first | ((with_reducible refine wpListIn_look E111 Value.bool rfl (.tmp 22) (.tmp 23) true rfl Tryd.underlying108 rfl HKV.out (.bool false) (zero4 _) ((x : Int), p) rfl ?_); rw [HK.out]) | ((with_reducible refine wpListIn_look_opt E3 (Value.int .i64) rfl (.tmp 30) (.tmp 32) true rfl Tryd.underlying99 rfl HGV.out (.int .i64 0) (zero3 _) (x : Int) rfl ?_); rw [HKG.out]))
 clear k0 k1
 gi_cut [14] from 110 (fun t14 wc => t14 = .pointer (some ⟨W.heap.size + 1 + 1, 0, none⟩) ∧ wc = (((W.alloc (.cells #[.int .i64 (x : Int), .int .i64 p] 111)).alloc (.cells #[.int .i64 (par x)] 3)).alloc (.cells #[.bool (okG gl x p)] 4)))
 case first =>
  cases iv
  ·have HO := zh (show okG gl x p = true from HOKG.out)
   gi_wp2
   gi_meet
   case rel => exact ⟨rfl, by rw [HO.out]⟩
  ·have HO := zh (show okG gl x p = (nv == p) from HOKG.out)
   gi_wp2
   gi_meet
   case rel => exact ⟨rfl, by rw [HO.out]⟩
 case rest =>
  obtain ⟨rfl, rfl⟩ := hcut
  have B3 := zh (blk_alloc (blk_alloc (blk_alloc HW.out.set (.cells #[.int .i64 (x : Int), .int .i64 p] 111)) (.cells #[.int .i64 (par x)] 3)) (.cells #[.bool (okG gl x p)] 4))
  have X3 := zh (blk_alloc (blk_alloc (alloc_at W (.cells #[.int .i64 (x : Int), .int .i64 p] 111) (W.heap.size) (by simp)) (.cells #[.int .i64 (par x)] 3)) (.cells #[.bool (okG gl x p)] 4))
  have y0 : (((W.alloc (.cells #[.int .i64 (x : Int), .int .i64 p] 111)).alloc (.cells #[.int .i64 (par x)] 3)).alloc (.cells #[.bool (okG gl x p)] 4)).cell? ⟨Bs, 0, none⟩ = some (.slice (some ad0) hs.length c0) := vb B3 0
  have y1 : (((W.alloc (.cells #[.int .i64 (x : Int), .int .i64 p] 111)).alloc (.cells #[.int .i64 (par x)] 3)).alloc (.cells #[.bool (okG gl x p)] 4)).cell? ⟨Bs, 1, none⟩ = some (vS) := vb B3 1
  have y2 : (((W.alloc (.cells #[.int .i64 (x : Int), .int .i64 p] 111)).alloc (.cells #[.int .i64 (par x)] 3)).alloc (.cells #[.bool (okG gl x p)] 4)).cell? ⟨Bs, 2, none⟩ = some (vP) := vb B3 2
  have y3 : (((W.alloc (.cells #[.int .i64 (x : Int), .int .i64 p] 111)).alloc (.cells #[.int .i64 (par x)] 3)).alloc (.cells #[.bool (okG gl x p)] 4)).cell? ⟨Bs, 3, none⟩ = some (.int .i64 b0) := vb B3 3
  have y4 : (((W.alloc (.cells #[.int .i64 (x : Int), .int .i64 p] 111)).alloc (.cells #[.int .i64 (par x)] 3)).alloc (.cells #[.bool (okG gl x p)] 4)).cell? ⟨Bs, 4, none⟩ = some (.int .i64 b1) := vb B3 4
  have y5 : (((W.alloc (.cells #[.int .i64 (x : Int), .int .i64 p] 111)).alloc (.cells #[.int .i64 (par x)] 3)).alloc (.cells #[.bool (okG gl x p)] 4)).cell? ⟨Bs, 5, none⟩ = some (.slice A3 js.length c3) := vb B3 5
  have y6 : (((W.alloc (.cells #[.int .i64 (x : Int), .int .i64 p] 111)).alloc (.cells #[.int .i64 (par x)] 3)).alloc (.cells #[.bool (okG gl x p)] 4)).cell? ⟨Bs, 6, none⟩ = some (.bool (lf 0)) := vb B3 6
  have y7 : (((W.alloc (.cells #[.int .i64 (x : Int), .int .i64 p] 111)).alloc (.cells #[.int .i64 (par x)] 3)).alloc (.cells #[.bool (okG gl x p)] 4)).cell? ⟨Bs, 7, none⟩ = some (.bool (lf 1)) := vb B3 7
  have y8 : (((W.alloc (.cells #[.int .i64 (x : Int), .int .i64 p] 111)).alloc (.cells #[.int .i64 (par x)] 3)).alloc (.cells #[.bool (okG gl x p)] 4)).cell? ⟨Bs, 8, none⟩ = some (.bool (lf 2)) := vb B3 8
  have y9 : (((W.alloc (.cells #[.int .i64 (x : Int), .int .i64 p] 111)).alloc (.cells #[.int .i64 (par x)] 3)).alloc (.cells #[.bool (okG gl x p)] 4)).cell? ⟨Bs, 9, none⟩ = some (.bool (lf 3)) := vb B3 9
  have y10 : (((W.alloc (.cells #[.int .i64 (x : Int), .int .i64 p] 111)).alloc (.cells #[.int .i64 (par x)] 3)).alloc (.cells #[.bool (okG gl x p)] 4)).cell? ⟨Bs, 10, none⟩ = some (.bool (lf 4)) := vb B3 10
  have y11 : (((W.alloc (.cells #[.int .i64 (x : Int), .int .i64 p] 111)).alloc (.cells #[.int .i64 (par x)] 3)).alloc (.cells #[.bool (okG gl x p)] 4)).cell? ⟨Bs, 11, none⟩ = some (.bool (lf 5)) := vb B3 11
  have y12 : (((W.alloc (.cells #[.int .i64 (x : Int), .int .i64 p] 111)).alloc (.cells #[.int .i64 (par x)] 3)).alloc (.cells #[.bool (okG gl x p)] 4)).cell? ⟨Bs, 12, none⟩ = some (.bool (lf 6)) := vb B3 12
  have y13 : (((W.alloc (.cells #[.int .i64 (x : Int), .int .i64 p] 111)).alloc (.cells #[.int .i64 (par x)] 3)).alloc (.cells #[.bool (okG gl x p)] 4)).cell? ⟨Bs, 13, none⟩ = some (.bool (lf 7)) := vb B3 13
  have y14 : (((W.alloc (.cells #[.int .i64 (x : Int), .int .i64 p] 111)).alloc (.cells #[.int .i64 (par x)] 3)).alloc (.cells #[.bool (okG gl x p)] 4)).cell? ⟨Bs, 14, none⟩ = some (.int .i64 e0) := vb B3 14
  have y15 : (((W.alloc (.cells #[.int .i64 (x : Int), .int .i64 p] 111)).alloc (.cells #[.int .i64 (par x)] 3)).alloc (.cells #[.bool (okG gl x p)] 4)).cell? ⟨Bs, 15, none⟩ = some (.int .i64 e1) := vb B3 15
  have x0 : (((W.alloc (.cells #[.int .i64 (x : Int), .int .i64 p] 111)).alloc (.cells #[.int .i64 (par x)] 3)).alloc (.cells #[.bool (okG gl x p)] 4)).cell? ⟨W.heap.size, 0, none⟩ = some (.int .i64 (x : Int)) := vb X3 0
  gi_wp2_with (refine ⟨trivial, ?_⟩; gi_at_call 81; refine (callsIn_any _ (joined_calls (.slice (some ad0) hs.length c0) vS vP (.slice A3 js.length c3) b0 b1 lf e0 e1 x _)).mono ?_; rintro e w' ⟨rfl, rfl⟩)
  clear x0 y0 y1 y2 y3 y4 y5 y6 y7 y8 y9 y10 y11 y12 y13 y14 y15
  have K1 := zh ((((((KB.refl M W).trans (KB.alloc M W (.cells #[.int .i64 (x : Int), .int .i64 p] 111))).trans (KB.alloc M (W.alloc (.cells #[.int .i64 (x : Int), .int .i64 p] 111)) (.cells #[.int .i64 (par x)] 3))).trans (KB.alloc M ((W.alloc (.cells #[.int .i64 (x : Int), .int .i64 p] 111)).alloc (.cells #[.int .i64 (par x)] 3)) (.cells #[.bool (okG gl x p)] 4))).trans (KB.alloc M (((W.alloc (.cells #[.int .i64 (x : Int), .int .i64 p] 111)).alloc (.cells #[.int .i64 (par x)] 3)).alloc (.cells #[.bool (okG gl x p)] 4)) (.cells #[.slice (some ad0) hs.length c0, vS, vP, .int .i64 b0, .int .i64 b1, .slice A3 js.length c3, .bool (lf 0), .bool (lf 1), .bool (lf 2), .bool (lf 3), .bool (lf 4), .bool (lf 5), .bool (lf 6), .bool (lf 7), .int .i64 e0, .int .i64 e1] 77))).trans (KB.alloc M ((((W.alloc (.cells #[.int .i64 (x : Int), .int .i64 p] 111)).alloc (.cells #[.int .i64 (par x)] 3)).alloc (.cells #[.bool (okG gl x p)] 4)).alloc (.cells #[.slice (some ad0) hs.length c0, vS, vP, .int .i64 b0, .int .i64 b1, .slice A3 js.length c3, .bool (lf 0), .bool (lf 1), .bool (lf 2), .bool (lf 3), .bool (lf 4), .bool (lf 5), .bool (lf 6), .bool (lf 7), .int .i64 e0, .int .i64 e1] 77)) (.cells #[.int .i64 (x : Int)] 3)))
  have P0 := zh (blk_alloc (blk_alloc (blk_alloc (blk_alloc (alloc_at W (.cells #[.int .i64 (x : Int), .int .i64 p] 111) (W.heap.size) (by simp)) (.cells #[.int .i64 (par x)] 3)) (.cells #[.bool (okG gl x p)] 4)) (.cells #[.slice (some ad0) hs.length c0, vS, vP, .int .i64 b0, .int .i64 b1, .slice A3 js.length c3, .bool (lf 0), .bool (lf 1), .bool (lf 2), .bool (lf 3), .bool (lf 4), .bool (lf 5), .bool (lf 6), .bool (lf 7), .int .i64 e0, .int .i64 e1] 77)) (.cells #[.int .i64 (x : Int)] 3))
  have P1 := zh (blk_alloc (blk_alloc (blk_alloc (alloc_at (W.alloc (.cells #[.int .i64 (x : Int), .int .i64 p] 111)) (.cells #[.int .i64 (par x)] 3) (W.heap.size + 1) (by simp)) (.cells #[.bool (okG gl x p)] 4)) (.cells #[.slice (some ad0) hs.length c0, vS, vP, .int .i64 b0, .int .i64 b1, .slice A3 js.length c3, .bool (lf 0), .bool (lf 1), .bool (lf 2), .bool (lf 3), .bool (lf 4), .bool (lf 5), .bool (lf 6), .bool (lf 7), .int .i64 e0, .int .i64 e1] 77)) (.cells #[.int .i64 (x : Int)] 3))
  have P2 : Aside0 (Boxed (((((W.alloc (.cells #[.int .i64 (x : Int), .int .i64 p] 111)).alloc (.cells #[.int .i64 (par x)] 3)).alloc (.cells #[.bool (okG gl x p)] 4)).alloc (.cells #[.slice (some ad0) hs.length c0, vS, vP, .int .i64 b0, .int .i64 b1, .slice A3 js.length c3, .bool (lf 0), .bool (lf 1), .bool (lf 2), .bool (lf 3), .bool (lf 4), .bool (lf 5), .bool (lf 6), .bool (lf 7), .int .i64 e0, .int .i64 e1] 77)).alloc (.cells #[.int .i64 (x : Int)] 3)) (W.heap.size + 1 + 1) 4 (.bool (okG gl x p))) := ⟨blk_alloc (blk_alloc (alloc_at ((W.alloc (.cells #[.int .i64 (x : Int), .int .i64 p] 111)).alloc (.cells #[.int .i64 (par x)] 3)) (.cells #[.bool (okG gl x p)] 4) (W.heap.size + 1 + 1) (by simp)) (.cells #[.slice (some ad0) hs.length c0, vS, vP, .int .i64 b0, .int .i64 b1, .slice A3 js.length c3, .bool (lf 0), .bool (lf 1), .bool (lf 2), .bool (lf 3), .bool (lf 4), .bool (lf 5), .bool (lf 6), .bool (lf 7), .int .i64 e0, .int .i64 e1] 77)) (.cells #[.int .i64 (x : Int)] 3)⟩
  have P3 := zh (blk_alloc (alloc_at (((W.alloc (.cells #[.int .i64 (x : Int), .int .i64 p] 111)).alloc (.cells #[.int .i64 (par x)] 3)).alloc (.cells #[.bool (okG gl x p)] 4)) (.cells #[.slice (some ad0) hs.length c0, vS, vP, .int .i64 b0, .int .i64 b1, .slice A3 js.length c3, .bool (lf 0), .bool (lf 1), .bool (lf 2), .bool (lf 3), .bool (lf 4), .bool (lf 5), .bool (lf 6), .bool (lf 7), .int .i64 e0, .int .i64 e1] 77) (W.heap.size + 1 + 1 + 1) (by simp)) (.cells #[.int .i64 (x : Int)] 3))
  have P4 := zh (alloc_at ((((W.alloc (.cells #[.int .i64 (x : Int), .int .i64 p] 111)).alloc (.cells #[.int .i64 (par x)] 3)).alloc (.cells #[.bool (okG gl x p)] 4)).alloc (.cells #[.slice (some ad0) hs.length c0, vS, vP, .int .i64 b0, .int .i64 b1, .slice A3 js.length c3, .bool (lf 0), .bool (lf 1), .bool (lf 2), .bool (lf 3), .bool (lf 4), .bool (lf 5), .bool (lf 6), .bool (lf 7), .int .i64 e0, .int .i64 e1] 77)) (.cells #[.int .i64 (x : Int)] 3) (W.heap.size + 1 + 1 + 1 + 1) (by simp))
  have hsz : (((((W.alloc (.cells #[.int .i64 (x : Int), .int .i64 p] 111)).alloc (.cells #[.int .i64 (par x)] 3)).alloc (.cells #[.bool (okG gl x p)] 4)).alloc (.cells #[.slice (some ad0) hs.length c0, vS, vP, .int .i64 b0, .int .i64 b1, .slice A3 js.length c3, .bool (lf 0), .bool (lf 1), .bool (lf 2), .bool (lf 3), .bool (lf 4), .bool (lf 5), .bool (lf 6), .bool (lf 7), .int .i64 e0, .int .i64 e1] 77)).alloc (.cells #[.int .i64 (x : Int)] 3)).heap.size = W.heap.size + 5 := by simp
  obtain ⟨W0, hW0⟩ : ∃ W0, (((((W.alloc (.cells #[.int .i64 (x : Int), .int .i64 p] 111)).alloc (.cells #[.int .i64 (par x)] 3)).alloc (.cells #[.bool (okG gl x p)] 4)).alloc (.cells #[.slice (some ad0) hs.length c0, vS, vP, .int .i64 b0, .int .i64 b1, .slice A3 js.length c3, .bool (lf 0), .bool (lf 1), .bool (lf 2), .bool (lf 3), .bool (lf 4), .bool (lf 5), .bool (lf 6), .bool (lf 7), .int .i64 e0, .int .i64 e1] 77)).alloc (.cells #[.int .i64 (x : Int)] 3)) = W0 := ⟨_, rfl⟩
  simp only [hW0] at K1 P0 P1 P2 P3 P4 hsz ⊢
  clear hW0
  have hsz1 : W.heap.size + 5 ≤ W0.heap.size := by omega
  have hsz2 : W0.heap.size ≤ W.heap.size + 5 := by omega
  clear hsz B3 X3
  have HMW := zh (K1.out.memo HMP.out)
  have hmW0 := M.lt HMW.out
  have CW0 := zh (HW.out.keep HS.out (K1.out.round (fun _ => True)) (fun _ _ => trivial) ⟨trivial, trivial, trivial, trivial, trivial⟩)
  refine wpIn_range (n := 9) (by omega) (gf := 86) (lb := #[.pointer (some ⟨W.heap.size + 1 + 1 + 1, 0, none⟩), .pointer (some ⟨W.heap.size + 1 + 1 + 1 + 1, 0, none⟩)]) rfl (enters_of Tryd.func86 zk rfl)
   (joined_seq (.slice (some ad0) hs.length c0) vS vP b0 b1 lf e0 e1 A3 c3 js x hs.length M (W.heap.size + 1 + 1 + 1) (W.heap.size + 1 + 1 + 1 + 1) (fun i => i < W0.heap.size ∧ i ≠ W.heap.size + 1 + 1) w0 W0 hn8 CW0.out.base hm0 HS.out.joins HS.out.js P3.out P4.out ⟨by omega, by omega⟩ ⟨by omega, by omega⟩ (fun i hi => ⟨by omega, by omega⟩) (by omega) (by omega) hmW0) (fun i hi => hi.1) hmW0 (fun _ => rfl)
   (fun pre Wx => KR M (fun i => i < W0.heap.size ∧ i ≠ W.heap.size + 1 + 1) W0 Wx ∧ Boxed Wx (W.heap.size + 1 + 1) 4 (.bool (okG gl x p && pre.all (asks (e0, e1) (loH hs) (hiH hs) par canV x p))))
   (fun _ _ _ => False)
   (fun s X Y h hk => ⟨h.1.weak hk (fun i hi _ => hi.1), hk.box h.2 (by omega)⟩)
   (fun c s X Y h hk => h)
   ⟨KR.refl _ _ _, by simpa using P2.out⟩
   (AxBox m W0.heap.size (fun oj => #[.int .i64 (oj.2.one : Int), .int .i64 (oj.2.two : Int), .int .i64 (kindV oj.2), .int .i64 oj.2.lo, .int .i64 oj.2.hi]) 80 ?Fr)
   (fun x a' X Y h hk => h.keep hk)
   ?assign ?body ?done ?stop
  case assign =>
   rintro l2 pre oj Wx K hI hK
   dsimp only [encO]
   gi_wp2
   refine hK _ _ ((KeepsOthers.alloc _ _).from _) ((KB.alloc M Wx _).round _) ⟨hI.1.step (KB.alloc M Wx _), (KB.alloc M Wx _).box hI.2 (by omega)⟩ ⟨Wx.heap.size, by have := hI.1.size; omega, heap_alloc_new Wx _, hI.1.size, ?_⟩
   generalize Wx.heap.size = gg
   rfl
  case body =>
   rintro l2 pre ⟨o, jo⟩ a' Wx hl2 hok hpre ⟨hK1, hb1⟩ ⟨gp, hgm, hgp, hgl_, rfl⟩
   have hmem : (o, jo) ∈ nbrs js lf x := by
    obtain ⟨t, ht⟩ := hpre
    rw [← ht]; simp
   have hon : o < hs.length := HP.out.lt x _ hmem
   have hol : lf o = false := (nbrs_left hmem).2
   have hOKj : OkJ jo := hok.2
   dsimp only at hgp ⊢
   have HKx := zh hK1
   have HBx := zh hb1
   have HGx := zh hgp
   have HOK := zh hOKj
   have HALL := zh (show (pre ++ [(o, jo)]).all (asks (e0, e1) (loH hs) (hiH hs) par canV x p) = (pre.all (asks (e0, e1) (loH hs) (hiH hs) par canV x p) && asks (e0, e1) (loH hs) (hiH hs) par canV x p (o, jo)) by rw [List.all_append]; simp)
   have CWx := zh (CW0.out.keep HS.out hK1 (fun i hi => ⟨by omega, by omega⟩) ⟨⟨by omega, by omega⟩, ⟨by omega, by omega⟩, ⟨by omega, by omega⟩, ⟨by omega, by omega⟩, ⟨by omega, by omega⟩⟩)
   have Xx := zh (hK1.at P0.out ⟨by omega, by omega⟩ (by omega))
   have Fx := zh (hK1.at P1.out ⟨by omega, by omega⟩ (by omega))
   have HMx := zh (hK1.memo HMW.out)
   have hWx := hK1.size
   have o0 := hb1.cell
   have o1 := hb1.frozen
   have f0 : Wx.cell? ⟨W.heap.size + 1, 0, none⟩ = some (.int .i64 (par x)) := vb Fx 0
   clear hK1 hb1 hgp hOKj
   gi_wp2
   refine wpIn_scope_straight ?_
   cases hall : (okG gl x p && pre.all (asks (e0, e1) (loH hs) (hiH hs) par canV x p)) with
   | false =>
    rw [hall] at o0
    have HA := zh hall
    clear hall
    gi_wp2
    exact ⟨KeepsFrom.refl _ _, KR.refl _ _ _, HKx.out, by rw [HALL.out, ← Bool.and_assoc, HA.out, Bool.false_and, ← HA.out]; exact HBx.out⟩
   | true =>
    rw [hall] at o0
    have HA := zh hall
    clear hall
    by_cases hop : (o : Int) = par x
    ·have hopb : ((o : Int) == par x) = true := beq_iff_eq.2 hop
     have HT := zh (show asks (e0, e1) (loH hs) (hiH hs) par canV x p (o, jo) = true by unfold asks; rw [decide_eq_true hop]; rfl)
     clear hop
     gi_wp2
     exact ⟨KeepsFrom.refl _ _, KR.refl _ _ _, HKx.out, by rw [HALL.out, HT.out, Bool.and_true]; exact HBx.out⟩
    ·have hopb : ((o : Int) == par x) = false := beq_eq_false_iff_ne.2 hop
     have HT := zh (show asks (e0, e1) (loH hs) (hiH hs) par canV x p (o, jo) = (irange (loH hs o) (hiH hs o)).any (fun q => fitAtB (e0, e1) jo x p q && canV o q) by unfold asks; rw [decide_eq_false hop]; rfl)
     obtain ⟨hpo, hro⟩ := HP.out.child x hx _ hmem hop
     dsimp only at hpo hro
     have HPO := zh hpo
     have hospan := HS.out.span o hon
     clear hop hpo
     gi_wp2
     refine wpIn_label ?_
     obtain ⟨ad_, he_, g0, g1⟩ := H_at (Kd.C_below HS.out.heard CWx.out.base) o hon
     injection he_ with he_
     subst he_
     have s0 : Wx.cell? ⟨Bs, 0, none⟩ = some (.slice (some ad0) hs.length c0) := (blk_cell CWx.out.set 0).trans rfl
     gi_wp2
     clear s0 g0 g1 o0 o1 f0
     have HKR0 := zh (KB.refl M Wx)
     gi_loopw [17, 18] (fun f u wr => ∃ q : Int, loH hs o ≤ q ∧ q ≤ hiH hs o + 1 ∧ u = .int .i64 q ∧ f = .bool (anyTo (fun q => fitAtB (e0, e1) jo x p q && canV o q) (loH hs o) q) ∧ Aside0 (KB M Wx wr)) (fun _ u _ => (hiH hs o + 1 - intOf u).toNat)
     case atStart => exact ⟨loH hs o, Int.le_refl _, by omega, rfl, by rw [anyTo_start], HKR0⟩
     case round =>
      obtain ⟨q, hql, hqh, rfl, rfl, HKr⟩ := hrel
      have CWr := zh (CWx.out.keep HS.out (HKr.out.round (fun _ => True)) (fun _ _ => trivial) ⟨trivial, trivial, trivial, trivial, trivial⟩)
      have Xr := zh (HKr.out.at Xx.out (by omega))
      have Gr := zh (HKr.out.at HGx.out hgm)
      have HSTEP := zh (anyTo_succ (T := fun q => fitAtB (e0, e1) jo x p q && canV o q) (loH hs o) q hql)
      have hwr := HKr.out.kp.size
      obtain ⟨ad_, he_, g0, g1⟩ := H_at (Kd.C_below HS.out.heard CWr.out.base) o hon
      injection he_ with he_
      subst he_
      have s0 : wr.cell? ⟨Bs, 0, none⟩ = some (.slice (some ad0) hs.length c0) := (blk_cell CWr.out.set 0).trans rfl
      have x0 : wr.cell? ⟨W.heap.size, 0, none⟩ = some (.int .i64 (x : Int)) := vb Xr 0
      have x1 : wr.cell? ⟨W.heap.size, 1, none⟩ = some (.int .i64 p) := vb Xr 1
      have j0 : wr.cell? ⟨gp, 0, none⟩ = some (.int .i64 (jo.one : Int)) := vb Gr 0
      have j1 : wr.cell? ⟨gp, 1, none⟩ = some (.int .i64 (jo.two : Int)) := vb Gr 1
      have j2 : wr.cell? ⟨gp, 2, none⟩ = some (.int .i64 (kindV jo)) := vb Gr 2
      have j3 : wr.cell? ⟨gp, 3, none⟩ = some (.int .i64 jo.lo) := vb Gr 3
      have j4 : wr.cell? ⟨gp, 4, none⟩ = some (.int .i64 jo.hi) := vb Gr 4
      by_cases hqe : q ≤ hiH hs o
      ·have HIH : Aside0 (∀ W', CanW (some ad0) c0 hs vS vP b0 b1 lf e0 e1 A3 c3 js go m Bk Bg Bs Bf Bc w0 W' → M.P W' → CallsIn Fence.wide 9 Tryd.prog 80 #[.agg #[.int .i64 (o : Int), .int .i64 q], .int .i64 (x : Int), .pointer (some ⟨Bk, 0, none⟩), .pointer (some ⟨Bg, 0, none⟩), .pointer (some ⟨Bs, 0, none⟩), .pointer (some ⟨Bf, 0, none⟩), .pointer (some ⟨Bc, 0, none⟩)] W' fun e W'' => e = .returned (.bool (canV o q)) ∧ KB M W' W'') := ⟨fun W' h1 h2 => by have h := IH.out o q (by omega) hon hol hql (by omega) W' h1 h2; rw [HPO.out] at h; exact h⟩
       by_cases hj : jo.one = x
       ·have hjc : (jo.one == x) = true := beq_iff_eq.2 hj
        have hjd : decide (jo.one = x) = true := decide_eq_true hj
        have hje : (jo.one != x) = false := by simp [hj]
        have HF := zh (show fitAtB (e0, e1) jo x p q = fitB (e0, e1) jo p q by unfold fitAtB; rw [if_pos hj])
        clear hj
        have HKw := HKr
        have CWw := CWr
        have HGl := zh (HS.out.glob.below CWw.out.base)
        cases hfo : anyTo (fun q => fitAtB (e0, e1) jo x p q && canV o q) (loH hs o) q with
        | true =>
         have HFO := zh hfo
         clear hfo
         gi_wp2
         refine ⟨fun _ h_ => (by cases h_), ?_⟩
         gi_wp2
         go_roundw
         case rel => exact ⟨q + 1, by omega, by omega, rfl, by rw [HSTEP.out, HFO.out]; rfl, HKw⟩
         case measure => simp [intOf]; omega
        | false =>
         have HFO := zh hfo
         clear hfo
         have f0 : wr.cell? ⟨Bf, 0, none⟩ = some (.func (.func 53) #[.agg #[.slice (some ad0) hs.length c0, vS, vP, .int .i64 b0, .int .i64 b1, .slice A3 js.length c3, .bool (lf 0), .bool (lf 1), .bool (lf 2), .bool (lf 3), .bool (lf 4), .bool (lf 5), .bool (lf 6), .bool (lf 7), .int .i64 e0, .int .i64 e1]] #[]) := (blk_cell CWw.out.fits 0).trans rfl
         cases hfv : fitB (e0, e1) jo p q with
         | false =>
          have HFV := zh hfv
          have HFA := zh (HF.out.trans hfv)
          clear hfv
          gi_wp2_with (refine ⟨trivial, ?_⟩; gi_at_call 53; refine (CallsIn.inRound l2 (callsIn_wide.2 (fits_calls (.slice (some ad0) hs.length c0) vS vP (.slice A3 js.length c3) b0 b1 lf e0 e1 jo p q _ HGl.out HOK.out (by omega) (by omega) (by omega) (by omega)))).mono ?_; rintro e w5 ⟨rfl, hb5⟩; rw [HFV.out]; have HK5 := zh (HKw.out.trans (KB.of_below (M := M) hb5)); clear hb5)
          go_roundw
          case rel => exact ⟨q + 1, by omega, by omega, rfl, by rw [HSTEP.out, HFO.out, HFA.out]; rfl, HK5⟩
          case measure => simp [intOf]; omega
         | true =>
          have HFV := zh hfv
          have HFA := zh (HF.out.trans hfv)
          clear hfv
          gi_wp2_with (first | (refine ⟨trivial, ?_⟩; gi_at_call 53; refine (CallsIn.inRound l2 (callsIn_wide.2 (fits_calls (.slice (some ad0) hs.length c0) vS vP (.slice A3 js.length c3) b0 b1 lf e0 e1 jo p q _ HGl.out HOK.out (by omega) (by omega) (by omega) (by omega)))).mono ?_; rintro e w5 ⟨rfl, hb5⟩; rw [HFV.out]; have HK5 := zh (HKw.out.trans (KB.of_below (M := M) hb5)); clear hb5; have c5 : w5.cell? ⟨Bc, 0, none⟩ = some (.func (.func 80) #[] #[.pointer (some ⟨Bk, 0, none⟩), .pointer (some ⟨Bg, 0, none⟩), .pointer (some ⟨Bs, 0, none⟩), .pointer (some ⟨Bf, 0, none⟩), .pointer (some ⟨Bc, 0, none⟩)]) := (blk_cell (HK5.out.at CWx.out.can (by omega)) 0).trans rfl; have x5 : w5.cell? ⟨W.heap.size, 0, none⟩ = some (.int .i64 (x : Int)) := (blk_cell (HK5.out.at Xx.out (by omega)) 0).trans rfl) | (refine ⟨trivial, ?_⟩; gi_at_call 80; refine (CallsIn.inRound l2 (callsIn_any _ (HIH.out w5 (CWx.out.keep HS.out (HK5.out.round (fun _ => True)) (fun _ _ => trivial) ⟨trivial, trivial, trivial, trivial, trivial⟩) (HK5.out.memo HMx.out)))).mono ?_; rintro e w6 ⟨rfl, hk6⟩; have HK6 := zh (HK5.out.trans hk6); clear hk6))
          go_roundw
          case rel => exact ⟨q + 1, by omega, by omega, rfl, by rw [HSTEP.out, HFO.out, HFA.out]; rfl, HK6⟩
          case measure => simp [intOf]; omega
       ·have hjc : (jo.one == x) = false := beq_eq_false_iff_ne.2 hj
        have hjd : decide (jo.one = x) = false := decide_eq_false hj
        have hje : (jo.one != x) = true := by simp [hj]
        have HF := zh (show fitAtB (e0, e1) jo x p q = fitB (e0, e1) jo q p by unfold fitAtB; rw [if_neg hj])
        clear hj
        gi_wp2
        have X2 := zh (show wr.drew.heap[W.heap.size]? = _ from Xr.out)
        have K2 := zh (show KB M Wx wr.drew from HKr.out.trans (KB.of_below (below_drew1 (Below.refl wr.heap.size wr))))
        have G2 := zh (show wr.drew.heap[gp]? = _ from Gr.out)
        have HW2 : Aside0 (CanW (some ad0) c0 hs vS vP b0 b1 lf e0 e1 A3 c3 js go m Bk Bg Bs Bf Bc w0 wr.drew) := ⟨CWx.out.keep HS.out (K2.out.round (fun _ => True)) (fun _ _ => trivial) ⟨trivial, trivial, trivial, trivial, trivial⟩⟩
        refine start_in (n := 5) (S := fun w' => w'.cell? ⟨W.heap.size, 1, none⟩ = some (.int .i64 p)) (ds := []) #[false, false, false, false, false] zk rfl rfl zk (by rintro ⟨_, _, h⟩; exact h) (vb X2 1) (fun hHeld => ?_)
        refine with_tabW fCan.tab16 fCan.bits16 (fun HT_ HW_ => ?_)
        generalize wr.drew = w2 at X2 K2 G2 HW2 hHeld ⊢
        refine zu 0 ?_
        refine zu 1 ?_
        refine zu 3 ?_
        refine zt 2 ?_
        refine zu 4 ?_
        refine zd ?_
        clear x0 x1 j0 j1 j2 j3 j4 s0 g0 g1
        have HKw := K2
        have CWw := HW2
        have HGl := zh (HS.out.glob.below CWw.out.base)
        obtain ⟨ad_, he_, g0, g1⟩ := H_at (Kd.C_below HS.out.heard CWw.out.base) o hon
        injection he_ with he_
        subst he_
        have s0 : w2.cell? ⟨Bs, 0, none⟩ = some (.slice (some ad0) hs.length c0) := (blk_cell CWw.out.set 0).trans rfl
        have x0 : w2.cell? ⟨W.heap.size, 0, none⟩ = some (.int .i64 (x : Int)) := vb X2 0
        have x1 : w2.cell? ⟨W.heap.size, 1, none⟩ = some (.int .i64 p) := vb X2 1
        have j0 : w2.cell? ⟨gp, 0, none⟩ = some (.int .i64 (jo.one : Int)) := vb G2 0
        have j1 : w2.cell? ⟨gp, 1, none⟩ = some (.int .i64 (jo.two : Int)) := vb G2 1
        have j2 : w2.cell? ⟨gp, 2, none⟩ = some (.int .i64 (kindV jo)) := vb G2 2
        have j3 : w2.cell? ⟨gp, 3, none⟩ = some (.int .i64 jo.lo) := vb G2 3
        have j4 : w2.cell? ⟨gp, 4, none⟩ = some (.int .i64 jo.hi) := vb G2 4
        cases hfo : anyTo (fun q => fitAtB (e0, e1) jo x p q && canV o q) (loH hs o) q with
        | true =>
         have HFO := zh hfo
         clear hfo
         gi_wp2
         refine ⟨fun _ h_ => (by cases h_), ?_⟩
         gi_wp2
         go_roundw
         case rel => exact ⟨q + 1, by omega, by omega, rfl, by rw [HSTEP.out, HFO.out]; rfl, HKw⟩
         case measure => simp [intOf]; omega
        | false =>
         have HFO := zh hfo
         clear hfo
         have f0 : w2.cell? ⟨Bf, 0, none⟩ = some (.func (.func 53) #[.agg #[.slice (some ad0) hs.length c0, vS, vP, .int .i64 b0, .int .i64 b1, .slice A3 js.length c3, .bool (lf 0), .bool (lf 1), .bool (lf 2), .bool (lf 3), .bool (lf 4), .bool (lf 5), .bool (lf 6), .bool (lf 7), .int .i64 e0, .int .i64 e1]] #[]) := (blk_cell CWw.out.fits 0).trans rfl
         cases hfv : fitB (e0, e1) jo q p with
         | false =>
          have HFV := zh hfv
          have HFA := zh (HF.out.trans hfv)
          clear hfv
          gi_wp2_with (refine ⟨trivial, ?_⟩; gi_at_call 53; refine (CallsIn.inRound l2 (callsIn_wide.2 (fits_calls (.slice (some ad0) hs.length c0) vS vP (.slice A3 js.length c3) b0 b1 lf e0 e1 jo q p _ HGl.out HOK.out (by omega) (by omega) (by omega) (by omega)))).mono ?_; rintro e w5 ⟨rfl, hb5⟩; rw [HFV.out]; have HK5 := zh (HKw.out.trans (KB.of_below (M := M) hb5)); clear hb5)
          go_roundw
          case rel => exact ⟨q + 1, by omega, by omega, rfl, by rw [HSTEP.out, HFO.out, HFA.out]; rfl, HK5⟩
          case measure => simp [intOf]; omega
         | true =>
          have HFV := zh hfv
          have HFA := zh (HF.out.trans hfv)
          clear hfv
          gi_wp2_with (first | (refine ⟨trivial, ?_⟩; gi_at_call 53; refine (CallsIn.inRound l2 (callsIn_wide.2 (fits_calls (.slice (some ad0) hs.length c0) vS vP (.slice A3 js.length c3) b0 b1 lf e0 e1 jo q p _ HGl.out HOK.out (by omega) (by omega) (by omega) (by omega)))).mono ?_; rintro e w5 ⟨rfl, hb5⟩; rw [HFV.out]; have HK5 := zh (HKw.out.trans (KB.of_below (M := M) hb5)); clear hb5; have c5 : w5.cell? ⟨Bc, 0, none⟩ = some (.func (.func 80) #[] #[.pointer (some ⟨Bk, 0, none⟩), .pointer (some ⟨Bg, 0, none⟩), .pointer (some ⟨Bs, 0, none⟩), .pointer (some ⟨Bf, 0, none⟩), .pointer (some ⟨Bc, 0, none⟩)]) := (blk_cell (HK5.out.at CWx.out.can (by omega)) 0).trans rfl; have x5 : w5.cell? ⟨W.heap.size, 0, none⟩ = some (.int .i64 (x : Int)) := (blk_cell (HK5.out.at Xx.out (by omega)) 0).trans rfl) | (refine ⟨trivial, ?_⟩; gi_at_call 80; refine (CallsIn.inRound l2 (callsIn_any _ (HIH.out w5 (CWx.out.keep HS.out (HK5.out.round (fun _ => True)) (fun _ _ => trivial) ⟨trivial, trivial, trivial, trivial, trivial⟩) (HK5.out.memo HMx.out)))).mono ?_; rintro e w6 ⟨rfl, hk6⟩; have HK6 := zh (HK5.out.trans hk6); clear hk6))
          go_roundw
          case rel => exact ⟨q + 1, by omega, by omega, rfl, by rw [HSTEP.out, HFO.out, HFA.out]; rfl, HK6⟩
          case measure => simp [intOf]; omega
      ·obtain rfl : q = hiH hs o + 1 := by omega
       clear x0 x1 j0 j1 j2 j3 j4
       have hng : ¬ (hiH hs o + 1 ≤ hiH hs o) := by omega
       have Or_ : Boxed wr (W.heap.size + 1 + 1) 4 (.bool true) := by have h := HKr.out.box HBx.out (by omega); rw [HA.out] at h; exact h
       have OR := zh Or_
       have o0 := Or_.cell
       have o1 := Or_.frozen
       have HAE := zh (anyTo_end (fun q => fitAtB (e0, e1) jo x p q && canV o q) (loH hs o) (hiH hs o))
       clear Or_
       gi_wp2
       exact ⟨((HKr.out.round (fun _ => True)).keeps (fun _ _ _ => trivial) (by omega)).trans ((KeepsOthers.setCell _ _ _).from _), (HKr.out.round _).set (.inl (by rintro (h | h); exact h.2 rfl; omega)) (by omega) 0 _, (HKx.out.step HKr.out).set (.inl (fun h => h.2 rfl)) (by omega) 0 _, by rw [HALL.out, ← Bool.and_assoc, HA.out, HT.out, ← HAE.out, Bool.true_and]; exact OR.out.set _⟩
  case done =>
   rintro D Wx hD ⟨hK1, hb1⟩ hKd
   have HC2 : (okG gl x p && (nbrs js lf x).all (asks (e0, e1) (loH hs) (hiH hs) par canV x p)) = canV x p := HCAN.out.symm
   rw [HC2] at hb1
   have HKx := zh hK1
   have HBx := zh hb1
   have HD := zh hKd
   have CWx := zh (CW0.out.keep HS.out hK1 (fun i hi => ⟨by omega, by omega⟩) ⟨⟨by omega, by omega⟩, ⟨by omega, by omega⟩, ⟨by omega, by omega⟩, ⟨by omega, by omega⟩, ⟨by omega, by omega⟩⟩)
   have Xx := zh (hK1.at P0.out ⟨by omega, by omega⟩ (by omega))
   have HMx := hK1.memo HMW.out
   rw [← HMD.out] at HMx
   obtain ⟨kv2, hkv2, hkt2⟩ := HMx
   have HKV2 := zh hkv2
   have HKT2 := zh hkt2
   have k0 : Wx.cell? ⟨Bk, 0, none⟩ = some (.map (some m)) := (blk_cell CWx.out.known 0).trans rfl
   have x0 : Wx.cell? ⟨W.heap.size, 0, none⟩ = some (.int .i64 (x : Int)) := vb Xx 0
   have x1 : Wx.cell? ⟨W.heap.size, 1, none⟩ = some (.int .i64 p) := vb Xx 1
   have o0 := HBx.out.cell
   have hWx := hK1.size
   clear hK1 hb1 hKd hkv2 hkt2 HC2
   gi_wp2_with ((with_reducible refine wpListIn_update E111 Value.bool rfl (.tmp 106) (.tmp 107) (.tmp 108) rfl Tryd.underlying108 rfl HKV2.out ((x : Int), p) (canV x p) rfl rfl ?_); intro w9 hm9 hg9; have HM9 := zh hm9; have HG9 := zh hg9; have o9 : w9.cell? ⟨W.heap.size + 1 + 1, 0, none⟩ = some (.bool (canV x p)) := by (have hb9 : w9.heap[W.heap.size + 1 + 1]? = Wx.heap[W.heap.size + 1 + 1]? := hg9.block _ (by omega) (by intro e; injection e; omega)); exact (blk_cell (hb9.trans HBx.out) 0).trans rfl)
   have HD9 := zh ((HG9.out.block D (blk_lt HD.out) (by intro e; injection e; omega)).trans HD.out)
   refine ⟨by simp, .inl ⟨_, _, rfl, run_takeDeferred HD9.out, ?_⟩⟩
   refine ⟨.bool (canV x p), by simp [results, Tryd.results80, go_sem], rfl, ?_⟩
   have hKP : Kp m W Wx := (KR.kbs (M := M) K1.out HKx.out (fun i hi => ⟨by omega, by omega⟩)).kp
   have hKP2 : Kp m W (w9.putObj D (.deferred none)) := by
    have h3 : Kp m Wx w9 := Kp.grown (Below.refl _ _) HG9.out
    have h4 := hKP.trans h3
    exact ⟨h4.os, h4.tape, h4.output, by simpa using h4.size, fun i hi hne => (World.putObj_heap_other (by omega)).trans (h4.block i hi hne)⟩
   refine ⟨hKP2, fun _ => ?_⟩
   rw [← HMD.out]
   refine ⟨_, HM9.out.move (World.putObj_heap_other (by have := HM9.out.lt; omega)), fun e he y hy => ?_⟩
   rcases kvSet_mem he with rfl | he
   ·have hy2 : (x : Int) = (y : Int) := hy
    have : y = x := by omega
    rw [this]
   ·exact HKT2.out e he y hy
  case stop =>
   rintro D c pre Wx hD hpre h hKd
   exact h.elim
end Go.Proofs.YtgehkojccmkggaaDoor.K
end
section
namespace Go.Proofs.YtgehkojccmkggaaDoor.K
open Go.RowKit Go.Shelf Go.Proofs.YtgehkojccmkggaaDoorW.PrintWords Go.Proofs.YtgehkojccmkggaaDoorW.PrintLast Go.Proofs.YtgehkojccmkggaaDoorW.PrintMore Go.Proofs.YtgehkojccmkggaaDoor.H Tune
set_option linter.unusedVariables false
set_option linter.unusedSimpArgs false
attribute [local go_sem] Oper.semAt_some
theorem anyTo_false {T : Int → Bool} {lo q : Int} (h : anyTo T lo q = false) : ∀ z, lo ≤ z → z < q → T z = false := by
 intro z h1 h2
 unfold anyTo at h
 rw [List.any_eq_false] at h
 have := h z (mem_irange.2 ⟨h1, by omega⟩)
 simpa using this
theorem find_none {T : Int → Bool} {lo hi : Int} (h : anyTo T lo (hi + 1) = false) : (irange lo hi).find? T = none := by
 rw [List.find?_eq_none]
 intro z hz
 have := anyTo_false h z (mem_irange.1 hz).1 (by have := (mem_irange.1 hz).2; omega)
 simp [this]
theorem find_first {T : Int → Bool} {hi q : Int} (hq : q ≤ hi) (hT : T q = true) : ∀ (d : Nat) (lo : Int), q = lo + d → anyTo T lo q = false → (irange lo hi).find? T = some q
 | 0, lo, e, _ => by
  obtain rfl : lo = q := by omega
  rw [irange_cons hq, List.find?_cons, hT]
 | d + 1, lo, e, h => by
  rw [irange_cons (by omega), List.find?_cons, anyTo_false h lo (by omega) (by omega)]
  refine find_first hq hT d (lo + 1) (by omega) ?_
  have h2 := anyTo_false h
  unfold anyTo
  rw [List.any_eq_false]
  intro z hz
  have := h2 z (by have := (mem_irange.1 hz).1; omega) (by have := (mem_irange.1 hz).2; omega)
  simp [this]
def foldS (js : List J) (lf : Nat → Bool) (b : Int × Int) (lo hi : Nat → Int) (par : Nat → Int) (canV : Nat → Int → Bool) (r x : Nat) (p : Int) (pre : List (Nat × J)) (l0 : List Int) : List Int :=
 pre.foldl (fun l oj => if (oj.1 : Int) = par x then l else match (irange (lo oj.1) (hi oj.1)).find? (fun q => fitAtB b oj.2 x p q && canV oj.1 q) with | none => l | some q => setF js lf b lo hi par canV r oj.1 q l) l0
theorem foldS_snoc (js : List J) (lf : Nat → Bool) (b : Int × Int) (lo hi : Nat → Int) (par : Nat → Int) (canV : Nat → Int → Bool) (r x : Nat) (p : Int) (pre : List (Nat × J)) (oj : Nat × J) (l0 : List Int) :
  foldS js lf b lo hi par canV r x p (pre ++ [oj]) l0 = if (oj.1 : Int) = par x then foldS js lf b lo hi par canV r x p pre l0 else match (irange (lo oj.1) (hi oj.1)).find? (fun q => fitAtB b oj.2 x p q && canV oj.1 q) with | none => foldS js lf b lo hi par canV r x p pre l0 | some q => setF js lf b lo hi par canV r oj.1 q (foldS js lf b lo hi par canV r x p pre l0) := by
 unfold foldS
 rw [List.foldl_append]
 rfl
theorem setF_length (js : List J) (lf : Nat → Bool) (b : Int × Int) (lo hi : Nat → Int) (par : Nat → Int) (canV : Nat → Int → Bool) : ∀ (r x : Nat) (p : Int) (l : List Int), (setF js lf b lo hi par canV r x p l).length = l.length
 | 0, _, _, _ => rfl
 | r + 1, x, p, l => by
  have main : ∀ (rest : List (Nat × J)) (l : List Int), (foldS js lf b lo hi par canV r x p rest l).length = l.length := by
   intro rest
   induction rest with
   | nil => exact fun l => rfl
   | cons oj rest ihr =>
    intro l
    unfold foldS
    rw [List.foldl_cons]
    refine (ihr _).trans ?_
    split
    ·rfl
    ·split
     ·rfl
     ·exact setF_length js lf b lo hi par canV r oj.1 _ l
  exact (main _ _).trans (by rw [List.length_set])
theorem foldS_length (js : List J) (lf : Nat → Bool) (b : Int × Int) (lo hi : Nat → Int) (par : Nat → Int) (canV : Nat → Int → Bool) (r x : Nat) (p : Int) : ∀ (pre : List (Nat × J)) (l0 : List Int), (foldS js lf b lo hi par canV r x p pre l0).length = l0.length
 | [], _ => rfl
 | oj :: pre, l0 => by
  unfold foldS
  rw [List.foldl_cons]
  refine (foldS_length js lf b lo hi par canV r x p pre _).trans ?_
  split
  ·rfl
  ·split
   ·rfl
   ·exact setF_length js lf b lo hi par canV r oj.1 _ l0
structure SetW (ad0 : Addr) (c0 : Nat) (hs : List S26) (vS vP : Value) (b0 b1 : Int) (lf : Nat → Bool) (e0 e1 : Int) (A3 : Option Addr) (c3 : Nat) (js : List J) (go : Option Nat) (m Bk Bg Bs Bf Bc Bo Bt gt : Nat) (w0 W : World) : Prop where
 canW : CanW (some ad0) c0 hs vS vP b0 b1 lf e0 e1 A3 c3 js go m Bk Bg Bs Bf Bc w0 W
 out : W.heap[Bo]? = some (.cells #[.slice (some ⟨gt, 0, none⟩) hs.length hs.length] 29 (0, 0))
 set : W.heap[Bt]? = some (.cells #[.func (.func 82) #[] #[.pointer (some ⟨Bo, 0, none⟩), .pointer (some ⟨Bs, 0, none⟩), .pointer (some ⟨Bf, 0, none⟩), .pointer (some ⟨Bc, 0, none⟩), .pointer (some ⟨Bt, 0, none⟩)]] 116 (0, 0))
structure SetNe (m Bk Bg Bs Bf Bc Bo Bt gt : Nat) (w0 : World) : Prop where
 m : Bo ≠ m ∧ Bt ≠ m ∧ gt ≠ m
 g : Bk ≠ gt ∧ Bg ≠ gt ∧ Bs ≠ gt ∧ Bf ≠ gt ∧ Bc ≠ gt ∧ Bo ≠ gt ∧ Bt ≠ gt
 w : w0.heap.size ≤ gt
theorem SetW.keep {ad0 : Addr} {c0 : Nat} {hs : List S26} {vS vP : Value} {b0 b1 : Int} {lf : Nat → Bool} {e0 e1 : Int} {A3 : Option Addr} {c3 : Nat} {js : List J} {go : Option Nat} {gl : List (Int × Int)} {m Bk Bg Bs Bf Bc Bo Bt gt : Nat} {w0 W W' : World} {M : Mm m} {S : Nat → Prop}
  (h : SetW ad0 c0 hs vS vP b0 b1 lf e0 e1 A3 c3 js go m Bk Bg Bs Bf Bc Bo Bt gt w0 W) (hs_ : CanS (some ad0) hs A3 js go gl m Bk Bg Bs Bf Bc w0) (hn : SetNe m Bk Bg Bs Bf Bc Bo Bt gt w0) (hk : KR M S W W') (hS : ∀ i, i < W.heap.size → i ≠ gt → S i) : SetW ad0 c0 hs vS vP b0 b1 lf e0 e1 A3 c3 js go m Bk Bg Bs Bf Bc Bo Bt gt w0 W' :=
 ⟨h.canW.keep hs_ hk (fun i hi => hS i (Nat.lt_of_lt_of_le hi h.canW.base.size) (by have := hn.w; omega)) ⟨hS _ (blk_lt h.canW.known) hn.g.1, hS _ (blk_lt h.canW.given) hn.g.2.1, hS _ (blk_lt h.canW.set) hn.g.2.2.1, hS _ (blk_lt h.canW.fits) hn.g.2.2.2.1, hS _ (blk_lt h.canW.can) hn.g.2.2.2.2.1⟩,
  hk.at h.out (hS _ (blk_lt h.out) hn.g.2.2.2.2.2.1) hn.m.1, hk.at h.set (hS _ (blk_lt h.set) hn.g.2.2.2.2.2.2) hn.m.2.1⟩
def fSet.T11 : Bool × List (List Nat × List Nat) := (true, [([], []), ([], []), ([1], [1]), ([0, 0], [0]), ([2, 3, 0, 1, 2, 3], [2])])
def fSet.B11 : List Nat := [0, 0, 2, 1, 15]
theorem fSet.tab11 : rtab .any (opsOf Tryd.f82 11) = fSet.T11 := by kernel_rfl
theorem fSet.bits11 : waitsOk fSet.T11.2 fSet.B11 = true := by kernel_rfl
set_option maxRecDepth 100000 in
set_option maxHeartbeats 8000000 in
theorem set_calls (ad0 : Addr) (c0 : Nat) (hs : List S26) (vS vP : Value) (b0 b1 : Int) (lf : Nat → Bool) (e0 e1 : Int) (A3 : Option Addr) (c3 : Nat) (js : List J) (go : Option Nat) (gl : List (Int × Int)) (m Bk Bg Bs Bf Bc Bo Bt gt : Nat) (w0 : World)
  (hS : CanS (some ad0) hs A3 js go gl m Bk Bg Bs Bf Bc w0) (hN : SetNe m Bk Bg Bs Bf Bc Bo Bt gt w0) (par : Nat → Int) (rank : Nat → Nat) (canV : Nat → Int → Bool) (hP : Plan hs.length js lf (e0, e1) (loH hs) (hiH hs) (okG gl) par rank canV)
  (hcan : ∀ (o : Nat) (q : Int), o < hs.length → lf o = false → loH hs o ≤ q → q ≤ hiH hs o → ∀ W', CanW (some ad0) c0 hs vS vP b0 b1 lf e0 e1 A3 c3 js go m Bk Bg Bs Bf Bc w0 W' → (memoM canV m).P W' →
   CallsIn Fence.wide 9 Tryd.prog 80 #[.agg #[.int .i64 (o : Int), .int .i64 q], .int .i64 (par o), .pointer (some ⟨Bk, 0, none⟩), .pointer (some ⟨Bg, 0, none⟩), .pointer (some ⟨Bs, 0, none⟩), .pointer (some ⟨Bf, 0, none⟩), .pointer (some ⟨Bc, 0, none⟩)] W' fun e W'' => e = .returned (.bool (canV o q)) ∧ KB (memoM canV m) W' W'') :
  ∀ (r x : Nat) (p : Int) (l : List Int), rank x < r → x < hs.length → lf x = false → loH hs x ≤ p → p ≤ hiH hs x → l.length = hs.length → ∀ W, SetW ad0 c0 hs vS vP b0 b1 lf e0 e1 A3 c3 js go m Bk Bg Bs Bf Bc Bo Bt gt w0 W → (memoM canV m).P W → W.heap[gt]? = some (.cells (is_ l) 3 (0, 0)) →
   CallsIn Fence.wide 9 Tryd.prog 82 #[.agg #[.int .i64 (x : Int), .int .i64 p], .int .i64 (par x), .pointer (some ⟨Bo, 0, none⟩), .pointer (some ⟨Bs, 0, none⟩), .pointer (some ⟨Bf, 0, none⟩), .pointer (some ⟨Bc, 0, none⟩), .pointer (some ⟨Bt, 0, none⟩)] W fun e W' => (∃ v, e = .returned v) ∧ KR (memoM canV m) (fun i => i ≠ gt) W W' ∧ W'.heap[gt]? = some (.cells (is_ (setF js lf (e0, e1) (loH hs) (hiH hs) par canV r x p l)) 3 (0, 0))
 | 0, _, _, _, h, _, _, _, _, _, _, _, _, _ => absurd h (Nat.not_lt_zero _)
 | r + 1, x, p, l, hr, hx, hlx, hlo, hhi, hll, W, hW, hM, hg => by
  have ih := set_calls ad0 c0 hs vS vP b0 b1 lf e0 e1 A3 c3 js go gl m Bk Bg Bs Bf Bc Bo Bt gt w0 hS hN par rank canV hP hcan r
  have hu111 := Tryd.underlying111
  have hu77 := Tryd.underlying77
  have hu80 := Tryd.underlying80
  have hu28 := Tryd.underlying28
  have hu26 := Tryd.underlying26
  have hu22 := Tryd.underlying22
  obtain ⟨M, hMdef⟩ : ∃ M, memoM canV m = M := ⟨_, rfl⟩
  have hMP : M.P W := by rw [← hMdef]; exact hM
  have HMP := zh hMP
  have hmW := M.lt HMP.out
  rw [hMdef] at ih hcan ⊢
  clear hMdef hM hMP
  have IH := zh ih
  have HCA := zh hcan
  have HS := zh hS
  have HW := zh hW
  have HP := zh hP
  have HN := zh hN
  have HG := zh hg
  have hsp := hS.span x hx
  have hne := hS.ne
  have hnm := hN.m
  have hng := hN.g
  have hm0 := hS.m0
  have hn8 := hS.len
  have hg0 := hN.w
  have hw0 := hW.canW.base.size
  have hkl := blk_lt hW.canW.known
  have hgl := blk_lt hW.canW.given
  have hsl := blk_lt hW.canW.set
  have hfl := blk_lt hW.canW.fits
  have hcl := blk_lt hW.canW.can
  have hol_ := blk_lt hW.out
  have htl := blk_lt hW.set
  have hgtl := blk_lt hg
  have k0 : ((W.alloc (.cells #[.int .i64 (x : Int), .int .i64 p] 111)).alloc (.cells #[.int .i64 (par x)] 3)).cell? ⟨Bo, 0, none⟩ = some (.slice (some ⟨gt, 0, none⟩) hs.length hs.length) := cell_a2 ((blk_cell (hW.out) 0).trans rfl) _ _
  have G1 := zh (blk_alloc (blk_alloc hg (.cells #[.int .i64 (x : Int), .int .i64 p] 111)) (.cells #[.int .i64 (par x)] 3))
  have q0 : ((W.alloc (.cells #[.int .i64 (x : Int), .int .i64 p] 111)).alloc (.cells #[.int .i64 (par x)] 3)).cell? ⟨gt, x, none⟩ = some (.int .i64 (l.getD x 0)) := is_at G1.out x (by omega)
  have q1 : ((W.alloc (.cells #[.int .i64 (x : Int), .int .i64 p] 111)).alloc (.cells #[.int .i64 (par x)] 3)).frozen? ⟨gt, x, none⟩ = false := blk_frozen G1.out x
  have y0 : (((W.setCell ⟨gt, x, none⟩ (.int .i64 p)).alloc (.cells #[.int .i64 (x : Int), .int .i64 p] 111)).alloc (.cells #[.int .i64 (par x)] 3)).cell? ⟨Bs, 0, none⟩ = some (.slice (some ad0) hs.length c0) := cell_a2 ((blk_cell (blk_far hW.canW.set (p := ⟨gt, x, none⟩) hN.g.2.2.1 (.int .i64 p)) 0).trans rfl) _ _
  have y1 : (((W.setCell ⟨gt, x, none⟩ (.int .i64 p)).alloc (.cells #[.int .i64 (x : Int), .int .i64 p] 111)).alloc (.cells #[.int .i64 (par x)] 3)).cell? ⟨Bs, 1, none⟩ = some (vS) := cell_a2 ((blk_cell (blk_far hW.canW.set (p := ⟨gt, x, none⟩) hN.g.2.2.1 (.int .i64 p)) 1).trans rfl) _ _
  have y2 : (((W.setCell ⟨gt, x, none⟩ (.int .i64 p)).alloc (.cells #[.int .i64 (x : Int), .int .i64 p] 111)).alloc (.cells #[.int .i64 (par x)] 3)).cell? ⟨Bs, 2, none⟩ = some (vP) := cell_a2 ((blk_cell (blk_far hW.canW.set (p := ⟨gt, x, none⟩) hN.g.2.2.1 (.int .i64 p)) 2).trans rfl) _ _
  have y3 : (((W.setCell ⟨gt, x, none⟩ (.int .i64 p)).alloc (.cells #[.int .i64 (x : Int), .int .i64 p] 111)).alloc (.cells #[.int .i64 (par x)] 3)).cell? ⟨Bs, 3, none⟩ = some (.int .i64 b0) := cell_a2 ((blk_cell (blk_far hW.canW.set (p := ⟨gt, x, none⟩) hN.g.2.2.1 (.int .i64 p)) 3).trans rfl) _ _
  have y4 : (((W.setCell ⟨gt, x, none⟩ (.int .i64 p)).alloc (.cells #[.int .i64 (x : Int), .int .i64 p] 111)).alloc (.cells #[.int .i64 (par x)] 3)).cell? ⟨Bs, 4, none⟩ = some (.int .i64 b1) := cell_a2 ((blk_cell (blk_far hW.canW.set (p := ⟨gt, x, none⟩) hN.g.2.2.1 (.int .i64 p)) 4).trans rfl) _ _
  have y5 : (((W.setCell ⟨gt, x, none⟩ (.int .i64 p)).alloc (.cells #[.int .i64 (x : Int), .int .i64 p] 111)).alloc (.cells #[.int .i64 (par x)] 3)).cell? ⟨Bs, 5, none⟩ = some (.slice A3 js.length c3) := cell_a2 ((blk_cell (blk_far hW.canW.set (p := ⟨gt, x, none⟩) hN.g.2.2.1 (.int .i64 p)) 5).trans rfl) _ _
  have y6 : (((W.setCell ⟨gt, x, none⟩ (.int .i64 p)).alloc (.cells #[.int .i64 (x : Int), .int .i64 p] 111)).alloc (.cells #[.int .i64 (par x)] 3)).cell? ⟨Bs, 6, none⟩ = some (.bool (lf 0)) := cell_a2 ((blk_cell (blk_far hW.canW.set (p := ⟨gt, x, none⟩) hN.g.2.2.1 (.int .i64 p)) 6).trans rfl) _ _
  have y7 : (((W.setCell ⟨gt, x, none⟩ (.int .i64 p)).alloc (.cells #[.int .i64 (x : Int), .int .i64 p] 111)).alloc (.cells #[.int .i64 (par x)] 3)).cell? ⟨Bs, 7, none⟩ = some (.bool (lf 1)) := cell_a2 ((blk_cell (blk_far hW.canW.set (p := ⟨gt, x, none⟩) hN.g.2.2.1 (.int .i64 p)) 7).trans rfl) _ _
  have y8 : (((W.setCell ⟨gt, x, none⟩ (.int .i64 p)).alloc (.cells #[.int .i64 (x : Int), .int .i64 p] 111)).alloc (.cells #[.int .i64 (par x)] 3)).cell? ⟨Bs, 8, none⟩ = some (.bool (lf 2)) := cell_a2 ((blk_cell (blk_far hW.canW.set (p := ⟨gt, x, none⟩) hN.g.2.2.1 (.int .i64 p)) 8).trans rfl) _ _
  have y9 : (((W.setCell ⟨gt, x, none⟩ (.int .i64 p)).alloc (.cells #[.int .i64 (x : Int), .int .i64 p] 111)).alloc (.cells #[.int .i64 (par x)] 3)).cell? ⟨Bs, 9, none⟩ = some (.bool (lf 3)) := cell_a2 ((blk_cell (blk_far hW.canW.set (p := ⟨gt, x, none⟩) hN.g.2.2.1 (.int .i64 p)) 9).trans rfl) _ _
  have y10 : (((W.setCell ⟨gt, x, none⟩ (.int .i64 p)).alloc (.cells #[.int .i64 (x : Int), .int .i64 p] 111)).alloc (.cells #[.int .i64 (par x)] 3)).cell? ⟨Bs, 10, none⟩ = some (.bool (lf 4)) := cell_a2 ((blk_cell (blk_far hW.canW.set (p := ⟨gt, x, none⟩) hN.g.2.2.1 (.int .i64 p)) 10).trans rfl) _ _
  have y11 : (((W.setCell ⟨gt, x, none⟩ (.int .i64 p)).alloc (.cells #[.int .i64 (x : Int), .int .i64 p] 111)).alloc (.cells #[.int .i64 (par x)] 3)).cell? ⟨Bs, 11, none⟩ = some (.bool (lf 5)) := cell_a2 ((blk_cell (blk_far hW.canW.set (p := ⟨gt, x, none⟩) hN.g.2.2.1 (.int .i64 p)) 11).trans rfl) _ _
  have y12 : (((W.setCell ⟨gt, x, none⟩ (.int .i64 p)).alloc (.cells #[.int .i64 (x : Int), .int .i64 p] 111)).alloc (.cells #[.int .i64 (par x)] 3)).cell? ⟨Bs, 12, none⟩ = some (.bool (lf 6)) := cell_a2 ((blk_cell (blk_far hW.canW.set (p := ⟨gt, x, none⟩) hN.g.2.2.1 (.int .i64 p)) 12).trans rfl) _ _
  have y13 : (((W.setCell ⟨gt, x, none⟩ (.int .i64 p)).alloc (.cells #[.int .i64 (x : Int), .int .i64 p] 111)).alloc (.cells #[.int .i64 (par x)] 3)).cell? ⟨Bs, 13, none⟩ = some (.bool (lf 7)) := cell_a2 ((blk_cell (blk_far hW.canW.set (p := ⟨gt, x, none⟩) hN.g.2.2.1 (.int .i64 p)) 13).trans rfl) _ _
  have y14 : (((W.setCell ⟨gt, x, none⟩ (.int .i64 p)).alloc (.cells #[.int .i64 (x : Int), .int .i64 p] 111)).alloc (.cells #[.int .i64 (par x)] 3)).cell? ⟨Bs, 14, none⟩ = some (.int .i64 e0) := cell_a2 ((blk_cell (blk_far hW.canW.set (p := ⟨gt, x, none⟩) hN.g.2.2.1 (.int .i64 p)) 14).trans rfl) _ _
  have y15 : (((W.setCell ⟨gt, x, none⟩ (.int .i64 p)).alloc (.cells #[.int .i64 (x : Int), .int .i64 p] 111)).alloc (.cells #[.int .i64 (par x)] 3)).cell? ⟨Bs, 15, none⟩ = some (.int .i64 e1) := cell_a2 ((blk_cell (blk_far hW.canW.set (p := ⟨gt, x, none⟩) hN.g.2.2.1 (.int .i64 p)) 15).trans rfl) _ _
  clear hW hS hP hN ih hcan hg
  refine callsIn_of_wp_marks Tryd.func82 rfl trivial ?_ rfl
  simp only [Tryd.ntmps82, List.size_toArray, List.length_cons, List.length_nil, Nat.reduceAdd, Nat.reduceSub, Array.replicate_succ, Array.replicate_zero, List.push_toArray, List.append_toArray, List.nil_append, List.cons_append]
  gi_wp2_with (refine ⟨trivial, ?_⟩; gi_at_call 81; refine (callsIn_any _ (joined_calls (.slice (some ad0) hs.length c0) vS vP (.slice A3 js.length c3) b0 b1 lf e0 e1 x _)).mono ?_; rintro e w' ⟨rfl, rfl⟩)
  clear q0 q1 k0 G1 y0 y1 y2 y3 y4 y5 y6 y7 y8 y9 y10 y11 y12 y13 y14 y15
  have G0 := zh (is_set HG.out x p)
  have KS := zh ((KR.refl M (fun i => i ≠ gt) W).set (g := gt) (.inl (fun h => h rfl)) (Ne.symm hnm.2.2) x (.int .i64 p))
  have SW1 := zh (HW.out.keep HS.out HN.out KS.out (fun i _ hi => hi))
  have hsW : (W.setCell ⟨gt, x, none⟩ (.int .i64 p)).heap.size = W.heap.size := by simp
  obtain ⟨W1, hW1⟩ : ∃ W1, W.setCell ⟨gt, x, none⟩ (.int .i64 p) = W1 := ⟨_, rfl⟩
  simp only [hW1] at G0 KS SW1 hsW ⊢
  clear hW1
  have K1 := zh (((((KB.refl M W1).trans (KB.alloc M W1 (.cells #[.int .i64 (x : Int), .int .i64 p] 111))).trans (KB.alloc M (W1.alloc (.cells #[.int .i64 (x : Int), .int .i64 p] 111)) (.cells #[.int .i64 (par x)] 3))).trans (KB.alloc M ((W1.alloc (.cells #[.int .i64 (x : Int), .int .i64 p] 111)).alloc (.cells #[.int .i64 (par x)] 3)) (.cells #[.slice (some ad0) hs.length c0, vS, vP, .int .i64 b0, .int .i64 b1, .slice A3 js.length c3, .bool (lf 0), .bool (lf 1), .bool (lf 2), .bool (lf 3), .bool (lf 4), .bool (lf 5), .bool (lf 6), .bool (lf 7), .int .i64 e0, .int .i64 e1] 77))).trans (KB.alloc M (((W1.alloc (.cells #[.int .i64 (x : Int), .int .i64 p] 111)).alloc (.cells #[.int .i64 (par x)] 3)).alloc (.cells #[.slice (some ad0) hs.length c0, vS, vP, .int .i64 b0, .int .i64 b1, .slice A3 js.length c3, .bool (lf 0), .bool (lf 1), .bool (lf 2), .bool (lf 3), .bool (lf 4), .bool (lf 5), .bool (lf 6), .bool (lf 7), .int .i64 e0, .int .i64 e1] 77)) (.cells #[.int .i64 (x : Int)] 3)))
  have P0 := zh (blk_alloc (blk_alloc (blk_alloc (alloc_at W1 (.cells #[.int .i64 (x : Int), .int .i64 p] 111) (W.heap.size) (by simp [hsW])) (.cells #[.int .i64 (par x)] 3)) (.cells #[.slice (some ad0) hs.length c0, vS, vP, .int .i64 b0, .int .i64 b1, .slice A3 js.length c3, .bool (lf 0), .bool (lf 1), .bool (lf 2), .bool (lf 3), .bool (lf 4), .bool (lf 5), .bool (lf 6), .bool (lf 7), .int .i64 e0, .int .i64 e1] 77)) (.cells #[.int .i64 (x : Int)] 3))
  have P1 := zh (blk_alloc (blk_alloc (alloc_at (W1.alloc (.cells #[.int .i64 (x : Int), .int .i64 p] 111)) (.cells #[.int .i64 (par x)] 3) (W.heap.size + 1) (by simp [hsW])) (.cells #[.slice (some ad0) hs.length c0, vS, vP, .int .i64 b0, .int .i64 b1, .slice A3 js.length c3, .bool (lf 0), .bool (lf 1), .bool (lf 2), .bool (lf 3), .bool (lf 4), .bool (lf 5), .bool (lf 6), .bool (lf 7), .int .i64 e0, .int .i64 e1] 77)) (.cells #[.int .i64 (x : Int)] 3))
  have P2 := zh (blk_alloc (alloc_at ((W1.alloc (.cells #[.int .i64 (x : Int), .int .i64 p] 111)).alloc (.cells #[.int .i64 (par x)] 3)) (.cells #[.slice (some ad0) hs.length c0, vS, vP, .int .i64 b0, .int .i64 b1, .slice A3 js.length c3, .bool (lf 0), .bool (lf 1), .bool (lf 2), .bool (lf 3), .bool (lf 4), .bool (lf 5), .bool (lf 6), .bool (lf 7), .int .i64 e0, .int .i64 e1] 77) (W.heap.size + 1 + 1) (by simp [hsW])) (.cells #[.int .i64 (x : Int)] 3))
  have P3 := zh (alloc_at (((W1.alloc (.cells #[.int .i64 (x : Int), .int .i64 p] 111)).alloc (.cells #[.int .i64 (par x)] 3)).alloc (.cells #[.slice (some ad0) hs.length c0, vS, vP, .int .i64 b0, .int .i64 b1, .slice A3 js.length c3, .bool (lf 0), .bool (lf 1), .bool (lf 2), .bool (lf 3), .bool (lf 4), .bool (lf 5), .bool (lf 6), .bool (lf 7), .int .i64 e0, .int .i64 e1] 77)) (.cells #[.int .i64 (x : Int)] 3) (W.heap.size + 1 + 1 + 1) (by simp [hsW]))
  have hsz : ((((W1.alloc (.cells #[.int .i64 (x : Int), .int .i64 p] 111)).alloc (.cells #[.int .i64 (par x)] 3)).alloc (.cells #[.slice (some ad0) hs.length c0, vS, vP, .int .i64 b0, .int .i64 b1, .slice A3 js.length c3, .bool (lf 0), .bool (lf 1), .bool (lf 2), .bool (lf 3), .bool (lf 4), .bool (lf 5), .bool (lf 6), .bool (lf 7), .int .i64 e0, .int .i64 e1] 77)).alloc (.cells #[.int .i64 (x : Int)] 3)).heap.size = W.heap.size + 4 := by simp [hsW]
  obtain ⟨W0, hW0⟩ : ∃ W0, ((((W1.alloc (.cells #[.int .i64 (x : Int), .int .i64 p] 111)).alloc (.cells #[.int .i64 (par x)] 3)).alloc (.cells #[.slice (some ad0) hs.length c0, vS, vP, .int .i64 b0, .int .i64 b1, .slice A3 js.length c3, .bool (lf 0), .bool (lf 1), .bool (lf 2), .bool (lf 3), .bool (lf 4), .bool (lf 5), .bool (lf 6), .bool (lf 7), .int .i64 e0, .int .i64 e1] 77)).alloc (.cells #[.int .i64 (x : Int)] 3)) = W0 := ⟨_, rfl⟩
  simp only [hW0] at K1 P0 P1 P2 P3 hsz ⊢
  clear hW0
  have hsz1 : W.heap.size + 4 ≤ W0.heap.size := by omega
  have hsz2 : W0.heap.size ≤ W.heap.size + 4 := by omega
  have hsW1 : W1.heap.size ≤ W.heap.size := by omega
  clear hsz hsW
  have G2 := zh (K1.out.at G0.out hnm.2.2)
  have SW0 := zh (SW1.out.keep HS.out HN.out (K1.out.round (fun i => i ≠ gt)) (fun i _ hi => hi))
  have HMW := zh (K1.out.memo (KS.out.memo HMP.out))
  have hmW0 := M.lt HMW.out
  have hlen : (l.set x p).length = hs.length := by simp [hll]
  refine wpIn_range (n := 9) (by omega) (gf := 86) (lb := #[.pointer (some ⟨W.heap.size + 1 + 1, 0, none⟩), .pointer (some ⟨W.heap.size + 1 + 1 + 1, 0, none⟩)]) rfl (enters_of Tryd.func86 zk rfl)
   (joined_seq (.slice (some ad0) hs.length c0) vS vP b0 b1 lf e0 e1 A3 c3 js x hs.length M (W.heap.size + 1 + 1) (W.heap.size + 1 + 1 + 1) (fun i => i < W0.heap.size ∧ i ≠ gt) w0 W0 hn8 SW0.out.canW.base hm0 HS.out.joins HS.out.js P2.out P3.out ⟨by omega, by omega⟩ ⟨by omega, by omega⟩ (fun i hi => ⟨by omega, by omega⟩) (by omega) (by omega) hmW0) (fun i hi => hi.1) hmW0 (fun _ => rfl)
   (fun pre Wx => KR M (fun i => i < W0.heap.size ∧ i ≠ gt) W0 Wx ∧ Wx.heap[gt]? = some (.cells (is_ (foldS js lf (e0, e1) (loH hs) (hiH hs) par canV r x p pre (l.set x p))) 3 (0, 0)))
   (fun _ _ _ => False)
   (fun s X Y h hk => ⟨h.1.weak hk (fun i hi _ => hi.1), hk.cells h.2 hnm.2.2⟩)
   (fun c s X Y h hk => h)
   ⟨KR.refl _ _ _, G2.out⟩
   (AxBox m W0.heap.size (fun oj => #[.int .i64 (oj.2.one : Int), .int .i64 (oj.2.two : Int), .int .i64 (kindV oj.2), .int .i64 oj.2.lo, .int .i64 oj.2.hi]) 80 ?Fr)
   (fun x a' X Y h hk => h.keep hk)
   ?assign ?body ?done ?stop
  case assign =>
   rintro l2 pre oj Wx K hI hK
   dsimp only [encO]
   gi_wp2
   refine hK _ _ ((KeepsOthers.alloc _ _).from _) ((KB.alloc M Wx _).round _) ⟨hI.1.step (KB.alloc M Wx _), (KB.alloc M Wx _).at hI.2 hnm.2.2⟩ ⟨Wx.heap.size, by have := hI.1.size; omega, heap_alloc_new Wx _, hI.1.size, ?_⟩
   generalize Wx.heap.size = gg
   rfl
  case body =>
   rintro l2 pre ⟨o, jo⟩ a' Wx hl2 hok hpre ⟨hK1, hg1⟩ ⟨gp, hgm, hgp, hgl_, rfl⟩
   have hmem : (o, jo) ∈ nbrs js lf x := by
    obtain ⟨t, ht⟩ := hpre
    rw [← ht]; simp
   have hon : o < hs.length := HP.out.lt x _ hmem
   have hol : lf o = false := (nbrs_left hmem).2
   have hOKj : OkJ jo := hok.2
   dsimp only at hgp ⊢
   have HKx := zh hK1
   have HG1 := zh hg1
   have HGx := zh hgp
   have HOK := zh hOKj
   have HFS := zh (foldS_snoc js lf (e0, e1) (loH hs) (hiH hs) par canV r x p pre (o, jo) (l.set x p))
   have hlf : (foldS js lf (e0, e1) (loH hs) (hiH hs) par canV r x p pre (l.set x p)).length = hs.length := by rw [foldS_length]; exact hlen
   have SWx := zh (SW0.out.keep HS.out HN.out hK1 (fun i hi hne => ⟨hi, hne⟩))
   have Xx := zh (hK1.at P0.out ⟨by omega, by omega⟩ (by omega))
   have Fx := zh (hK1.at P1.out ⟨by omega, by omega⟩ (by omega))
   have HMx := zh (hK1.memo HMW.out)
   have hWx := hK1.size
   have f0 : Wx.cell? ⟨W.heap.size + 1, 0, none⟩ = some (.int .i64 (par x)) := vb Fx 0
   clear hK1 hg1 hgp hOKj
   by_cases hop : (o : Int) = par x
   ·have hopb : ((o : Int) == par x) = true := beq_iff_eq.2 hop
    have HT := zh (HFS.out.trans (if_pos hop))
    clear hop
    gi_wp2
    exact ⟨KeepsFrom.refl _ _, KR.refl _ _ _, HKx.out, by rw [HT.out]; exact HG1.out⟩
   ·have hopb : ((o : Int) == par x) = false := beq_eq_false_iff_ne.2 hop
    have HT := zh (HFS.out.trans (if_neg hop))
    obtain ⟨hpo, hro⟩ := HP.out.child x hx _ hmem hop
    dsimp only at hpo hro
    have HPO := zh hpo
    have hospan := HS.out.span o hon
    clear hop hpo
    obtain ⟨ad_, he_, g0, g1⟩ := H_at (Kd.C_below HS.out.heard SWx.out.canW.base) o hon
    injection he_ with he_
    subst he_
    have s0 : Wx.cell? ⟨Bs, 0, none⟩ = some (.slice (some ad0) hs.length c0) := (blk_cell SWx.out.canW.set 0).trans rfl
    gi_wp2
    clear s0 g0 g1 f0
    have HKR0 := zh (KB.refl M Wx)
    gi_loopw [11] (fun u wr => ∃ q : Int, loH hs o ≤ q ∧ q ≤ hiH hs o + 1 ∧ u = .int .i64 q ∧ anyTo (fun q => fitAtB (e0, e1) jo x p q && canV o q) (loH hs o) q = false ∧ Aside0 (KB M Wx wr)) (fun u _ => (hiH hs o + 1 - intOf u).toNat)
    case atStart => exact ⟨loH hs o, Int.le_refl _, by omega, rfl, by rw [anyTo_start], HKR0⟩
    case round =>
     obtain ⟨q, hql, hqh, rfl, hany, HKr⟩ := hrel
     have HANY := zh hany
     clear hany
     have SWr := zh (SWx.out.keep HS.out HN.out (HKr.out.round (fun _ => True)) (fun _ _ _ => trivial))
     have Xr := zh (HKr.out.at Xx.out (by omega))
     have Gr := zh (HKr.out.at HGx.out hgm)
     have HSTEP := zh (anyTo_succ (T := fun q => fitAtB (e0, e1) jo x p q && canV o q) (loH hs o) q hql)
     have hwr := HKr.out.kp.size
     obtain ⟨ad_, he_, g0, g1⟩ := H_at (Kd.C_below HS.out.heard SWr.out.canW.base) o hon
     injection he_ with he_
     subst he_
     have s0 : wr.cell? ⟨Bs, 0, none⟩ = some (.slice (some ad0) hs.length c0) := (blk_cell SWr.out.canW.set 0).trans rfl
     have x0 : wr.cell? ⟨W.heap.size, 0, none⟩ = some (.int .i64 (x : Int)) := vb Xr 0
     have x1 : wr.cell? ⟨W.heap.size, 1, none⟩ = some (.int .i64 p) := vb Xr 1
     have j0 : wr.cell? ⟨gp, 0, none⟩ = some (.int .i64 (jo.one : Int)) := vb Gr 0
     have j1 : wr.cell? ⟨gp, 1, none⟩ = some (.int .i64 (jo.two : Int)) := vb Gr 1
     have j2 : wr.cell? ⟨gp, 2, none⟩ = some (.int .i64 (kindV jo)) := vb Gr 2
     have j3 : wr.cell? ⟨gp, 3, none⟩ = some (.int .i64 jo.lo) := vb Gr 3
     have j4 : wr.cell? ⟨gp, 4, none⟩ = some (.int .i64 jo.hi) := vb Gr 4
     by_cases hqe : q ≤ hiH hs o
     ·have HCQ : Aside0 (∀ W', CanW (some ad0) c0 hs vS vP b0 b1 lf e0 e1 A3 c3 js go m Bk Bg Bs Bf Bc w0 W' → M.P W' → CallsIn Fence.wide 9 Tryd.prog 80 #[.agg #[.int .i64 (o : Int), .int .i64 q], .int .i64 (x : Int), .pointer (some ⟨Bk, 0, none⟩), .pointer (some ⟨Bg, 0, none⟩), .pointer (some ⟨Bs, 0, none⟩), .pointer (some ⟨Bf, 0, none⟩), .pointer (some ⟨Bc, 0, none⟩)] W' fun e W'' => e = .returned (.bool (canV o q)) ∧ KB M W' W'') := ⟨fun W' h1 h2 => by have h := HCA.out o q hon hol hql (by omega) W' h1 h2; rw [HPO.out] at h; exact h⟩
      by_cases hj : jo.one = x
      ·have hjc : (jo.one == x) = true := beq_iff_eq.2 hj
       have hjd : decide (jo.one = x) = true := decide_eq_true hj
       have hje : (jo.one != x) = false := by simp [hj]
       have HF := zh (show fitAtB (e0, e1) jo x p q = fitB (e0, e1) jo p q by unfold fitAtB; rw [if_pos hj])
       clear hj
       have HKw := HKr
       have SWw := SWr
       have HGl := zh (HS.out.glob.below SWw.out.canW.base)
       have f0 : wr.cell? ⟨Bf, 0, none⟩ = some (.func (.func 53) #[.agg #[.slice (some ad0) hs.length c0, vS, vP, .int .i64 b0, .int .i64 b1, .slice A3 js.length c3, .bool (lf 0), .bool (lf 1), .bool (lf 2), .bool (lf 3), .bool (lf 4), .bool (lf 5), .bool (lf 6), .bool (lf 7), .int .i64 e0, .int .i64 e1]] #[]) := (blk_cell SWw.out.canW.fits 0).trans rfl
       cases hfv : fitB (e0, e1) jo p q with
       | false =>
        have HFV := zh hfv
        have HFA := zh (HF.out.trans hfv)
        clear hfv
        gi_wp2_with (refine ⟨trivial, ?_⟩; gi_at_call 53; refine (CallsIn.inRound l2 (callsIn_wide.2 (fits_calls (.slice (some ad0) hs.length c0) vS vP (.slice A3 js.length c3) b0 b1 lf e0 e1 jo p q _ HGl.out HOK.out (by omega) (by omega) (by omega) (by omega)))).mono ?_; rintro e w5 ⟨rfl, hb5⟩; rw [HFV.out]; have HK5 := zh (HKw.out.trans (KB.of_below (M := M) hb5)); clear hb5; have c5 : w5.cell? ⟨Bc, 0, none⟩ = some (.func (.func 80) #[] #[.pointer (some ⟨Bk, 0, none⟩), .pointer (some ⟨Bg, 0, none⟩), .pointer (some ⟨Bs, 0, none⟩), .pointer (some ⟨Bf, 0, none⟩), .pointer (some ⟨Bc, 0, none⟩)]) := (blk_cell (HK5.out.at SWx.out.canW.can (by omega)) 0).trans rfl; have x5 : w5.cell? ⟨W.heap.size, 0, none⟩ = some (.int .i64 (x : Int)) := (blk_cell (HK5.out.at Xx.out (by omega)) 0).trans rfl)
        refine ⟨fun _ h_ => (by cases h_), ?_⟩
        gi_wp2
        go_roundw
        case rel => exact ⟨q + 1, by omega, by omega, rfl, by rw [HSTEP.out, HANY.out, HFA.out]; rfl, HK5⟩
        case measure => simp [intOf]; omega
       | true =>
        have HFV := zh hfv
        have HFA := zh (HF.out.trans hfv)
        clear hfv
        cases hcv : canV o q with
        | false =>
         have HCV := zh hcv
         clear hcv
         gi_wp2_with (first | (refine ⟨trivial, ?_⟩; gi_at_call 53; refine (CallsIn.inRound l2 (callsIn_wide.2 (fits_calls (.slice (some ad0) hs.length c0) vS vP (.slice A3 js.length c3) b0 b1 lf e0 e1 jo p q _ HGl.out HOK.out (by omega) (by omega) (by omega) (by omega)))).mono ?_; rintro e w5 ⟨rfl, hb5⟩; rw [HFV.out]; have HK5 := zh (HKw.out.trans (KB.of_below (M := M) hb5)); clear hb5; have c5 : w5.cell? ⟨Bc, 0, none⟩ = some (.func (.func 80) #[] #[.pointer (some ⟨Bk, 0, none⟩), .pointer (some ⟨Bg, 0, none⟩), .pointer (some ⟨Bs, 0, none⟩), .pointer (some ⟨Bf, 0, none⟩), .pointer (some ⟨Bc, 0, none⟩)]) := (blk_cell (HK5.out.at SWx.out.canW.can (by omega)) 0).trans rfl; have x5 : w5.cell? ⟨W.heap.size, 0, none⟩ = some (.int .i64 (x : Int)) := (blk_cell (HK5.out.at Xx.out (by omega)) 0).trans rfl) | (refine ⟨trivial, ?_⟩; gi_at_call 80; refine (CallsIn.inRound l2 (callsIn_any _ (HCQ.out w5 (SWx.out.keep HS.out HN.out (HK5.out.round (fun _ => True)) (fun _ _ _ => trivial)).canW (HK5.out.memo HMx.out)))).mono ?_; rintro e w6 ⟨rfl, hk6⟩; rw [HCV.out]; have HK6 := zh (HK5.out.trans hk6); clear hk6))
         go_roundw
         case rel => exact ⟨q + 1, by omega, by omega, rfl, by rw [HSTEP.out, HANY.out, HFA.out, HCV.out]; rfl, HK6⟩
         case measure => simp [intOf]; omega
        | true =>
         have HCV := zh hcv
         have HFQ := zh (show foldS js lf (e0, e1) (loH hs) (hiH hs) par canV r x p (pre ++ [(o, jo)]) (l.set x p) = setF js lf (e0, e1) (loH hs) (hiH hs) par canV r o q (foldS js lf (e0, e1) (loH hs) (hiH hs) par canV r x p pre (l.set x p)) from by rw [HT.out]; (try dsimp only); rw [find_first (T := fun q => fitAtB (e0, e1) jo x p q && canV o q) hqe (by rw [HFA.out, hcv]; rfl) (q - loH hs o).toNat (loH hs o) (by omega) HANY.out])
         have HSQ : Aside0 (∀ W', SetW ad0 c0 hs vS vP b0 b1 lf e0 e1 A3 c3 js go m Bk Bg Bs Bf Bc Bo Bt gt w0 W' → M.P W' → W'.heap[gt]? = some (.cells (is_ (foldS js lf (e0, e1) (loH hs) (hiH hs) par canV r x p pre (l.set x p))) 3 (0, 0)) →
           CallsIn Fence.wide 9 Tryd.prog 82 #[.agg #[.int .i64 (o : Int), .int .i64 q], .int .i64 (x : Int), .pointer (some ⟨Bo, 0, none⟩), .pointer (some ⟨Bs, 0, none⟩), .pointer (some ⟨Bf, 0, none⟩), .pointer (some ⟨Bc, 0, none⟩), .pointer (some ⟨Bt, 0, none⟩)] W' fun e W'' => (∃ v, e = .returned v) ∧ KR M (fun i => i ≠ gt) W' W'' ∧ W''.heap[gt]? = some (.cells (is_ (setF js lf (e0, e1) (loH hs) (hiH hs) par canV r o q (foldS js lf (e0, e1) (loH hs) (hiH hs) par canV r x p pre (l.set x p)))) 3 (0, 0))) :=
          ⟨fun W' h1 h2 h3 => by have h := IH.out o q _ (by omega) hon hol hql (by omega) hlf W' h1 h2 h3; rw [HPO.out] at h; exact h⟩
         clear hcv
         gi_wp2_with (first | (refine ⟨trivial, ?_⟩; gi_at_call 53; refine (CallsIn.inRound l2 (callsIn_wide.2 (fits_calls (.slice (some ad0) hs.length c0) vS vP (.slice A3 js.length c3) b0 b1 lf e0 e1 jo p q _ HGl.out HOK.out (by omega) (by omega) (by omega) (by omega)))).mono ?_; rintro e w5 ⟨rfl, hb5⟩; rw [HFV.out]; have HK5 := zh (HKw.out.trans (KB.of_below (M := M) hb5)); clear hb5; have c5 : w5.cell? ⟨Bc, 0, none⟩ = some (.func (.func 80) #[] #[.pointer (some ⟨Bk, 0, none⟩), .pointer (some ⟨Bg, 0, none⟩), .pointer (some ⟨Bs, 0, none⟩), .pointer (some ⟨Bf, 0, none⟩), .pointer (some ⟨Bc, 0, none⟩)]) := (blk_cell (HK5.out.at SWx.out.canW.can (by omega)) 0).trans rfl; have x5 : w5.cell? ⟨W.heap.size, 0, none⟩ = some (.int .i64 (x : Int)) := (blk_cell (HK5.out.at Xx.out (by omega)) 0).trans rfl) | (refine ⟨trivial, ?_⟩; gi_at_call 80; refine (CallsIn.inRound l2 (callsIn_any _ (HCQ.out w5 (SWx.out.keep HS.out HN.out (HK5.out.round (fun _ => True)) (fun _ _ _ => trivial)).canW (HK5.out.memo HMx.out)))).mono ?_; rintro e w6 ⟨rfl, hk6⟩; rw [HCV.out]; have HK6 := zh (HK5.out.trans hk6); clear hk6; have t6 : w6.cell? ⟨Bt, 0, none⟩ = some (.func (.func 82) #[] #[.pointer (some ⟨Bo, 0, none⟩), .pointer (some ⟨Bs, 0, none⟩), .pointer (some ⟨Bf, 0, none⟩), .pointer (some ⟨Bc, 0, none⟩), .pointer (some ⟨Bt, 0, none⟩)]) := (blk_cell (HK6.out.at SWx.out.set (by omega)) 0).trans rfl; have x6 : w6.cell? ⟨W.heap.size, 0, none⟩ = some (.int .i64 (x : Int)) := (blk_cell (HK6.out.at Xx.out (by omega)) 0).trans rfl) | (refine ⟨trivial, ?_⟩; gi_at_call 82; refine (CallsIn.inRound l2 (callsIn_any _ (HSQ.out w6 (SWx.out.keep HS.out HN.out (HK6.out.round (fun _ => True)) (fun _ _ _ => trivial)) (HK6.out.memo HMx.out) (HK6.out.at HG1.out hnm.2.2)))).mono ?_; rintro e w7 ⟨⟨v7, rfl⟩, hk7, hg7⟩; have HK7 := zh hk7; have HG7 := zh hg7; clear hk7 hg7))
         exact ⟨(((HK6.out.round (fun _ => True)).keeps (fun _ _ _ => trivial) (by omega)).trans (HK7.out.keeps (fun i hi _ => by omega) (by omega))), (HK6.out.round _).trans (HK7.out.mono (fun i hi _ => by rcases hi with hi | hi; exact hi.2; omega)), (HKx.out.step HK6.out).trans (HK7.out.mono (fun i hi _ => hi.2)), by rw [HFQ.out]; exact HG7.out⟩
      ·have hjc : (jo.one == x) = false := beq_eq_false_iff_ne.2 hj
       have hjd : decide (jo.one = x) = false := decide_eq_false hj
       have hje : (jo.one != x) = true := by simp [hj]
       have HF := zh (show fitAtB (e0, e1) jo x p q = fitB (e0, e1) jo q p by unfold fitAtB; rw [if_neg hj])
       clear hj
       gi_wp2
       have X2 := zh (show wr.drew.heap[W.heap.size]? = _ from Xr.out)
       have K2 := zh (show KB M Wx wr.drew from HKr.out.trans (KB.of_below (below_drew1 (Below.refl wr.heap.size wr))))
       have G2 := zh (show wr.drew.heap[gp]? = _ from Gr.out)
       have HW2 : Aside0 (SetW ad0 c0 hs vS vP b0 b1 lf e0 e1 A3 c3 js go m Bk Bg Bs Bf Bc Bo Bt gt w0 wr.drew) := ⟨SWx.out.keep HS.out HN.out (K2.out.round (fun _ => True)) (fun _ _ _ => trivial)⟩
       refine start_in (n := 5) (S := fun w' => w'.cell? ⟨W.heap.size, 1, none⟩ = some (.int .i64 p)) (ds := []) #[false, false, false, false, false] zk rfl rfl zk (by rintro ⟨_, _, h⟩; exact h) (vb X2 1) (fun hHeld => ?_)
       refine with_tabW fSet.tab11 fSet.bits11 (fun HT_ HW_ => ?_)
       generalize wr.drew = w2 at X2 K2 G2 HW2 hHeld ⊢
       refine zu 0 ?_
       refine zu 1 ?_
       refine zu 3 ?_
       refine zt 2 ?_
       refine zu 4 ?_
       refine zd ?_
       clear x0 x1 j0 j1 j2 j3 j4 s0 g0 g1
       have HKw := K2
       have SWw := HW2
       have HGl := zh (HS.out.glob.below SWw.out.canW.base)
       have x0 : w2.cell? ⟨W.heap.size, 0, none⟩ = some (.int .i64 (x : Int)) := vb X2 0
       have x1 : w2.cell? ⟨W.heap.size, 1, none⟩ = some (.int .i64 p) := vb X2 1
       have j0 : w2.cell? ⟨gp, 0, none⟩ = some (.int .i64 (jo.one : Int)) := vb G2 0
       have j1 : w2.cell? ⟨gp, 1, none⟩ = some (.int .i64 (jo.two : Int)) := vb G2 1
       have j2 : w2.cell? ⟨gp, 2, none⟩ = some (.int .i64 (kindV jo)) := vb G2 2
       have j3 : w2.cell? ⟨gp, 3, none⟩ = some (.int .i64 jo.lo) := vb G2 3
       have j4 : w2.cell? ⟨gp, 4, none⟩ = some (.int .i64 jo.hi) := vb G2 4
       have f0 : w2.cell? ⟨Bf, 0, none⟩ = some (.func (.func 53) #[.agg #[.slice (some ad0) hs.length c0, vS, vP, .int .i64 b0, .int .i64 b1, .slice A3 js.length c3, .bool (lf 0), .bool (lf 1), .bool (lf 2), .bool (lf 3), .bool (lf 4), .bool (lf 5), .bool (lf 6), .bool (lf 7), .int .i64 e0, .int .i64 e1]] #[]) := (blk_cell SWw.out.canW.fits 0).trans rfl
       cases hfv : fitB (e0, e1) jo q p with
       | false =>
        have HFV := zh hfv
        have HFA := zh (HF.out.trans hfv)
        clear hfv
        gi_wp2_with (refine ⟨trivial, ?_⟩; gi_at_call 53; refine (CallsIn.inRound l2 (callsIn_wide.2 (fits_calls (.slice (some ad0) hs.length c0) vS vP (.slice A3 js.length c3) b0 b1 lf e0 e1 jo q p _ HGl.out HOK.out (by omega) (by omega) (by omega) (by omega)))).mono ?_; rintro e w5 ⟨rfl, hb5⟩; rw [HFV.out]; have HK5 := zh (HKw.out.trans (KB.of_below (M := M) hb5)); clear hb5; have c5 : w5.cell? ⟨Bc, 0, none⟩ = some (.func (.func 80) #[] #[.pointer (some ⟨Bk, 0, none⟩), .pointer (some ⟨Bg, 0, none⟩), .pointer (some ⟨Bs, 0, none⟩), .pointer (some ⟨Bf, 0, none⟩), .pointer (some ⟨Bc, 0, none⟩)]) := (blk_cell (HK5.out.at SWx.out.canW.can (by omega)) 0).trans rfl; have x5 : w5.cell? ⟨W.heap.size, 0, none⟩ = some (.int .i64 (x : Int)) := (blk_cell (HK5.out.at Xx.out (by omega)) 0).trans rfl)
        refine ⟨fun _ h_ => (by cases h_), ?_⟩
        gi_wp2
        go_roundw
        case rel => exact ⟨q + 1, by omega, by omega, rfl, by rw [HSTEP.out, HANY.out, HFA.out]; rfl, HK5⟩
        case measure => simp [intOf]; omega
       | true =>
        have HFV := zh hfv
        have HFA := zh (HF.out.trans hfv)
        clear hfv
        cases hcv : canV o q with
        | false =>
         have HCV := zh hcv
         clear hcv
         gi_wp2_with (first | (refine ⟨trivial, ?_⟩; gi_at_call 53; refine (CallsIn.inRound l2 (callsIn_wide.2 (fits_calls (.slice (some ad0) hs.length c0) vS vP (.slice A3 js.length c3) b0 b1 lf e0 e1 jo q p _ HGl.out HOK.out (by omega) (by omega) (by omega) (by omega)))).mono ?_; rintro e w5 ⟨rfl, hb5⟩; rw [HFV.out]; have HK5 := zh (HKw.out.trans (KB.of_below (M := M) hb5)); clear hb5; have c5 : w5.cell? ⟨Bc, 0, none⟩ = some (.func (.func 80) #[] #[.pointer (some ⟨Bk, 0, none⟩), .pointer (some ⟨Bg, 0, none⟩), .pointer (some ⟨Bs, 0, none⟩), .pointer (some ⟨Bf, 0, none⟩), .pointer (some ⟨Bc, 0, none⟩)]) := (blk_cell (HK5.out.at SWx.out.canW.can (by omega)) 0).trans rfl; have x5 : w5.cell? ⟨W.heap.size, 0, none⟩ = some (.int .i64 (x : Int)) := (blk_cell (HK5.out.at Xx.out (by omega)) 0).trans rfl) | (refine ⟨trivial, ?_⟩; gi_at_call 80; refine (CallsIn.inRound l2 (callsIn_any _ (HCQ.out w5 (SWx.out.keep HS.out HN.out (HK5.out.round (fun _ => True)) (fun _ _ _ => trivial)).canW (HK5.out.memo HMx.out)))).mono ?_; rintro e w6 ⟨rfl, hk6⟩; rw [HCV.out]; have HK6 := zh (HK5.out.trans hk6); clear hk6))
         go_roundw
         case rel => exact ⟨q + 1, by omega, by omega, rfl, by rw [HSTEP.out, HANY.out, HFA.out, HCV.out]; rfl, HK6⟩
         case measure => simp [intOf]; omega
        | true =>
         have HCV := zh hcv
         have HFQ := zh (show foldS js lf (e0, e1) (loH hs) (hiH hs) par canV r x p (pre ++ [(o, jo)]) (l.set x p) = setF js lf (e0, e1) (loH hs) (hiH hs) par canV r o q (foldS js lf (e0, e1) (loH hs) (hiH hs) par canV r x p pre (l.set x p)) from by rw [HT.out]; (try dsimp only); rw [find_first (T := fun q => fitAtB (e0, e1) jo x p q && canV o q) hqe (by rw [HFA.out, hcv]; rfl) (q - loH hs o).toNat (loH hs o) (by omega) HANY.out])
         have HSQ : Aside0 (∀ W', SetW ad0 c0 hs vS vP b0 b1 lf e0 e1 A3 c3 js go m Bk Bg Bs Bf Bc Bo Bt gt w0 W' → M.P W' → W'.heap[gt]? = some (.cells (is_ (foldS js lf (e0, e1) (loH hs) (hiH hs) par canV r x p pre (l.set x p))) 3 (0, 0)) →
           CallsIn Fence.wide 9 Tryd.prog 82 #[.agg #[.int .i64 (o : Int), .int .i64 q], .int .i64 (x : Int), .pointer (some ⟨Bo, 0, none⟩), .pointer (some ⟨Bs, 0, none⟩), .pointer (some ⟨Bf, 0, none⟩), .pointer (some ⟨Bc, 0, none⟩), .pointer (some ⟨Bt, 0, none⟩)] W' fun e W'' => (∃ v, e = .returned v) ∧ KR M (fun i => i ≠ gt) W' W'' ∧ W''.heap[gt]? = some (.cells (is_ (setF js lf (e0, e1) (loH hs) (hiH hs) par canV r o q (foldS js lf (e0, e1) (loH hs) (hiH hs) par canV r x p pre (l.set x p)))) 3 (0, 0))) :=
          ⟨fun W' h1 h2 h3 => by have h := IH.out o q _ (by omega) hon hol hql (by omega) hlf W' h1 h2 h3; rw [HPO.out] at h; exact h⟩
         clear hcv
         gi_wp2_with (first | (refine ⟨trivial, ?_⟩; gi_at_call 53; refine (CallsIn.inRound l2 (callsIn_wide.2 (fits_calls (.slice (some ad0) hs.length c0) vS vP (.slice A3 js.length c3) b0 b1 lf e0 e1 jo q p _ HGl.out HOK.out (by omega) (by omega) (by omega) (by omega)))).mono ?_; rintro e w5 ⟨rfl, hb5⟩; rw [HFV.out]; have HK5 := zh (HKw.out.trans (KB.of_below (M := M) hb5)); clear hb5; have c5 : w5.cell? ⟨Bc, 0, none⟩ = some (.func (.func 80) #[] #[.pointer (some ⟨Bk, 0, none⟩), .pointer (some ⟨Bg, 0, none⟩), .pointer (some ⟨Bs, 0, none⟩), .pointer (some ⟨Bf, 0, none⟩), .pointer (some ⟨Bc, 0, none⟩)]) := (blk_cell (HK5.out.at SWx.out.canW.can (by omega)) 0).trans rfl; have x5 : w5.cell? ⟨W.heap.size, 0, none⟩ = some (.int .i64 (x : Int)) := (blk_cell (HK5.out.at Xx.out (by omega)) 0).trans rfl) | (refine ⟨trivial, ?_⟩; gi_at_call 80; refine (CallsIn.inRound l2 (callsIn_any _ (HCQ.out w5 (SWx.out.keep HS.out HN.out (HK5.out.round (fun _ => True)) (fun _ _ _ => trivial)).canW (HK5.out.memo HMx.out)))).mono ?_; rintro e w6 ⟨rfl, hk6⟩; rw [HCV.out]; have HK6 := zh (HK5.out.trans hk6); clear hk6; have t6 : w6.cell? ⟨Bt, 0, none⟩ = some (.func (.func 82) #[] #[.pointer (some ⟨Bo, 0, none⟩), .pointer (some ⟨Bs, 0, none⟩), .pointer (some ⟨Bf, 0, none⟩), .pointer (some ⟨Bc, 0, none⟩), .pointer (some ⟨Bt, 0, none⟩)]) := (blk_cell (HK6.out.at SWx.out.set (by omega)) 0).trans rfl; have x6 : w6.cell? ⟨W.heap.size, 0, none⟩ = some (.int .i64 (x : Int)) := (blk_cell (HK6.out.at Xx.out (by omega)) 0).trans rfl) | (refine ⟨trivial, ?_⟩; gi_at_call 82; refine (CallsIn.inRound l2 (callsIn_any _ (HSQ.out w6 (SWx.out.keep HS.out HN.out (HK6.out.round (fun _ => True)) (fun _ _ _ => trivial)) (HK6.out.memo HMx.out) (HK6.out.at HG1.out hnm.2.2)))).mono ?_; rintro e w7 ⟨⟨v7, rfl⟩, hk7, hg7⟩; have HK7 := zh hk7; have HG7 := zh hg7; clear hk7 hg7))
         exact ⟨(((HK6.out.round (fun _ => True)).keeps (fun _ _ _ => trivial) (by omega)).trans (HK7.out.keeps (fun i hi _ => by omega) (by omega))), (HK6.out.round _).trans (HK7.out.mono (fun i hi _ => by rcases hi with hi | hi; exact hi.2; omega)), (HKx.out.step HK6.out).trans (HK7.out.mono (fun i hi _ => hi.2)), by rw [HFQ.out]; exact HG7.out⟩
     ·obtain rfl : q = hiH hs o + 1 := by omega
      clear x0 x1 j0 j1 j2 j3 j4
      have hng : ¬ (hiH hs o + 1 ≤ hiH hs o) := by omega
      have HFN := zh (show foldS js lf (e0, e1) (loH hs) (hiH hs) par canV r x p (pre ++ [(o, jo)]) (l.set x p) = foldS js lf (e0, e1) (loH hs) (hiH hs) par canV r x p pre (l.set x p) from by rw [HT.out]; (try dsimp only); rw [find_none HANY.out])
      gi_wp2
      exact ⟨(HKr.out.round (fun _ => True)).keeps (fun _ _ _ => trivial) (by omega), HKr.out.round _, HKx.out.step HKr.out, by rw [HFN.out]; exact HKr.out.at HG1.out hnm.2.2⟩
  case done =>
   rintro D Wx hD ⟨hK1, hg1⟩ hKd
   have HK1 := zh hK1
   have HG1 := zh hg1
   have HD := zh hKd
   clear hK1 hg1 hKd
   gi_wp2
   refine ⟨by simp, .inl ⟨_, _, rfl, run_takeDeferred HD.out, ?_⟩⟩
   refine ⟨_, results_none rfl _ _ _, ⟨_, rfl⟩, ?_, ?_⟩
   ·exact ((KS.out.step K1.out).trans (HK1.out.mono (fun i hi hl => ⟨hl, hi⟩))).putObj D _ (.inr (by omega)) (by omega)
   ·exact (World.putObj_heap_other (by rintro rfl; have := HD.out; rw [HG1.out] at this; cases this)).trans HG1.out
  case stop =>
   rintro D c pre Wx hD hpre h hKd
   exact h.elim
end Go.Proofs.YtgehkojccmkggaaDoor.K
end
section
namespace Tune
section
variable {n : Nat} {js : List J} {left : Nat → Bool} {b : Int × Int} {lo hi : Nat → Int} {ok : Nat → Int → Bool} {par : Nat → Int} {rank depth : Nat → Nat} {canV : Nat → Int → Bool}
def norm (par : Nat → Int) (x : Nat) : Int := if par x < 0 then -1 else par x
theorem norm_neg (par : Nat → Int) (x : Nat) (h : norm par x < 0) : norm par x = -1 := by unfold norm at h ⊢; split at h <;> rename_i h1; rw [if_pos h1]; omega
theorem norm_lt (par : Nat → Int) (x : Nat) : norm par x < 0 ↔ par x < 0 := by unfold norm; split <;> omega
theorem norm_nat (par : Nat → Int) (x o : Nat) : norm par x = (o : Int) ↔ par x = (o : Int) := by unfold norm; split <;> omega
theorem norm_eq (par : Nat → Int) (x o : Nat) : (o : Int) = norm par x ↔ (o : Int) = par x := by unfold norm; split <;> omega
theorem child_norm (js : List J) (left : Nat → Bool) (par : Nat → Int) (x o : Nat) (j : J) : Child js left (norm par) x o j ↔ Child js left par x o j := by unfold Child; rw [ne_eq, ne_eq, norm_eq]
theorem desc_norm (js : List J) (left : Nat → Bool) (par : Nat → Int) {x y : Nat} : Desc js left (norm par) x y ↔ Desc js left par x y := by
 constructor
 ·intro h
  induction h with
  | refl x => exact .refl x
  | step h _ ih => exact .step ((child_norm _ _ _ _ _ _).1 h) ih
 ·intro h
  induction h with
  | refl x => exact .refl x
  | step h _ ih => exact .step ((child_norm _ _ _ _ _ _).2 h) ih
theorem Full.normal (H : Full n js left b lo hi ok par rank depth canV) : Full n js left b lo hi ok (norm par) rank depth canV where
 plan := ⟨H.plan.lt, fun x hx oj h hne => by
  obtain ⟨h1, h2⟩ := H.plan.child x hx oj h (fun e => hne ((norm_eq _ _ _).2 e))
  exact ⟨(norm_nat _ _ _).2 h1, h2⟩, fun x hx hl p h1 h2 => by
  rw [H.plan.can x hx hl p h1 h2]
  congr 1
  refine congrArg (fun f => List.all _ f) (funext fun oj => ?_)
  rw [decide_eq_decide.2 (norm_eq par x oj.1)]⟩
 depths := ⟨fun x hx o j h => by
  obtain ⟨h1, h2⟩ := H.depths.child x hx o j ((child_norm _ _ _ _ _ _).1 h)
  exact ⟨(norm_nat _ _ _).2 h1, h2⟩, H.depths.nodup⟩
 root := fun x hx hl => by
  obtain ⟨r, h1, h2, h3, h4⟩ := H.root x hx hl
  exact ⟨r, h1, (norm_lt _ _).2 h2, h3, (desc_norm _ _ _).2 h4⟩
 zero := fun x h => H.zero x ((norm_lt _ _).1 h)
 back := fun x o h => H.back x o ((norm_nat _ _ _).1 h)
 dom := H.dom
 cmpl := fun l x hx hl hp => H.cmpl l x hx hl ((norm_lt _ _).1 hp)
structure MetInv (n : Nat) (js : List J) (left : Nat → Bool) (par : Nat → Int) (k : Nat) (m : List Bool) : Prop where
 len : m.length = 8
 iff : ∀ y, y < n → (m.getD y false = true ↔ left y = true ∨ ∃ r, r < k ∧ par r < 0 ∧ left r = false ∧ Desc js left par r y)
theorem desc_left {x y : Nat} (h : Desc js left par x y) (hx : left x = false) : left y = false := by
 induction h with
 | refl x => exact hx
 | step h _ ih => exact ih (nbrs_left h.1).2
theorem two_roots (H : Full n js left b lo hi ok par rank depth canV) {r r' y : Nat} (h1 : r < n) (h2 : r' < n) (h3 : par r < 0) (h4 : par r' < 0) (h5 : Desc js left par r y) (h6 : Desc js left par r' y) : r = r' := h5.same H.depths h6 h1 h2 (by rw [H.zero _ h3, H.zero _ h4])
theorem MetInv.root (H : Full n js left b lo hi ok par rank depth canV) {k : Nat} {m : List Bool} (h : MetInv n js left par k m) (hk : k < n) (hm : m.getD k false = false) : par k < 0 ∧ left k = false := by
 have hlk : left k = false := by
  cases hl : left k with
  | false => rfl
  | true => have := (h.iff k hk).2 (.inl hl); rw [hm] at this; cases this
 obtain ⟨r, g1, g2, g3, g4⟩ := H.root k hk hlk
 by_cases e : r = k
 ·subst e; exact ⟨g2, hlk⟩
 ·have := (h.iff k hk).2 (.inr ⟨r, by omega, g2, g3, g4⟩); rw [hm] at this; cases this
theorem MetInv.met (H : Full n js left b lo hi ok par rank depth canV) {k : Nat} {m : List Bool} (h : MetInv n js left par k m) (hk : k < n) (hm : m.getD k false = true) : MetInv n js left par (k + 1) m := by
 refine ⟨h.len, fun y hy => (h.iff y hy).trans ?_⟩
 constructor
 ·rintro (h1 | ⟨r, g1, g2⟩)
  ·exact .inl h1
  ·exact .inr ⟨r, by omega, g2⟩
 ·rintro (h1 | ⟨r, g1, g2, g3, g4⟩)
  ·exact .inl h1
  ·by_cases e : r = k
   ·subst e
    exfalso
    rcases (h.iff r hk).1 hm with h1 | ⟨r', g5, g6, g7, g8⟩
    ·rw [g3] at h1; cases h1
    ·have := two_roots H (by omega) hk g6 g2 g8 (.refl r)
     omega
   ·exact .inr ⟨r, by omega, g2, g3, g4⟩
theorem MetInv.new (H : Full n js left b lo hi ok par rank depth canV) {k f : Nat} {m : List Bool} (h : MetInv n js left par k m) (hn : n ≤ 8) (hk : k < n) (hm : m.getD k false = false) (hf : rank k < f) : MetInv n js left par (k + 1) (markF js left f k m) := by
 obtain ⟨hpk, hlk⟩ := h.root H hk hm
 have hun : ∀ y, Desc js left par k y → m.getD y false = false := fun y hde => by
  have hyn := hde.lt H.depths hk
  cases hv : m.getD y false with
  | false => rfl
  | true =>
   rcases (h.iff y hyn).1 hv with h1 | ⟨r, g1, g2, g3, g4⟩
   ·rw [desc_left hde hlk] at h1; cases h1
   ·have := two_roots H (by omega) hk g2 hpk g4 hde
    omega
 have hms := markF_spec H.plan H.depths f k m hf hk (by rw [h.len]; exact hn) (fun e => by omega) hun
 refine ⟨by rw [markF_length]; exact h.len, fun y hy => (hms y).trans ?_⟩
 rw [h.iff y hy]
 constructor
 ·rintro ((h1 | ⟨r, g1, g2⟩) | h1)
  ·exact .inl h1
  ·exact .inr ⟨r, by omega, g2⟩
  ·exact .inr ⟨k, by omega, hpk, hlk, h1⟩
 ·rintro (h1 | ⟨r, g1, g2, g3, g4⟩)
  ·exact .inl (.inl h1)
  ·by_cases e : r = k
   ·subst e; exact .inr g4
   ·exact .inl (.inr ⟨r, by omega, g2, g3, g4⟩)
def leftL (left : Nat → Bool) : List Bool := [left 0, left 1, left 2, left 3, left 4, left 5, left 6, left 7]
theorem leftL_at (left : Nat → Bool) (y : Nat) (hy : y < 8) : (leftL left).getD y false = left y := by
 rcases y with _ | _ | _ | _ | _ | _ | _ | _ | y
 all_goals first | rfl | omega
theorem MetInv.start (hn : n ≤ 8) : MetInv n js left par 0 (leftL left) :=
 ⟨rfl, fun y hy => by
  rw [leftL_at left y (by omega)]
  constructor
  ·exact fun h => .inl h
  ·rintro (h | ⟨r, h, _⟩)
   ·exact h
   ·omega⟩
end
end Tune
end
section
namespace Go.Proofs.YtgehkojccmkggaaDoor.K
open Go.RowKit Go.Shelf Go.Proofs.YtgehkojccmkggaaDoorW.PrintWords Go.Proofs.YtgehkojccmkggaaDoorW.PrintLast Go.Proofs.YtgehkojccmkggaaDoorW.PrintMore Go.Proofs.YtgehkojccmkggaaDoor.H Tune
set_option linter.unusedVariables false
set_option linter.unusedSimpArgs false
attribute [local go_sem] Oper.semAt_some
def TunPost (n : Nat) (res : Option (List Int)) (w : World) (e : Ending) (w' : World) : Prop :=
 (res = none → e = .returned (.tuple #[.slice none 0 0, .bool false])) ∧ (∀ l, res = some l → ∃ g, e = .returned (.tuple #[.slice (some ⟨g, 0, none⟩) n n, .bool true]) ∧ w.heap.size ≤ g ∧ w'.heap[g]? = some (.cells (is_ l) 3 (0, 0)) ∧ l.length = n) ∧ Below w.heap.size w w'
set_option maxRecDepth 100000 in
theorem can_calls (ad0 : Addr) (c0 : Nat) (hs : List S26) (vS vP : Value) (b0 b1 : Int) (lf : Nat → Bool) (e0 e1 : Int) (A3 : Option Addr) (c3 : Nat) (js : List J) (go : Option Nat) (gl : List (Int × Int)) (m Bk Bg Bs Bf Bc : Nat) (w0 : World)
  (hS : CanS (some ad0) hs A3 js go gl m Bk Bg Bs Bf Bc w0) (par : Nat → Int) (rank : Nat → Nat) (canV : Nat → Int → Bool) (hP : Plan hs.length js lf (e0, e1) (loH hs) (hiH hs) (okG gl) par rank canV) :
  ∀ (r o : Nat) (q : Int), rank o < r → o < hs.length → lf o = false → loH hs o ≤ q → q ≤ hiH hs o → ∀ W', CanW (some ad0) c0 hs vS vP b0 b1 lf e0 e1 A3 c3 js go m Bk Bg Bs Bf Bc w0 W' → (memoM canV m).P W' →
   CallsIn Fence.wide 9 Tryd.prog 80 #[.agg #[.int .i64 (o : Int), .int .i64 q], .int .i64 (par o), .pointer (some ⟨Bk, 0, none⟩), .pointer (some ⟨Bg, 0, none⟩), .pointer (some ⟨Bs, 0, none⟩), .pointer (some ⟨Bf, 0, none⟩), .pointer (some ⟨Bc, 0, none⟩)] W' fun e W'' => e = .returned (.bool (canV o q)) ∧ KB (memoM canV m) W' W''
 | 0, _, _, h, _, _, _, _, _, _, _ => absurd h (Nat.not_lt_zero _)
 | r + 1, o, q, hr, ho, hl, h1, h2, W', hW, hM => by
  have hM' := hM
  obtain ⟨kv, hkv, hkt⟩ := hM'
  cases hf : kv.find? fun e => decide (((o : Int), q) = e.1) with
  | some e =>
   have he := List.find?_some hf
   have he' : ((o : Int), q) = e.1 := by simpa using he
   have hmem := List.mem_of_find?_eq_some hf
   have hv := hkt e hmem o (by rw [← he'])
   rw [← he'] at hv
   have h := can_known (some ad0) c0 hs vS vP b0 b1 lf e0 e1 A3 c3 js go gl m Bk Bg Bs Bf Bc w0 W' hS hW (memoM canV m) kv hkv o q (par o) e.2 (by unfold kvGet; rw [hf])
   rw [hv] at h
   exact h
  | none => exact can_new ad0 c0 hs vS vP b0 b1 lf e0 e1 A3 c3 js go gl m Bk Bg Bs Bf Bc w0 W' hS hW par rank canV hP r o q ho hl h1 h2 hr kv hkv hkt (by unfold kvGet; rw [hf]) (fun o' q' a1 a2 a3 a4 a5 W'' a6 a7 => can_calls ad0 c0 hs vS vP b0 b1 lf e0 e1 A3 c3 js go gl m Bk Bg Bs Bf Bc w0 hS par rank canV hP r o' q' a1 a2 a3 a4 a5 W'' a6 a7)
theorem made_is (n : Nat) : madeCells (Value.cells (.int .i64 0)) (n * 1) = is_ (List.replicate n 0) := by
 unfold is_ madeCells
 refine Array.ext (by simp [Value.cells]) (fun i h1 h2 => ?_)
 simp [Value.cells, Nat.mod_one]
set_option maxRecDepth 100000 in
set_option maxHeartbeats 8000000 in
theorem tuning_calls (ad0 : Addr) (c0 : Nat) (hs : List S26) (vS vP : Value) (b0 b1 : Int) (lf : Nat → Bool) (e0 e1 : Int) (A3 : Option Addr) (c3 : Nat) (js : List J) (go : Option Nat) (gl : List (Int × Int)) (W : World)
  (par : Nat → Int) (rank depth : Nat → Nat) (canV : Nat → Int → Bool) (f : Nat) (hF : Full hs.length js lf (e0, e1) (loH hs) (hiH hs) (okG gl) par rank depth canV) (hneg : ∀ x, par x < 0 → par x = -1) (hfu : ∀ x, x < hs.length → rank x < f)
  (hH : Kd.C k26 W (some ad0) hs.length hs) (hA : Kd.C k80 W A3 js.length (js.map ofJ)) (hgo : MapOpt E3 (Value.int .i64) W go gl) (hG : Glob W) (hn : hs.length ≤ 8) (hsp : ∀ x, x < hs.length → 1 ≤ loH hs x ∧ hiH hs x ≤ 4000 ∧ loH hs x ≤ hiH hs x)
  (hjs : ∀ (i : Nat) (hi : i < js.length), OkJ js[i] ∧ js[i].one < hs.length ∧ js[i].two < hs.length ∧ js[i].one ≠ js[i].two) :
  Calls Tryd.prog 63 #[.agg #[.slice (some ad0) hs.length c0, vS, vP, .int .i64 b0, .int .i64 b1, .slice A3 js.length c3, .bool (lf 0), .bool (lf 1), .bool (lf 2), .bool (lf 3), .bool (lf 4), .bool (lf 5), .bool (lf 6), .bool (lf 7), .int .i64 e0, .int .i64 e1], .map go] W (TunPost hs.length (loopF js lf (e0, e1) (loH hs) (hiH hs) par canV f hs.length hs.length 0 (List.replicate hs.length 0) (leftL lf)) W) := by
 have hu77 := Tryd.underlying77
 have hu80 := Tryd.underlying80
 have hu28 := Tryd.underlying28
 have hu26 := Tryd.underlying26
 have hu22 := Tryd.underlying22
 have hu75 := Tryd.underlying75
 have hmm := @run_makeMap Tryd.prog
 have hmk : ∀ w : World, (Instr.makeSlice 29 (.int .i64 (hs.length : Int)) (.int .i64 (hs.length : Int))).run Tryd.prog w = .ok (.slice (some ⟨w.heap.size, 0, none⟩) hs.length hs.length) (w.alloc (.cells (is_ (List.replicate hs.length 0)) 3)) := fun w => by
  obtain ⟨i, hi, hz0, hz1, hz2⟩ := info_parts info3
  have h := run_makeSlice (P := Tryd.prog) (w := w) 29 3 i (.int .i64 0) Tryd.underlying29 hi hz0 .i64 .i64 (hs.length : Int) (hs.length : Int) (by omega) (Int.le_refl _) (by rw [hz1]; omega) (by rw [hz2]; omega) (by omega)
  rw [Int.toNat_natCast, hz1, made_is] at h
  exact h
 have hst1 := fun (W' : World) (a : Addr) (mo : Mode) => run_store Tryd.prog W' a (.func (.func 80) #[] #[.pointer (some ⟨W.heap.size + 1 + 1 + 1 + 1 + 1 + 1, 0, none⟩), .pointer (some ⟨W.heap.size + 1, 0, none⟩), .pointer (some ⟨W.heap.size, 0, none⟩), .pointer (some ⟨W.heap.size + 1 + 1 + 1 + 1, 0, none⟩), .pointer (some ⟨W.heap.size + 1 + 1 + 1 + 1 + 1 + 1 + 1, 0, none⟩)]) mo rfl
 have hst2 := fun (W' : World) (a : Addr) (mo : Mode) => run_store Tryd.prog W' a (.func (.func 82) #[] #[.pointer (some ⟨W.heap.size + 1 + 1 + 1, 0, none⟩), .pointer (some ⟨W.heap.size, 0, none⟩), .pointer (some ⟨W.heap.size + 1 + 1 + 1 + 1, 0, none⟩), .pointer (some ⟨W.heap.size + 1 + 1 + 1 + 1 + 1 + 1 + 1, 0, none⟩), .pointer (some ⟨W.heap.size + 1 + 1 + 1 + 1 + 1 + 1 + 1 + 1, 0, none⟩)]) mo rfl
 have hst3 := fun (W' : World) (a : Addr) (mo : Mode) => run_store Tryd.prog W' a (.func (.func 53) #[.agg #[.slice (some ad0) hs.length c0, vS, vP, .int .i64 b0, .int .i64 b1, .slice A3 js.length c3, .bool (lf 0), .bool (lf 1), .bool (lf 2), .bool (lf 3), .bool (lf 4), .bool (lf 5), .bool (lf 6), .bool (lf 7), .int .i64 e0, .int .i64 e1]] #[]) mo rfl
 have HH := zh hH
 have HA := zh hA
 have HGO := zh hgo
 have HG := zh hG
 have HF := zh hF
 have HNEG := zh hneg
 have HFU := zh hfu
 have HSP := zh hsp
 have HJS := zh hjs
 clear hH hA hgo hG hF hneg hfu hsp hjs
 obtain ⟨RES, hRES⟩ : ∃ RES, loopF js lf (e0, e1) (loH hs) (hiH hs) par canV f hs.length hs.length 0 (List.replicate hs.length 0) (leftL lf) = RES := ⟨_, rfl⟩
 have HR0 := zh hRES
 rw [hRES]
 clear hRES
 go_enter Tryd.func63, Tryd.ntmps63
 go_wp2
 have hW0b : Below W.heap.size W ((((((((((W.alloc (.cells #[.slice (some ad0) hs.length c0, vS, vP, .int .i64 b0, .int .i64 b1, .slice A3 js.length c3, .bool (lf 0), .bool (lf 1), .bool (lf 2), .bool (lf 3), .bool (lf 4), .bool (lf 5), .bool (lf 6), .bool (lf 7), .int .i64 e0, .int .i64 e1] 77)).alloc (.cells #[.map go] 99)).alloc (.cells (is_ (List.replicate hs.length 0)) 3)).alloc (.cells #[.slice (some ⟨W.heap.size + 1 + 1, 0, none⟩) hs.length hs.length] 29)).alloc (.cells #[.func (.func 53) #[.agg #[.slice (some ad0) hs.length c0, vS, vP, .int .i64 b0, .int .i64 b1, .slice A3 js.length c3, .bool (lf 0), .bool (lf 1), .bool (lf 2), .bool (lf 3), .bool (lf 4), .bool (lf 5), .bool (lf 6), .bool (lf 7), .int .i64 e0, .int .i64 e1]] #[]] 81)).alloc (.map #[] 0)).alloc (.cells #[.map (some (W.heap.size + 1 + 1 + 1 + 1 + 1))] 108)).alloc (.cells #[.func (.func 80) #[] #[.pointer (some ⟨W.heap.size + 1 + 1 + 1 + 1 + 1 + 1, 0, none⟩), .pointer (some ⟨W.heap.size + 1, 0, none⟩), .pointer (some ⟨W.heap.size, 0, none⟩), .pointer (some ⟨W.heap.size + 1 + 1 + 1 + 1, 0, none⟩), .pointer (some ⟨W.heap.size + 1 + 1 + 1 + 1 + 1 + 1 + 1, 0, none⟩)]] 109)).alloc (.cells #[.func (.func 82) #[] #[.pointer (some ⟨W.heap.size + 1 + 1 + 1, 0, none⟩), .pointer (some ⟨W.heap.size, 0, none⟩), .pointer (some ⟨W.heap.size + 1 + 1 + 1 + 1, 0, none⟩), .pointer (some ⟨W.heap.size + 1 + 1 + 1 + 1 + 1 + 1 + 1, 0, none⟩), .pointer (some ⟨W.heap.size + 1 + 1 + 1 + 1 + 1 + 1 + 1 + 1, 0, none⟩)]] 116)).alloc (.cells #[.bool (lf 0), .bool (lf 1), .bool (lf 2), .bool (lf 3), .bool (lf 4), .bool (lf 5), .bool (lf 6), .bool (lf 7)] 75)) := by repeat (first | exact Below.refl _ _ | apply below_alloc)
 have B0 := blk_alloc (blk_alloc (blk_alloc (blk_alloc (blk_alloc (blk_alloc (blk_alloc (blk_alloc (blk_alloc (alloc_at W (.cells #[.slice (some ad0) hs.length c0, vS, vP, .int .i64 b0, .int .i64 b1, .slice A3 js.length c3, .bool (lf 0), .bool (lf 1), .bool (lf 2), .bool (lf 3), .bool (lf 4), .bool (lf 5), .bool (lf 6), .bool (lf 7), .int .i64 e0, .int .i64 e1] 77) (W.heap.size) (by simp)) (.cells #[.map go] 99)) (.cells (is_ (List.replicate hs.length 0)) 3)) (.cells #[.slice (some ⟨W.heap.size + 1 + 1, 0, none⟩) hs.length hs.length] 29)) (.cells #[.func (.func 53) #[.agg #[.slice (some ad0) hs.length c0, vS, vP, .int .i64 b0, .int .i64 b1, .slice A3 js.length c3, .bool (lf 0), .bool (lf 1), .bool (lf 2), .bool (lf 3), .bool (lf 4), .bool (lf 5), .bool (lf 6), .bool (lf 7), .int .i64 e0, .int .i64 e1]] #[]] 81)) (.map #[] 0)) (.cells #[.map (some (W.heap.size + 1 + 1 + 1 + 1 + 1))] 108)) (.cells #[.func (.func 80) #[] #[.pointer (some ⟨W.heap.size + 1 + 1 + 1 + 1 + 1 + 1, 0, none⟩), .pointer (some ⟨W.heap.size + 1, 0, none⟩), .pointer (some ⟨W.heap.size, 0, none⟩), .pointer (some ⟨W.heap.size + 1 + 1 + 1 + 1, 0, none⟩), .pointer (some ⟨W.heap.size + 1 + 1 + 1 + 1 + 1 + 1 + 1, 0, none⟩)]] 109)) (.cells #[.func (.func 82) #[] #[.pointer (some ⟨W.heap.size + 1 + 1 + 1, 0, none⟩), .pointer (some ⟨W.heap.size, 0, none⟩), .pointer (some ⟨W.heap.size + 1 + 1 + 1 + 1, 0, none⟩), .pointer (some ⟨W.heap.size + 1 + 1 + 1 + 1 + 1 + 1 + 1, 0, none⟩), .pointer (some ⟨W.heap.size + 1 + 1 + 1 + 1 + 1 + 1 + 1 + 1, 0, none⟩)]] 116)) (.cells #[.bool (lf 0), .bool (lf 1), .bool (lf 2), .bool (lf 3), .bool (lf 4), .bool (lf 5), .bool (lf 6), .bool (lf 7)] 75)
 have B1 := blk_alloc (blk_alloc (blk_alloc (blk_alloc (blk_alloc (blk_alloc (blk_alloc (blk_alloc (alloc_at (W.alloc (.cells #[.slice (some ad0) hs.length c0, vS, vP, .int .i64 b0, .int .i64 b1, .slice A3 js.length c3, .bool (lf 0), .bool (lf 1), .bool (lf 2), .bool (lf 3), .bool (lf 4), .bool (lf 5), .bool (lf 6), .bool (lf 7), .int .i64 e0, .int .i64 e1] 77)) (.cells #[.map go] 99) (W.heap.size + 1) (by simp)) (.cells (is_ (List.replicate hs.length 0)) 3)) (.cells #[.slice (some ⟨W.heap.size + 1 + 1, 0, none⟩) hs.length hs.length] 29)) (.cells #[.func (.func 53) #[.agg #[.slice (some ad0) hs.length c0, vS, vP, .int .i64 b0, .int .i64 b1, .slice A3 js.length c3, .bool (lf 0), .bool (lf 1), .bool (lf 2), .bool (lf 3), .bool (lf 4), .bool (lf 5), .bool (lf 6), .bool (lf 7), .int .i64 e0, .int .i64 e1]] #[]] 81)) (.map #[] 0)) (.cells #[.map (some (W.heap.size + 1 + 1 + 1 + 1 + 1))] 108)) (.cells #[.func (.func 80) #[] #[.pointer (some ⟨W.heap.size + 1 + 1 + 1 + 1 + 1 + 1, 0, none⟩), .pointer (some ⟨W.heap.size + 1, 0, none⟩), .pointer (some ⟨W.heap.size, 0, none⟩), .pointer (some ⟨W.heap.size + 1 + 1 + 1 + 1, 0, none⟩), .pointer (some ⟨W.heap.size + 1 + 1 + 1 + 1 + 1 + 1 + 1, 0, none⟩)]] 109)) (.cells #[.func (.func 82) #[] #[.pointer (some ⟨W.heap.size + 1 + 1 + 1, 0, none⟩), .pointer (some ⟨W.heap.size, 0, none⟩), .pointer (some ⟨W.heap.size + 1 + 1 + 1 + 1, 0, none⟩), .pointer (some ⟨W.heap.size + 1 + 1 + 1 + 1 + 1 + 1 + 1, 0, none⟩), .pointer (some ⟨W.heap.size + 1 + 1 + 1 + 1 + 1 + 1 + 1 + 1, 0, none⟩)]] 116)) (.cells #[.bool (lf 0), .bool (lf 1), .bool (lf 2), .bool (lf 3), .bool (lf 4), .bool (lf 5), .bool (lf 6), .bool (lf 7)] 75)
 have B2 := blk_alloc (blk_alloc (blk_alloc (blk_alloc (blk_alloc (blk_alloc (blk_alloc (alloc_at ((W.alloc (.cells #[.slice (some ad0) hs.length c0, vS, vP, .int .i64 b0, .int .i64 b1, .slice A3 js.length c3, .bool (lf 0), .bool (lf 1), .bool (lf 2), .bool (lf 3), .bool (lf 4), .bool (lf 5), .bool (lf 6), .bool (lf 7), .int .i64 e0, .int .i64 e1] 77)).alloc (.cells #[.map go] 99)) (.cells (is_ (List.replicate hs.length 0)) 3) (W.heap.size + 1 + 1) (by simp)) (.cells #[.slice (some ⟨W.heap.size + 1 + 1, 0, none⟩) hs.length hs.length] 29)) (.cells #[.func (.func 53) #[.agg #[.slice (some ad0) hs.length c0, vS, vP, .int .i64 b0, .int .i64 b1, .slice A3 js.length c3, .bool (lf 0), .bool (lf 1), .bool (lf 2), .bool (lf 3), .bool (lf 4), .bool (lf 5), .bool (lf 6), .bool (lf 7), .int .i64 e0, .int .i64 e1]] #[]] 81)) (.map #[] 0)) (.cells #[.map (some (W.heap.size + 1 + 1 + 1 + 1 + 1))] 108)) (.cells #[.func (.func 80) #[] #[.pointer (some ⟨W.heap.size + 1 + 1 + 1 + 1 + 1 + 1, 0, none⟩), .pointer (some ⟨W.heap.size + 1, 0, none⟩), .pointer (some ⟨W.heap.size, 0, none⟩), .pointer (some ⟨W.heap.size + 1 + 1 + 1 + 1, 0, none⟩), .pointer (some ⟨W.heap.size + 1 + 1 + 1 + 1 + 1 + 1 + 1, 0, none⟩)]] 109)) (.cells #[.func (.func 82) #[] #[.pointer (some ⟨W.heap.size + 1 + 1 + 1, 0, none⟩), .pointer (some ⟨W.heap.size, 0, none⟩), .pointer (some ⟨W.heap.size + 1 + 1 + 1 + 1, 0, none⟩), .pointer (some ⟨W.heap.size + 1 + 1 + 1 + 1 + 1 + 1 + 1, 0, none⟩), .pointer (some ⟨W.heap.size + 1 + 1 + 1 + 1 + 1 + 1 + 1 + 1, 0, none⟩)]] 116)) (.cells #[.bool (lf 0), .bool (lf 1), .bool (lf 2), .bool (lf 3), .bool (lf 4), .bool (lf 5), .bool (lf 6), .bool (lf 7)] 75)
 have B3 := blk_alloc (blk_alloc (blk_alloc (blk_alloc (blk_alloc (blk_alloc (alloc_at (((W.alloc (.cells #[.slice (some ad0) hs.length c0, vS, vP, .int .i64 b0, .int .i64 b1, .slice A3 js.length c3, .bool (lf 0), .bool (lf 1), .bool (lf 2), .bool (lf 3), .bool (lf 4), .bool (lf 5), .bool (lf 6), .bool (lf 7), .int .i64 e0, .int .i64 e1] 77)).alloc (.cells #[.map go] 99)).alloc (.cells (is_ (List.replicate hs.length 0)) 3)) (.cells #[.slice (some ⟨W.heap.size + 1 + 1, 0, none⟩) hs.length hs.length] 29) (W.heap.size + 1 + 1 + 1) (by simp)) (.cells #[.func (.func 53) #[.agg #[.slice (some ad0) hs.length c0, vS, vP, .int .i64 b0, .int .i64 b1, .slice A3 js.length c3, .bool (lf 0), .bool (lf 1), .bool (lf 2), .bool (lf 3), .bool (lf 4), .bool (lf 5), .bool (lf 6), .bool (lf 7), .int .i64 e0, .int .i64 e1]] #[]] 81)) (.map #[] 0)) (.cells #[.map (some (W.heap.size + 1 + 1 + 1 + 1 + 1))] 108)) (.cells #[.func (.func 80) #[] #[.pointer (some ⟨W.heap.size + 1 + 1 + 1 + 1 + 1 + 1, 0, none⟩), .pointer (some ⟨W.heap.size + 1, 0, none⟩), .pointer (some ⟨W.heap.size, 0, none⟩), .pointer (some ⟨W.heap.size + 1 + 1 + 1 + 1, 0, none⟩), .pointer (some ⟨W.heap.size + 1 + 1 + 1 + 1 + 1 + 1 + 1, 0, none⟩)]] 109)) (.cells #[.func (.func 82) #[] #[.pointer (some ⟨W.heap.size + 1 + 1 + 1, 0, none⟩), .pointer (some ⟨W.heap.size, 0, none⟩), .pointer (some ⟨W.heap.size + 1 + 1 + 1 + 1, 0, none⟩), .pointer (some ⟨W.heap.size + 1 + 1 + 1 + 1 + 1 + 1 + 1, 0, none⟩), .pointer (some ⟨W.heap.size + 1 + 1 + 1 + 1 + 1 + 1 + 1 + 1, 0, none⟩)]] 116)) (.cells #[.bool (lf 0), .bool (lf 1), .bool (lf 2), .bool (lf 3), .bool (lf 4), .bool (lf 5), .bool (lf 6), .bool (lf 7)] 75)
 have B4 := blk_alloc (blk_alloc (blk_alloc (blk_alloc (blk_alloc (alloc_at ((((W.alloc (.cells #[.slice (some ad0) hs.length c0, vS, vP, .int .i64 b0, .int .i64 b1, .slice A3 js.length c3, .bool (lf 0), .bool (lf 1), .bool (lf 2), .bool (lf 3), .bool (lf 4), .bool (lf 5), .bool (lf 6), .bool (lf 7), .int .i64 e0, .int .i64 e1] 77)).alloc (.cells #[.map go] 99)).alloc (.cells (is_ (List.replicate hs.length 0)) 3)).alloc (.cells #[.slice (some ⟨W.heap.size + 1 + 1, 0, none⟩) hs.length hs.length] 29)) (.cells #[.func (.func 53) #[.agg #[.slice (some ad0) hs.length c0, vS, vP, .int .i64 b0, .int .i64 b1, .slice A3 js.length c3, .bool (lf 0), .bool (lf 1), .bool (lf 2), .bool (lf 3), .bool (lf 4), .bool (lf 5), .bool (lf 6), .bool (lf 7), .int .i64 e0, .int .i64 e1]] #[]] 81) (W.heap.size + 1 + 1 + 1 + 1) (by simp)) (.map #[] 0)) (.cells #[.map (some (W.heap.size + 1 + 1 + 1 + 1 + 1))] 108)) (.cells #[.func (.func 80) #[] #[.pointer (some ⟨W.heap.size + 1 + 1 + 1 + 1 + 1 + 1, 0, none⟩), .pointer (some ⟨W.heap.size + 1, 0, none⟩), .pointer (some ⟨W.heap.size, 0, none⟩), .pointer (some ⟨W.heap.size + 1 + 1 + 1 + 1, 0, none⟩), .pointer (some ⟨W.heap.size + 1 + 1 + 1 + 1 + 1 + 1 + 1, 0, none⟩)]] 109)) (.cells #[.func (.func 82) #[] #[.pointer (some ⟨W.heap.size + 1 + 1 + 1, 0, none⟩), .pointer (some ⟨W.heap.size, 0, none⟩), .pointer (some ⟨W.heap.size + 1 + 1 + 1 + 1, 0, none⟩), .pointer (some ⟨W.heap.size + 1 + 1 + 1 + 1 + 1 + 1 + 1, 0, none⟩), .pointer (some ⟨W.heap.size + 1 + 1 + 1 + 1 + 1 + 1 + 1 + 1, 0, none⟩)]] 116)) (.cells #[.bool (lf 0), .bool (lf 1), .bool (lf 2), .bool (lf 3), .bool (lf 4), .bool (lf 5), .bool (lf 6), .bool (lf 7)] 75)
 have B5 := blk_alloc (blk_alloc (blk_alloc (blk_alloc (alloc_at (((((W.alloc (.cells #[.slice (some ad0) hs.length c0, vS, vP, .int .i64 b0, .int .i64 b1, .slice A3 js.length c3, .bool (lf 0), .bool (lf 1), .bool (lf 2), .bool (lf 3), .bool (lf 4), .bool (lf 5), .bool (lf 6), .bool (lf 7), .int .i64 e0, .int .i64 e1] 77)).alloc (.cells #[.map go] 99)).alloc (.cells (is_ (List.replicate hs.length 0)) 3)).alloc (.cells #[.slice (some ⟨W.heap.size + 1 + 1, 0, none⟩) hs.length hs.length] 29)).alloc (.cells #[.func (.func 53) #[.agg #[.slice (some ad0) hs.length c0, vS, vP, .int .i64 b0, .int .i64 b1, .slice A3 js.length c3, .bool (lf 0), .bool (lf 1), .bool (lf 2), .bool (lf 3), .bool (lf 4), .bool (lf 5), .bool (lf 6), .bool (lf 7), .int .i64 e0, .int .i64 e1]] #[]] 81)) (.map #[] 0) (W.heap.size + 1 + 1 + 1 + 1 + 1) (by simp)) (.cells #[.map (some (W.heap.size + 1 + 1 + 1 + 1 + 1))] 108)) (.cells #[.func (.func 80) #[] #[.pointer (some ⟨W.heap.size + 1 + 1 + 1 + 1 + 1 + 1, 0, none⟩), .pointer (some ⟨W.heap.size + 1, 0, none⟩), .pointer (some ⟨W.heap.size, 0, none⟩), .pointer (some ⟨W.heap.size + 1 + 1 + 1 + 1, 0, none⟩), .pointer (some ⟨W.heap.size + 1 + 1 + 1 + 1 + 1 + 1 + 1, 0, none⟩)]] 109)) (.cells #[.func (.func 82) #[] #[.pointer (some ⟨W.heap.size + 1 + 1 + 1, 0, none⟩), .pointer (some ⟨W.heap.size, 0, none⟩), .pointer (some ⟨W.heap.size + 1 + 1 + 1 + 1, 0, none⟩), .pointer (some ⟨W.heap.size + 1 + 1 + 1 + 1 + 1 + 1 + 1, 0, none⟩), .pointer (some ⟨W.heap.size + 1 + 1 + 1 + 1 + 1 + 1 + 1 + 1, 0, none⟩)]] 116)) (.cells #[.bool (lf 0), .bool (lf 1), .bool (lf 2), .bool (lf 3), .bool (lf 4), .bool (lf 5), .bool (lf 6), .bool (lf 7)] 75)
 have B6 := blk_alloc (blk_alloc (blk_alloc (alloc_at ((((((W.alloc (.cells #[.slice (some ad0) hs.length c0, vS, vP, .int .i64 b0, .int .i64 b1, .slice A3 js.length c3, .bool (lf 0), .bool (lf 1), .bool (lf 2), .bool (lf 3), .bool (lf 4), .bool (lf 5), .bool (lf 6), .bool (lf 7), .int .i64 e0, .int .i64 e1] 77)).alloc (.cells #[.map go] 99)).alloc (.cells (is_ (List.replicate hs.length 0)) 3)).alloc (.cells #[.slice (some ⟨W.heap.size + 1 + 1, 0, none⟩) hs.length hs.length] 29)).alloc (.cells #[.func (.func 53) #[.agg #[.slice (some ad0) hs.length c0, vS, vP, .int .i64 b0, .int .i64 b1, .slice A3 js.length c3, .bool (lf 0), .bool (lf 1), .bool (lf 2), .bool (lf 3), .bool (lf 4), .bool (lf 5), .bool (lf 6), .bool (lf 7), .int .i64 e0, .int .i64 e1]] #[]] 81)).alloc (.map #[] 0)) (.cells #[.map (some (W.heap.size + 1 + 1 + 1 + 1 + 1))] 108) (W.heap.size + 1 + 1 + 1 + 1 + 1 + 1) (by simp)) (.cells #[.func (.func 80) #[] #[.pointer (some ⟨W.heap.size + 1 + 1 + 1 + 1 + 1 + 1, 0, none⟩), .pointer (some ⟨W.heap.size + 1, 0, none⟩), .pointer (some ⟨W.heap.size, 0, none⟩), .pointer (some ⟨W.heap.size + 1 + 1 + 1 + 1, 0, none⟩), .pointer (some ⟨W.heap.size + 1 + 1 + 1 + 1 + 1 + 1 + 1, 0, none⟩)]] 109)) (.cells #[.func (.func 82) #[] #[.pointer (some ⟨W.heap.size + 1 + 1 + 1, 0, none⟩), .pointer (some ⟨W.heap.size, 0, none⟩), .pointer (some ⟨W.heap.size + 1 + 1 + 1 + 1, 0, none⟩), .pointer (some ⟨W.heap.size + 1 + 1 + 1 + 1 + 1 + 1 + 1, 0, none⟩), .pointer (some ⟨W.heap.size + 1 + 1 + 1 + 1 + 1 + 1 + 1 + 1, 0, none⟩)]] 116)) (.cells #[.bool (lf 0), .bool (lf 1), .bool (lf 2), .bool (lf 3), .bool (lf 4), .bool (lf 5), .bool (lf 6), .bool (lf 7)] 75)
 have B7 := blk_alloc (blk_alloc (alloc_at (((((((W.alloc (.cells #[.slice (some ad0) hs.length c0, vS, vP, .int .i64 b0, .int .i64 b1, .slice A3 js.length c3, .bool (lf 0), .bool (lf 1), .bool (lf 2), .bool (lf 3), .bool (lf 4), .bool (lf 5), .bool (lf 6), .bool (lf 7), .int .i64 e0, .int .i64 e1] 77)).alloc (.cells #[.map go] 99)).alloc (.cells (is_ (List.replicate hs.length 0)) 3)).alloc (.cells #[.slice (some ⟨W.heap.size + 1 + 1, 0, none⟩) hs.length hs.length] 29)).alloc (.cells #[.func (.func 53) #[.agg #[.slice (some ad0) hs.length c0, vS, vP, .int .i64 b0, .int .i64 b1, .slice A3 js.length c3, .bool (lf 0), .bool (lf 1), .bool (lf 2), .bool (lf 3), .bool (lf 4), .bool (lf 5), .bool (lf 6), .bool (lf 7), .int .i64 e0, .int .i64 e1]] #[]] 81)).alloc (.map #[] 0)).alloc (.cells #[.map (some (W.heap.size + 1 + 1 + 1 + 1 + 1))] 108)) (.cells #[.func (.func 80) #[] #[.pointer (some ⟨W.heap.size + 1 + 1 + 1 + 1 + 1 + 1, 0, none⟩), .pointer (some ⟨W.heap.size + 1, 0, none⟩), .pointer (some ⟨W.heap.size, 0, none⟩), .pointer (some ⟨W.heap.size + 1 + 1 + 1 + 1, 0, none⟩), .pointer (some ⟨W.heap.size + 1 + 1 + 1 + 1 + 1 + 1 + 1, 0, none⟩)]] 109) (W.heap.size + 1 + 1 + 1 + 1 + 1 + 1 + 1) (by simp)) (.cells #[.func (.func 82) #[] #[.pointer (some ⟨W.heap.size + 1 + 1 + 1, 0, none⟩), .pointer (some ⟨W.heap.size, 0, none⟩), .pointer (some ⟨W.heap.size + 1 + 1 + 1 + 1, 0, none⟩), .pointer (some ⟨W.heap.size + 1 + 1 + 1 + 1 + 1 + 1 + 1, 0, none⟩), .pointer (some ⟨W.heap.size + 1 + 1 + 1 + 1 + 1 + 1 + 1 + 1, 0, none⟩)]] 116)) (.cells #[.bool (lf 0), .bool (lf 1), .bool (lf 2), .bool (lf 3), .bool (lf 4), .bool (lf 5), .bool (lf 6), .bool (lf 7)] 75)
 have B8 := blk_alloc (alloc_at ((((((((W.alloc (.cells #[.slice (some ad0) hs.length c0, vS, vP, .int .i64 b0, .int .i64 b1, .slice A3 js.length c3, .bool (lf 0), .bool (lf 1), .bool (lf 2), .bool (lf 3), .bool (lf 4), .bool (lf 5), .bool (lf 6), .bool (lf 7), .int .i64 e0, .int .i64 e1] 77)).alloc (.cells #[.map go] 99)).alloc (.cells (is_ (List.replicate hs.length 0)) 3)).alloc (.cells #[.slice (some ⟨W.heap.size + 1 + 1, 0, none⟩) hs.length hs.length] 29)).alloc (.cells #[.func (.func 53) #[.agg #[.slice (some ad0) hs.length c0, vS, vP, .int .i64 b0, .int .i64 b1, .slice A3 js.length c3, .bool (lf 0), .bool (lf 1), .bool (lf 2), .bool (lf 3), .bool (lf 4), .bool (lf 5), .bool (lf 6), .bool (lf 7), .int .i64 e0, .int .i64 e1]] #[]] 81)).alloc (.map #[] 0)).alloc (.cells #[.map (some (W.heap.size + 1 + 1 + 1 + 1 + 1))] 108)).alloc (.cells #[.func (.func 80) #[] #[.pointer (some ⟨W.heap.size + 1 + 1 + 1 + 1 + 1 + 1, 0, none⟩), .pointer (some ⟨W.heap.size + 1, 0, none⟩), .pointer (some ⟨W.heap.size, 0, none⟩), .pointer (some ⟨W.heap.size + 1 + 1 + 1 + 1, 0, none⟩), .pointer (some ⟨W.heap.size + 1 + 1 + 1 + 1 + 1 + 1 + 1, 0, none⟩)]] 109)) (.cells #[.func (.func 82) #[] #[.pointer (some ⟨W.heap.size + 1 + 1 + 1, 0, none⟩), .pointer (some ⟨W.heap.size, 0, none⟩), .pointer (some ⟨W.heap.size + 1 + 1 + 1 + 1, 0, none⟩), .pointer (some ⟨W.heap.size + 1 + 1 + 1 + 1 + 1 + 1 + 1, 0, none⟩), .pointer (some ⟨W.heap.size + 1 + 1 + 1 + 1 + 1 + 1 + 1 + 1, 0, none⟩)]] 116) (W.heap.size + 1 + 1 + 1 + 1 + 1 + 1 + 1 + 1) (by simp)) (.cells #[.bool (lf 0), .bool (lf 1), .bool (lf 2), .bool (lf 3), .bool (lf 4), .bool (lf 5), .bool (lf 6), .bool (lf 7)] 75)
 have B9 := alloc_at (((((((((W.alloc (.cells #[.slice (some ad0) hs.length c0, vS, vP, .int .i64 b0, .int .i64 b1, .slice A3 js.length c3, .bool (lf 0), .bool (lf 1), .bool (lf 2), .bool (lf 3), .bool (lf 4), .bool (lf 5), .bool (lf 6), .bool (lf 7), .int .i64 e0, .int .i64 e1] 77)).alloc (.cells #[.map go] 99)).alloc (.cells (is_ (List.replicate hs.length 0)) 3)).alloc (.cells #[.slice (some ⟨W.heap.size + 1 + 1, 0, none⟩) hs.length hs.length] 29)).alloc (.cells #[.func (.func 53) #[.agg #[.slice (some ad0) hs.length c0, vS, vP, .int .i64 b0, .int .i64 b1, .slice A3 js.length c3, .bool (lf 0), .bool (lf 1), .bool (lf 2), .bool (lf 3), .bool (lf 4), .bool (lf 5), .bool (lf 6), .bool (lf 7), .int .i64 e0, .int .i64 e1]] #[]] 81)).alloc (.map #[] 0)).alloc (.cells #[.map (some (W.heap.size + 1 + 1 + 1 + 1 + 1))] 108)).alloc (.cells #[.func (.func 80) #[] #[.pointer (some ⟨W.heap.size + 1 + 1 + 1 + 1 + 1 + 1, 0, none⟩), .pointer (some ⟨W.heap.size + 1, 0, none⟩), .pointer (some ⟨W.heap.size, 0, none⟩), .pointer (some ⟨W.heap.size + 1 + 1 + 1 + 1, 0, none⟩), .pointer (some ⟨W.heap.size + 1 + 1 + 1 + 1 + 1 + 1 + 1, 0, none⟩)]] 109)).alloc (.cells #[.func (.func 82) #[] #[.pointer (some ⟨W.heap.size + 1 + 1 + 1, 0, none⟩), .pointer (some ⟨W.heap.size, 0, none⟩), .pointer (some ⟨W.heap.size + 1 + 1 + 1 + 1, 0, none⟩), .pointer (some ⟨W.heap.size + 1 + 1 + 1 + 1 + 1 + 1 + 1, 0, none⟩), .pointer (some ⟨W.heap.size + 1 + 1 + 1 + 1 + 1 + 1 + 1 + 1, 0, none⟩)]] 116)) (.cells #[.bool (lf 0), .bool (lf 1), .bool (lf 2), .bool (lf 3), .bool (lf 4), .bool (lf 5), .bool (lf 6), .bool (lf 7)] 75) (W.heap.size + 1 + 1 + 1 + 1 + 1 + 1 + 1 + 1 + 1) (by simp)
 have hsz : ((((((((((W.alloc (.cells #[.slice (some ad0) hs.length c0, vS, vP, .int .i64 b0, .int .i64 b1, .slice A3 js.length c3, .bool (lf 0), .bool (lf 1), .bool (lf 2), .bool (lf 3), .bool (lf 4), .bool (lf 5), .bool (lf 6), .bool (lf 7), .int .i64 e0, .int .i64 e1] 77)).alloc (.cells #[.map go] 99)).alloc (.cells (is_ (List.replicate hs.length 0)) 3)).alloc (.cells #[.slice (some ⟨W.heap.size + 1 + 1, 0, none⟩) hs.length hs.length] 29)).alloc (.cells #[.func (.func 53) #[.agg #[.slice (some ad0) hs.length c0, vS, vP, .int .i64 b0, .int .i64 b1, .slice A3 js.length c3, .bool (lf 0), .bool (lf 1), .bool (lf 2), .bool (lf 3), .bool (lf 4), .bool (lf 5), .bool (lf 6), .bool (lf 7), .int .i64 e0, .int .i64 e1]] #[]] 81)).alloc (.map #[] 0)).alloc (.cells #[.map (some (W.heap.size + 1 + 1 + 1 + 1 + 1))] 108)).alloc (.cells #[.func (.func 80) #[] #[.pointer (some ⟨W.heap.size + 1 + 1 + 1 + 1 + 1 + 1, 0, none⟩), .pointer (some ⟨W.heap.size + 1, 0, none⟩), .pointer (some ⟨W.heap.size, 0, none⟩), .pointer (some ⟨W.heap.size + 1 + 1 + 1 + 1, 0, none⟩), .pointer (some ⟨W.heap.size + 1 + 1 + 1 + 1 + 1 + 1 + 1, 0, none⟩)]] 109)).alloc (.cells #[.func (.func 82) #[] #[.pointer (some ⟨W.heap.size + 1 + 1 + 1, 0, none⟩), .pointer (some ⟨W.heap.size, 0, none⟩), .pointer (some ⟨W.heap.size + 1 + 1 + 1 + 1, 0, none⟩), .pointer (some ⟨W.heap.size + 1 + 1 + 1 + 1 + 1 + 1 + 1, 0, none⟩), .pointer (some ⟨W.heap.size + 1 + 1 + 1 + 1 + 1 + 1 + 1 + 1, 0, none⟩)]] 116)).alloc (.cells #[.bool (lf 0), .bool (lf 1), .bool (lf 2), .bool (lf 3), .bool (lf 4), .bool (lf 5), .bool (lf 6), .bool (lf 7)] 75)).heap.size = W.heap.size + 10 := by simp
 obtain ⟨W0, hW0⟩ : ∃ W0, ((((((((((W.alloc (.cells #[.slice (some ad0) hs.length c0, vS, vP, .int .i64 b0, .int .i64 b1, .slice A3 js.length c3, .bool (lf 0), .bool (lf 1), .bool (lf 2), .bool (lf 3), .bool (lf 4), .bool (lf 5), .bool (lf 6), .bool (lf 7), .int .i64 e0, .int .i64 e1] 77)).alloc (.cells #[.map go] 99)).alloc (.cells (is_ (List.replicate hs.length 0)) 3)).alloc (.cells #[.slice (some ⟨W.heap.size + 1 + 1, 0, none⟩) hs.length hs.length] 29)).alloc (.cells #[.func (.func 53) #[.agg #[.slice (some ad0) hs.length c0, vS, vP, .int .i64 b0, .int .i64 b1, .slice A3 js.length c3, .bool (lf 0), .bool (lf 1), .bool (lf 2), .bool (lf 3), .bool (lf 4), .bool (lf 5), .bool (lf 6), .bool (lf 7), .int .i64 e0, .int .i64 e1]] #[]] 81)).alloc (.map #[] 0)).alloc (.cells #[.map (some (W.heap.size + 1 + 1 + 1 + 1 + 1))] 108)).alloc (.cells #[.func (.func 80) #[] #[.pointer (some ⟨W.heap.size + 1 + 1 + 1 + 1 + 1 + 1, 0, none⟩), .pointer (some ⟨W.heap.size + 1, 0, none⟩), .pointer (some ⟨W.heap.size, 0, none⟩), .pointer (some ⟨W.heap.size + 1 + 1 + 1 + 1, 0, none⟩), .pointer (some ⟨W.heap.size + 1 + 1 + 1 + 1 + 1 + 1 + 1, 0, none⟩)]] 109)).alloc (.cells #[.func (.func 82) #[] #[.pointer (some ⟨W.heap.size + 1 + 1 + 1, 0, none⟩), .pointer (some ⟨W.heap.size, 0, none⟩), .pointer (some ⟨W.heap.size + 1 + 1 + 1 + 1, 0, none⟩), .pointer (some ⟨W.heap.size + 1 + 1 + 1 + 1 + 1 + 1 + 1, 0, none⟩), .pointer (some ⟨W.heap.size + 1 + 1 + 1 + 1 + 1 + 1 + 1 + 1, 0, none⟩)]] 116)).alloc (.cells #[.bool (lf 0), .bool (lf 1), .bool (lf 2), .bool (lf 3), .bool (lf 4), .bool (lf 5), .bool (lf 6), .bool (lf 7)] 75)) = W0 := ⟨_, rfl⟩
 simp only [hW0] at hW0b B0 B1 B2 B3 B4 B5 B6 B7 B8 B9 hsz ⊢
 clear hW0 hst1 hst2 hst3 hmk hmm
 have hsz1 : W.heap.size + 10 ≤ W0.heap.size := by omega
 have hsz2 : W0.heap.size ≤ W.heap.size + 10 := by omega
 clear hsz
 have HS : Aside0 (CanS (some ad0) hs A3 js go gl (W.heap.size + 1 + 1 + 1 + 1 + 1) (W.heap.size + 1 + 1 + 1 + 1 + 1 + 1) (W.heap.size + 1) (W.heap.size) (W.heap.size + 1 + 1 + 1 + 1) (W.heap.size + 1 + 1 + 1 + 1 + 1 + 1 + 1) W) := ⟨⟨HH.out, HA.out, HGO.out, HG.out, hn, HSP.out, HJS.out, by omega, ⟨by omega, by omega, by omega, by omega, by omega⟩⟩⟩
 have HN : Aside0 (SetNe (W.heap.size + 1 + 1 + 1 + 1 + 1) (W.heap.size + 1 + 1 + 1 + 1 + 1 + 1) (W.heap.size + 1) (W.heap.size) (W.heap.size + 1 + 1 + 1 + 1) (W.heap.size + 1 + 1 + 1 + 1 + 1 + 1 + 1) (W.heap.size + 1 + 1 + 1) (W.heap.size + 1 + 1 + 1 + 1 + 1 + 1 + 1 + 1) (W.heap.size + 1 + 1) W) := ⟨⟨⟨by omega, by omega, by omega⟩, ⟨by omega, by omega, by omega, by omega, by omega, by omega, by omega⟩, by omega⟩⟩
 have S0 : Aside0 (SetW ad0 c0 hs vS vP b0 b1 lf e0 e1 A3 c3 js go (W.heap.size + 1 + 1 + 1 + 1 + 1) (W.heap.size + 1 + 1 + 1 + 1 + 1 + 1) (W.heap.size + 1) (W.heap.size) (W.heap.size + 1 + 1 + 1 + 1) (W.heap.size + 1 + 1 + 1 + 1 + 1 + 1 + 1) (W.heap.size + 1 + 1 + 1) (W.heap.size + 1 + 1 + 1 + 1 + 1 + 1 + 1 + 1) (W.heap.size + 1 + 1) W W0) := ⟨⟨⟨hW0b, B6, B1, B0, B4, B7⟩, B3, B8⟩⟩
 obtain ⟨M, hMdef⟩ : ∃ M, memoM canV (W.heap.size + 1 + 1 + 1 + 1 + 1) = M := ⟨_, rfl⟩
 have HM0 : Aside0 (M.P W0) := ⟨by rw [← hMdef]; exact ⟨[], ⟨#[], 0, B5, rfl⟩, by simp⟩⟩
 have G0 := zh B2
 have T0 : Aside0 (W0.heap[W.heap.size + 1 + 1 + 1 + 1 + 1 + 1 + 1 + 1 + 1]? = some (.cells (bs (leftL lf)) 75 (0, 0))) := ⟨B9⟩
 have HCAN := can_calls ad0 c0 hs vS vP b0 b1 lf e0 e1 A3 c3 js go gl (W.heap.size + 1 + 1 + 1 + 1 + 1) (W.heap.size + 1 + 1 + 1 + 1 + 1 + 1) (W.heap.size + 1) (W.heap.size) (W.heap.size + 1 + 1 + 1 + 1) (W.heap.size + 1 + 1 + 1 + 1 + 1 + 1 + 1) W HS.out par rank canV HF.out.plan f
 have HSET := set_calls ad0 c0 hs vS vP b0 b1 lf e0 e1 A3 c3 js go gl (W.heap.size + 1 + 1 + 1 + 1 + 1) (W.heap.size + 1 + 1 + 1 + 1 + 1 + 1) (W.heap.size + 1) (W.heap.size) (W.heap.size + 1 + 1 + 1 + 1) (W.heap.size + 1 + 1 + 1 + 1 + 1 + 1 + 1) (W.heap.size + 1 + 1 + 1) (W.heap.size + 1 + 1 + 1 + 1 + 1 + 1 + 1 + 1) (W.heap.size + 1 + 1) W HS.out HN.out par rank canV HF.out.plan (fun o q h1 h2 h3 h4 => HCAN o q (HFU.out o h1) h1 h2 h3 h4) f
 rw [hMdef] at HCAN HSET
 have HCA := zh HCAN
 have HSE := zh HSET
 have HMK := zh (mark_calls (.slice (some ad0) hs.length c0) vS vP b0 b1 lf e0 e1 A3 c3 js hs.length par rank M (W.heap.size + 1 + 1 + 1 + 1 + 1 + 1 + 1 + 1 + 1) W hn (by omega) (by omega) (by omega) HA.out HJS.out HF.out.plan.child f)
 clear B0 B1 B2 B3 B4 B5 B6 B7 B8 B9 hW0b HCAN HSET hMdef
 have hlr : (List.replicate hs.length (0 : Int)).length = hs.length := by simp
 go_loopw [31] (fun u wr => ∃ (k : Nat) (l : List Int) (mt : List Bool), k ≤ hs.length ∧ u = .int .i64 k ∧ l.length = hs.length ∧ Aside0 (MetInv hs.length js lf par k mt) ∧ Aside0 (loopF js lf (e0, e1) (loH hs) (hiH hs) par canV f hs.length (hs.length - k) k l mt = RES) ∧ Aside0 (SetW ad0 c0 hs vS vP b0 b1 lf e0 e1 A3 c3 js go (W.heap.size + 1 + 1 + 1 + 1 + 1) (W.heap.size + 1 + 1 + 1 + 1 + 1 + 1) (W.heap.size + 1) (W.heap.size) (W.heap.size + 1 + 1 + 1 + 1) (W.heap.size + 1 + 1 + 1 + 1 + 1 + 1 + 1) (W.heap.size + 1 + 1 + 1) (W.heap.size + 1 + 1 + 1 + 1 + 1 + 1 + 1 + 1) (W.heap.size + 1 + 1) W wr) ∧ Aside0 (M.P wr) ∧ Aside0 (wr.heap[W.heap.size + 1 + 1]? = some (.cells (is_ l) 3 (0, 0))) ∧ Aside0 (wr.heap[W.heap.size + 1 + 1 + 1 + 1 + 1 + 1 + 1 + 1 + 1]? = some (.cells (bs mt) 75 (0, 0)))) (fun u _ => hs.length - (intOf u).toNat)
 case atStart => exact ⟨0, _, _, Nat.zero_le _, rfl, hlr, ⟨MetInv.start hn⟩, HR0, S0, HM0, G0, T0⟩
 case round =>
  obtain ⟨k, l, mt, hk, rfl, hll, HMI, HR, SWr, HMr, Gr, Tr⟩ := hrel
  have hml := HMI.out.len
  have hws := SWr.out.canW.base.size
  have hwT := blk_lt Tr.out
  by_cases hlt : k < hs.length
  ·have hlt' : (k : Int) < (hs.length : Int) := by omega
   have HSPk := HSP.out k hlt
   have HLS : Aside0 (loopF js lf (e0, e1) (loH hs) (hiH hs) par canV f hs.length (hs.length - k) k l mt = if mt.getD k false then loopF js lf (e0, e1) (loH hs) (hiH hs) par canV f hs.length (hs.length - (k + 1)) (k + 1) (if lf k then l.set k (loH hs k) else l) mt else match (irange (loH hs k) (hiH hs k)).find? (canV k) with | none => none | some p => loopF js lf (e0, e1) (loH hs) (hiH hs) par canV f hs.length (hs.length - (k + 1)) (k + 1) (setF js lf (e0, e1) (loH hs) (hiH hs) par canV f k p l) (markF js lf f k mt)) := ⟨by rw [show hs.length - k = (hs.length - (k + 1)) + 1 from by omega]; rfl⟩
   have t0 := bs_at Tr.out k (by omega)
   cases hmk : mt.getD k false with
   | true =>
    rw [hmk] at t0
    have HMK2 := zh hmk
    have Sx := zh SWr.out.canW.set
    have l0 := left_cell (.slice (some ad0) hs.length c0) vS vP (.slice A3 js.length c3) b0 b1 lf e0 e1 SWr.out.canW.set k (by omega)
    clear hmk
    cases hlk : lf k with
    | false =>
     rw [hlk] at l0
     have HLK := zh hlk
     clear hlk
     go_wp2
     go_roundw
     case rel => exact ⟨k + 1, l, mt, by omega, by go_num, hll, ⟨HMI.out.met HF.out hlt HMK2.out⟩, ⟨by have h := HR.out; rw [HLS.out, HMK2.out, HLK.out] at h; exact h⟩, SWr, HMr, Gr, Tr⟩
     case measure => simp [intOf]; omega
    | true =>
     rw [hlk] at l0
     have HLK := zh hlk
     clear hlk
     go_wp2
     have SW2 : Aside0 (SetW ad0 c0 hs vS vP b0 b1 lf e0 e1 A3 c3 js go (W.heap.size + 1 + 1 + 1 + 1 + 1) (W.heap.size + 1 + 1 + 1 + 1 + 1 + 1) (W.heap.size + 1) (W.heap.size) (W.heap.size + 1 + 1 + 1 + 1) (W.heap.size + 1 + 1 + 1 + 1 + 1 + 1 + 1) (W.heap.size + 1 + 1 + 1) (W.heap.size + 1 + 1 + 1 + 1 + 1 + 1 + 1 + 1) (W.heap.size + 1 + 1) W wr.drew) := ⟨SWr.out.keep HS.out HN.out ((KB.of_below (M := M) (below_drew1 (Below.refl wr.heap.size wr))).round (fun _ => True)) (fun _ _ _ => trivial)⟩
     have G2 : Aside0 (wr.drew.heap[W.heap.size + 1 + 1]? = some (.cells (is_ l) 3 (0, 0))) := ⟨Gr.out⟩
     have T2 : Aside0 (wr.drew.heap[W.heap.size + 1 + 1 + 1 + 1 + 1 + 1 + 1 + 1 + 1]? = some (.cells (bs mt) 75 (0, 0))) := ⟨Tr.out⟩
     have HM2 : Aside0 (M.P wr.drew) := ⟨M.move HMr.out rfl⟩
     refine wp_region_still_tail 10 zk zk ?_
     simp only [List.take_succ_cons, List.take_zero, List.drop_succ_cons, List.drop_zero]
     change wpStill Tryd.prog _ wr.drew _ _ _
     obtain ⟨W2, hW2⟩ : ∃ W2, wr.drew = W2 := ⟨_, rfl⟩
     rw [hW2] at SW2 G2 T2 HM2 ⊢
     have HW2 := zh hW2
     clear hW2
     obtain ⟨ad_, he_, g0, g1⟩ := H_at (Kd.C_below HH.out SW2.out.canW.base) k hlt
     injection he_ with he_
     subst he_
     have o0 : W2.cell? ⟨W.heap.size + 1 + 1 + 1, 0, none⟩ = some (.slice (some ⟨W.heap.size + 1 + 1, 0, none⟩) hs.length hs.length) := (blk_cell SW2.out.out 0).trans rfl
     have s0 : W2.cell? ⟨W.heap.size, 0, none⟩ = some (.slice (some ad0) hs.length c0) := (blk_cell SW2.out.canW.set 0).trans rfl
     have q0 : W2.cell? ⟨W.heap.size + 1 + 1, k, none⟩ = some (.int .i64 (l.getD k 0)) := is_at G2.out k (by omega)
     have q1 : W2.frozen? ⟨W.heap.size + 1 + 1, k, none⟩ = false := blk_frozen G2.out k
     have hls : l.length = hs.length := hll
     repeat still_step
     refine wpStill_nil ?_
     change wpList _ _ _ _ _ wr.drew
     rw [HW2.out]
     clear HW2
     go_wp2
     have K3 := zh ((KR.refl M (fun i => i ≠ W.heap.size + 1 + 1) W2).set (g := W.heap.size + 1 + 1) (.inl (fun h => h rfl)) (by omega) k (.int .i64 (loH hs k)))
     go_roundw
     case rel => exact ⟨k + 1, l.set k (loH hs k), mt, by omega, by go_num, by rw [List.length_set]; exact hll, ⟨HMI.out.met HF.out hlt HMK2.out⟩, ⟨by have h := HR.out; rw [HLS.out, HMK2.out, HLK.out] at h; exact h⟩, ⟨SW2.out.keep HS.out HN.out K3.out (fun i _ hi => hi)⟩, ⟨K3.out.memo HM2.out⟩, ⟨is_set G2.out k _⟩, ⟨blk_far T2.out (by show _ ≠ W.heap.size + 1 + 1; omega) _⟩⟩
     case measure => simp [intOf]; omega
   | false =>
    rw [hmk] at t0
    obtain ⟨hpk, hlk⟩ := HMI.out.root HF.out hlt hmk
    have hpar := HNEG.out k hpk
    have HMK2 := zh hmk
    have HPK := zh hpar
    clear hmk hpar
    have HCK : Aside0 (∀ q, loH hs k ≤ q → q ≤ hiH hs k → ∀ W', CanW (some ad0) c0 hs vS vP b0 b1 lf e0 e1 A3 c3 js go (W.heap.size + 1 + 1 + 1 + 1 + 1) (W.heap.size + 1 + 1 + 1 + 1 + 1 + 1) (W.heap.size + 1) (W.heap.size) (W.heap.size + 1 + 1 + 1 + 1) (W.heap.size + 1 + 1 + 1 + 1 + 1 + 1 + 1) W W' → M.P W' → Calls Tryd.prog 80 #[.agg #[.int .i64 (k : Int), .int .i64 q], .int .i64 (-1), .pointer (some ⟨W.heap.size + 1 + 1 + 1 + 1 + 1 + 1, 0, none⟩), .pointer (some ⟨W.heap.size + 1, 0, none⟩), .pointer (some ⟨W.heap.size, 0, none⟩), .pointer (some ⟨W.heap.size + 1 + 1 + 1 + 1, 0, none⟩), .pointer (some ⟨W.heap.size + 1 + 1 + 1 + 1 + 1 + 1 + 1, 0, none⟩)] W' fun e W'' => e = .returned (.bool (canV k q)) ∧ KB M W' W'') := ⟨fun q h1 h2 W' h3 h4 => by have h := HCA.out k q (HFU.out k hlt) hlt hlk h1 h2 W' h3 h4; rw [HPK.out] at h; exact (callsIn_wide (n := 9)).1 h⟩
    have HSK : Aside0 (∀ q, loH hs k ≤ q → q ≤ hiH hs k → ∀ W', SetW ad0 c0 hs vS vP b0 b1 lf e0 e1 A3 c3 js go (W.heap.size + 1 + 1 + 1 + 1 + 1) (W.heap.size + 1 + 1 + 1 + 1 + 1 + 1) (W.heap.size + 1) (W.heap.size) (W.heap.size + 1 + 1 + 1 + 1) (W.heap.size + 1 + 1 + 1 + 1 + 1 + 1 + 1) (W.heap.size + 1 + 1 + 1) (W.heap.size + 1 + 1 + 1 + 1 + 1 + 1 + 1 + 1) (W.heap.size + 1 + 1) W W' → M.P W' → W'.heap[W.heap.size + 1 + 1]? = some (.cells (is_ l) 3 (0, 0)) → Calls Tryd.prog 82 #[.agg #[.int .i64 (k : Int), .int .i64 q], .int .i64 (-1), .pointer (some ⟨W.heap.size + 1 + 1 + 1, 0, none⟩), .pointer (some ⟨W.heap.size, 0, none⟩), .pointer (some ⟨W.heap.size + 1 + 1 + 1 + 1, 0, none⟩), .pointer (some ⟨W.heap.size + 1 + 1 + 1 + 1 + 1 + 1 + 1, 0, none⟩), .pointer (some ⟨W.heap.size + 1 + 1 + 1 + 1 + 1 + 1 + 1 + 1, 0, none⟩)] W' fun e W'' => (∃ v, e = .returned v) ∧ KR M (fun i => i ≠ W.heap.size + 1 + 1) W' W'' ∧ W''.heap[W.heap.size + 1 + 1]? = some (.cells (is_ (setF js lf (e0, e1) (loH hs) (hiH hs) par canV f k q l)) 3 (0, 0))) := ⟨fun q h1 h2 W' h3 h4 h5 => by have h := HSE.out k q l (HFU.out k hlt) hlt hlk h1 h2 hll W' h3 h4 h5; rw [HPK.out] at h; exact (callsIn_wide (n := 9)).1 h⟩
    obtain ⟨ad_, he_, g0, g1⟩ := H_at (Kd.C_below HH.out SWr.out.canW.base) k hlt
    injection he_ with he_
    subst he_
    have s0 : wr.cell? ⟨W.heap.size, 0, none⟩ = some (.slice (some ad0) hs.length c0) := (blk_cell SWr.out.canW.set 0).trans rfl
    go_wp2
    clear s0 g0 g1 t0
    obtain ⟨wo, hwo⟩ : ∃ wo, wo = wr := ⟨_, rfl⟩
    subst hwo
    have KO := zh (KR.refl M (fun i => i ≠ W.heap.size + 1 + 1) wo)
    go_loopw [13, 14] (fun v u wr => ∃ (q : Int) (fd : Bool) (l5 : List Int), loH hs k ≤ q ∧ q ≤ hiH hs k + 1 ∧ u = .int .i64 q ∧ v = .bool fd ∧ Aside0 (KR M (fun i => i ≠ W.heap.size + 1 + 1) wo wr) ∧ Aside0 (wr.heap[W.heap.size + 1 + 1]? = some (.cells (is_ l5) 3 (0, 0))) ∧ Aside0 ((fd = false ∧ anyTo (canV k) (loH hs k) q = false ∧ l5 = l) ∨ (fd = true ∧ ∃ p, (irange (loH hs k) (hiH hs k)).find? (canV k) = some p ∧ l5 = setF js lf (e0, e1) (loH hs) (hiH hs) par canV f k p l))) (fun _ u _ => (hiH hs k + 1 - intOf u).toNat)
    case atStart => exact ⟨loH hs k, false, l, Int.le_refl _, by omega, rfl, rfl, KO, Gr, ⟨.inl ⟨rfl, anyTo_start _ _, rfl⟩⟩⟩
    case round =>
     obtain ⟨q, fd, l5, hql, hqh, rfl, rfl, KRr, G5, HFD⟩ := hrel
     have SW5 := zh (SWr.out.keep HS.out HN.out KRr.out (fun i _ hi => hi))
     have HM5 := zh (KRr.out.memo HMr.out)
     have T5 := zh (KRr.out.at Tr.out (by omega) (by omega))
     have hw5 := KRr.out.size
     obtain ⟨ad_, he_, g0, g1⟩ := H_at (Kd.C_below HH.out SW5.out.canW.base) k hlt
     injection he_ with he_
     subst he_
     have s0 : wr.cell? ⟨W.heap.size, 0, none⟩ = some (.slice (some ad0) hs.length c0) := (blk_cell SW5.out.canW.set 0).trans rfl
     cases fd with
     | true =>
      obtain ⟨p, hfp, hl5⟩ : ∃ p, (irange (loH hs k) (hiH hs k)).find? (canV k) = some p ∧ l5 = setF js lf (e0, e1) (loH hs) (hiH hs) par canV f k p l := by
       rcases HFD.out with ⟨h, _⟩ | ⟨_, h⟩
       ·cases h
       ·exact h
      subst hl5
      have HFP := zh hfp
      have hls5 : (setF js lf (e0, e1) (loH hs) (hiH hs) par canV f k p l).length = hs.length := by rw [setF_length]; exact hll
      have HS5 := zh SW5.out.canW.set
      clear hfp
      have hne2 : (true = true) := rfl
      clear s0
      have y0 : wr.cell? ⟨W.heap.size, 0, none⟩ = some (.slice (some ad0) hs.length c0) := vb HS5 0
      have y1 : wr.cell? ⟨W.heap.size, 1, none⟩ = some (vS) := vb HS5 1
      have y2 : wr.cell? ⟨W.heap.size, 2, none⟩ = some (vP) := vb HS5 2
      have y3 : wr.cell? ⟨W.heap.size, 3, none⟩ = some (.int .i64 b0) := vb HS5 3
      have y4 : wr.cell? ⟨W.heap.size, 4, none⟩ = some (.int .i64 b1) := vb HS5 4
      have y5 : wr.cell? ⟨W.heap.size, 5, none⟩ = some (.slice A3 js.length c3) := vb HS5 5
      have y6 : wr.cell? ⟨W.heap.size, 6, none⟩ = some (.bool (lf 0)) := vb HS5 6
      have y7 : wr.cell? ⟨W.heap.size, 7, none⟩ = some (.bool (lf 1)) := vb HS5 7
      have y8 : wr.cell? ⟨W.heap.size, 8, none⟩ = some (.bool (lf 2)) := vb HS5 8
      have y9 : wr.cell? ⟨W.heap.size, 9, none⟩ = some (.bool (lf 3)) := vb HS5 9
      have y10 : wr.cell? ⟨W.heap.size, 10, none⟩ = some (.bool (lf 4)) := vb HS5 10
      have y11 : wr.cell? ⟨W.heap.size, 11, none⟩ = some (.bool (lf 5)) := vb HS5 11
      have y12 : wr.cell? ⟨W.heap.size, 12, none⟩ = some (.bool (lf 6)) := vb HS5 12
      have y13 : wr.cell? ⟨W.heap.size, 13, none⟩ = some (.bool (lf 7)) := vb HS5 13
      have y14 : wr.cell? ⟨W.heap.size, 14, none⟩ = some (.int .i64 e0) := vb HS5 14
      have y15 : wr.cell? ⟨W.heap.size, 15, none⟩ = some (.int .i64 e1) := vb HS5 15
      go_wp2_with (go_at_call 83; refine ((callsIn_wide (n := 9)).1 (HMK.out k mt (HFU.out k hlt) hlt hml (fun h => by rw [HPK.out] at h; omega) _ SW5.out.canW.base HM5.out T5.out)).mono ?_; rintro e w7 ⟨⟨v7, rfl⟩, hk7, ht7⟩; have K7 := zh hk7; have T7 := zh ht7; clear hk7 ht7)
      all_goals
       go_roundw
       case rel => exact ⟨k + 1, _, _, by omega, by go_num, hls5, ⟨HMI.out.new HF.out hn hlt HMK2.out (HFU.out k hlt)⟩, ⟨by have h := HR.out; rw [HLS.out, HMK2.out, HFP.out] at h; exact h⟩, ⟨⟨SW5.out.canW.keep HS.out K7.out (fun i hi => by omega) ⟨by omega, by omega, by omega, by omega, by omega⟩, K7.out.at SW5.out.out (by omega) (by omega), K7.out.at SW5.out.set (by omega) (by omega)⟩⟩, ⟨K7.out.memo HM5.out⟩, ⟨K7.out.at G5.out (by omega) (by omega)⟩, T7⟩
       case measure => simp [intOf]; omega
     | false =>
      obtain ⟨hany, rfl⟩ : anyTo (canV k) (loH hs k) q = false ∧ l5 = l := by
       rcases HFD.out with ⟨_, h⟩ | ⟨h, _⟩
       ·exact h
       ·cases h
      have HANY := zh hany
      have HSTEP := zh (anyTo_succ (T := canV k) (loH hs k) q hql)
      clear hany
      by_cases hqe : q ≤ hiH hs k
      ·have c0_ : wr.cell? ⟨W.heap.size + 1 + 1 + 1 + 1 + 1 + 1 + 1, 0, none⟩ = some (.func (.func 80) #[] #[.pointer (some ⟨W.heap.size + 1 + 1 + 1 + 1 + 1 + 1, 0, none⟩), .pointer (some ⟨W.heap.size + 1, 0, none⟩), .pointer (some ⟨W.heap.size, 0, none⟩), .pointer (some ⟨W.heap.size + 1 + 1 + 1 + 1, 0, none⟩), .pointer (some ⟨W.heap.size + 1 + 1 + 1 + 1 + 1 + 1 + 1, 0, none⟩)]) := (blk_cell SW5.out.canW.can 0).trans rfl
       cases hcv : canV k q with
       | false =>
        have HCV := zh hcv
        clear hcv
        go_wp2_with (go_at_call 80; refine (HCK.out q hql (by omega) _ SW5.out.canW HM5.out).mono ?_; rintro e w6 ⟨rfl, hk6⟩; rw [HCV.out]; have K6 := zh hk6; clear hk6)
        go_roundw
        case rel => exact ⟨q + 1, false, l5, by omega, by omega, rfl, rfl, ⟨KRr.out.step K6.out⟩, ⟨K6.out.at G5.out (by omega)⟩, ⟨.inl ⟨rfl, by rw [HSTEP.out, HANY.out, HCV.out]; rfl, rfl⟩⟩⟩
        case measure => simp [intOf]; omega
       | true =>
        have HCV := zh hcv
        have HFQ := zh (find_first (T := canV k) hqe hcv (q - loH hs k).toNat (loH hs k) (by omega) HANY.out)
        clear hcv
        go_wp2_with (first | (go_at_call 80; refine (HCK.out q hql (by omega) _ SW5.out.canW HM5.out).mono ?_; rintro e w6 ⟨rfl, hk6⟩; rw [HCV.out]; have K6 := zh hk6; clear hk6; have SW6 := zh (SW5.out.keep HS.out HN.out (K6.out.round (fun _ => True)) (fun _ _ _ => trivial)); have t6 : w6.cell? ⟨W.heap.size + 1 + 1 + 1 + 1 + 1 + 1 + 1 + 1, 0, none⟩ = some (.func (.func 82) #[] #[.pointer (some ⟨W.heap.size + 1 + 1 + 1, 0, none⟩), .pointer (some ⟨W.heap.size, 0, none⟩), .pointer (some ⟨W.heap.size + 1 + 1 + 1 + 1, 0, none⟩), .pointer (some ⟨W.heap.size + 1 + 1 + 1 + 1 + 1 + 1 + 1, 0, none⟩), .pointer (some ⟨W.heap.size + 1 + 1 + 1 + 1 + 1 + 1 + 1 + 1, 0, none⟩)]) := (blk_cell SW6.out.set 0).trans rfl) | (go_at_call 82; refine (HSK.out q hql (by omega) _ SW6.out (K6.out.memo HM5.out) (K6.out.at G5.out (by omega))).mono ?_; rintro e w7 ⟨⟨v7, rfl⟩, hk7, hg7⟩; have K7 := zh hk7; have G7 := zh hg7; clear hk7 hg7))
        go_roundw
        case rel => exact ⟨q + 1, true, _, by omega, by omega, rfl, rfl, ⟨(KRr.out.step K6.out).trans K7.out⟩, G7, ⟨.inr ⟨rfl, q, HFQ.out, rfl⟩⟩⟩
        case measure => simp [intOf]; omega
      ·obtain rfl : q = hiH hs k + 1 := by omega
       have hng : ¬ (hiH hs k + 1 ≤ hiH hs k) := by omega
       have HRN : Aside0 (RES = none) := ⟨by have h := HR.out; rw [HLS.out, HMK2.out, find_none HANY.out] at h; exact h.symm⟩
       go_wp2
       go_ret2
       exact ⟨fun _ => rfl, fun l' h => (by rw [HRN.out] at h; cases h), SW5.out.canW.base⟩
  ·obtain rfl : k = hs.length := by omega
   have hlt' : ¬ ((hs.length : Nat) : Int) < (hs.length : Int) := by omega
   have HRE : Aside0 (RES = some l) := ⟨by have h := HR.out; rw [Nat.sub_self] at h; exact h.symm⟩
   have o0 : wr.cell? ⟨W.heap.size + 1 + 1 + 1, 0, none⟩ = some (.slice (some ⟨W.heap.size + 1 + 1, 0, none⟩) hs.length hs.length) := (blk_cell SWr.out.out 0).trans rfl
   go_wp2
   go_ret2
   refine ⟨fun h => (by rw [HRE.out] at h; cases h), fun l' h => ?_, SWr.out.canW.base⟩
   rw [HRE.out] at h
   injection h with h
   subst h
   exact ⟨_, rfl, by omega, Gr.out, hll⟩
end Go.Proofs.YtgehkojccmkggaaDoor.K
end
