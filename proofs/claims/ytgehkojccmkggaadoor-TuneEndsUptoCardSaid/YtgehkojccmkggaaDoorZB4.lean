/- Texts of this seat, joined (pruned by a program of this session to what the claim comes to). -/
import Derived.Deep.AppendLies
import Derived.Deep.RegionLawGrows
import Derived.Test.YtgehkojccmkggaaDoorZB1
import Derived.Test.YtgehkojccmkggaaDoorZB2
import Derived.Test.YtgehkojccmkggaaDoorZB3
set_option linter.all false
section
namespace Go.Proofs.YtgehkojccmkggaaDoor.K
open Go.RowKit Go.Shelf Go.Proofs.YtgehkojccmkggaaDoorW.PrintWords Go.Proofs.YtgehkojccmkggaaDoorW.PrintLast Go.Proofs.YtgehkojccmkggaaDoorW.PrintMore Go.Proofs.YtgehkojccmkggaaDoor.H Tune
set_option linter.unusedVariables false
set_option linter.unusedSimpArgs false
attribute [local go_sem] Oper.semAt_some
set_option maxRecDepth 100000 in
set_option maxHeartbeats 2000000 in
theorem can71_calls (ad0 : Addr) (c0 : Nat) (hs : List S26) (vS vP : Value) (b0 b1 : Int) (lf : Nat → Bool) (e0 e1 : Int) (A3 : Option Addr) (c3 : Nat) (js : List J) (W : World)
  (par : Nat → Int) (rank depth : Nat → Nat) (canV : Nat → Int → Bool) (f : Nat) (hF : Full hs.length js lf (e0, e1) (loH hs) (hiH hs) (okG []) par rank depth canV) (hneg : ∀ x, par x < 0 → par x = -1) (hfu : ∀ x, x < hs.length → rank x < f)
  (hH : Kd.C k26 W (some ad0) hs.length hs) (hA : Kd.C k80 W A3 js.length (js.map ofJ)) (hG : Glob W) (hn : hs.length ≤ 8) (hsp : ∀ x, x < hs.length → 1 ≤ loH hs x ∧ hiH hs x ≤ 4000 ∧ loH hs x ≤ hiH hs x)
  (hjs : ∀ (i : Nat) (hi : i < js.length), OkJ js[i] ∧ js[i].one < hs.length ∧ js[i].two < hs.length ∧ js[i].one ≠ js[i].two) :
  Calls Tryd.prog 71 #[.agg #[.slice (some ad0) hs.length c0, vS, vP, .int .i64 b0, .int .i64 b1, .slice A3 js.length c3, .bool (lf 0), .bool (lf 1), .bool (lf 2), .bool (lf 3), .bool (lf 4), .bool (lf 5), .bool (lf 6), .bool (lf 7), .int .i64 e0, .int .i64 e1]] W
   (fun e w' => e = .returned (.bool (loopF js lf (e0, e1) (loH hs) (hiH hs) par canV f hs.length hs.length 0 (List.replicate hs.length 0) (leftL lf)).isSome) ∧ Below W.heap.size W w') := by
 have hu77 := Tryd.underlying77
 have HB := zh (below_alloc (Below.refl W.heap.size W) (.cells #[.slice (some ad0) hs.length c0, vS, vP, .int .i64 b0, .int .i64 b1, .slice A3 js.length c3, .bool (lf 0), .bool (lf 1), .bool (lf 2), .bool (lf 3), .bool (lf 4), .bool (lf 5), .bool (lf 6), .bool (lf 7), .int .i64 e0, .int .i64 e1] 77))
 have HT := zh (tuning_calls ad0 c0 hs vS vP b0 b1 lf e0 e1 A3 c3 js none [] _ par rank depth canV f hF hneg hfu (Kd.C_below hH HB.out) (Kd.C_below hA HB.out) (.inl ⟨rfl, rfl⟩) (hG.below (HB.out.mono (Nat.le_refl _))) hn hsp hjs)
 obtain ⟨RES, hRES⟩ : ∃ R, loopF js lf (e0, e1) (loH hs) (hiH hs) par canV f hs.length hs.length 0 (List.replicate hs.length 0) (leftL lf) = R := ⟨_, rfl⟩
 rw [hRES] at HT ⊢
 clear hH hA hG hsp hjs hfu hneg hF hRES
 go_enter Tryd.func71, Tryd.ntmps71
 cases RES with
 | none =>
  go_wp2_with (go_at_call 63; refine HT.out.mono ?_; rintro e w1 ⟨h1, _, hb⟩; obtain rfl := h1 rfl; have HB1 := zh (HB.out.trans (hb.mono (by simp))); clear h1 hb)
  go_ret
  exact ⟨rfl, HB1.out⟩
 | some l =>
  go_wp2_with (go_at_call 63; refine HT.out.mono ?_; rintro e w1 ⟨_, h1, hb⟩; obtain ⟨g, rfl, _, _, _⟩ := h1 l rfl; have HB1 := zh (HB.out.trans (hb.mono (by simp))); clear h1 hb)
  go_ret
  exact ⟨rfl, HB1.out⟩
end Go.Proofs.YtgehkojccmkggaaDoor.K
end
section
namespace Go.Proofs.YtgehkojccmkggaaDoor.K
open Go.RowKit Go.Shelf Go.Proofs.YtgehkojccmkggaaDoorW.PrintWords Go.Proofs.YtgehkojccmkggaaDoorW.PrintLast Go.Proofs.YtgehkojccmkggaaDoorW.PrintMore Go.Proofs.YtgehkojccmkggaaDoor.H Tune
set_option linter.unusedVariables false
set_option linter.unusedSimpArgs false
attribute [local go_sem] Oper.semAt_some
theorem bound_of (n : Nat) (rank : Nat → Nat) : ∃ f, ∀ x, x < n → rank x < f := by
 induction n with
 | zero => exact ⟨0, fun x h => absurd h (Nat.not_lt_zero _)⟩
 | succ n ih =>
  obtain ⟨f, hf⟩ := ih
  refine ⟨max f (rank n + 1), fun x hx => ?_⟩
  rcases Nat.lt_succ_iff_lt_or_eq.1 hx with h | rfl
  ·have := hf x h; omega
  ·omega
theorem tun_parts {n : Nat} {js : List J} {g : Nat → Nat} (hf : Forest js g) (hn : n ≤ 8) (hj : ∀ j ∈ js, j.one < n ∧ j.two < n ∧ j.one ≠ j.two) (left : Nat → Bool) (b : Int × Int) (lo hi : Nat → Int) (ok : Nat → Int → Bool) :
  ∃ par rank depth canV f, Full n js left b lo hi ok par rank depth canV ∧ (∀ x, par x < 0 → par x = -1) ∧ (∀ x, x < n → rank x < f) ∧
   (match loopF js left b lo hi par canV f n n 0 (List.replicate n 0) (leftL left) with
    | none => ¬ ∃ l, Tun n js left b lo hi ok l
    | some l' => l'.length = n ∧ Tun n js left b lo hi ok (fun x => l'.getD x 0) ∧ ∀ y, y < n → left y = true → l'.getD y 0 = lo y) := by
 obtain ⟨g', hg'⟩ := forest_active b hf left
 obtain ⟨par, rank, depth, canV, hF⟩ := exists_full n js left b lo hi ok (fun j h => ⟨(hj j h).1, (hj j h).2.1⟩) g' hg'
 obtain ⟨f, hfu⟩ := bound_of n rank
 refine ⟨norm par, rank, depth, canV, f, hF.normal, norm_neg par, hfu, ?_⟩
 refine loopF_spec hF.normal (fun j h => ⟨(hj j h).1, (hj j h).2.1⟩) (fun j h => (hj j h).2.2) hfu n 0 (List.replicate n 0) (leftL left) (by omega) (by simp) (by unfold leftL; simp; omega) ?_ ?_ ?_
 ·intro y hy
  rw [leftL_at left y (by omega)]
  constructor
  ·exact .inl
  ·rintro (h | ⟨r, h, _⟩)
   ·exact h
   ·exact absurd h (Nat.not_lt_zero _)
 ·intro r h; exact absurd h (Nat.not_lt_zero _)
 ·intro y h; exact absurd h (Nat.not_lt_zero _)
open Classical in
theorem can_sem (ad0 : Addr) (c0 : Nat) (hs : List S26) (vS vP : Value) (b0 b1 : Int) (lf : Nat → Bool) (e0 e1 : Int) (A3 : Option Addr) (c3 : Nat) (js : List J) (g : Nat → Nat) (W : World)
  (hf : Forest js g) (hj : ∀ j ∈ js, OkJ j ∧ j.one < hs.length ∧ j.two < hs.length ∧ j.one ≠ j.two)
  (hH : Kd.C k26 W (some ad0) hs.length hs) (hA : Kd.C k80 W A3 js.length (js.map ofJ)) (hG : Glob W) (hn : hs.length ≤ 8) (hsp : ∀ x, x < hs.length → 1 ≤ loH hs x ∧ hiH hs x ≤ 4000 ∧ loH hs x ≤ hiH hs x) :
  Calls Tryd.prog 71 #[.agg #[.slice (some ad0) hs.length c0, vS, vP, .int .i64 b0, .int .i64 b1, .slice A3 js.length c3, .bool (lf 0), .bool (lf 1), .bool (lf 2), .bool (lf 3), .bool (lf 4), .bool (lf 5), .bool (lf 6), .bool (lf 7), .int .i64 e0, .int .i64 e1]] W
   (fun e w' => e = .returned (.bool (decide (Tunable hs js lf (e0, e1) []))) ∧ Below W.heap.size W w') := by
 obtain ⟨par, rank, depth, canV, f, hF, hneg, hfu, hsem⟩ := tun_parts hf hn (fun j h => (hj j h).2) lf (e0, e1) (loH hs) (hiH hs) (okG [])
 have h := can71_calls ad0 c0 hs vS vP b0 b1 lf e0 e1 A3 c3 js W par rank depth canV f hF hneg hfu hH hA hG hn hsp (fun i hi => hj _ (List.getElem_mem hi))
 refine h.mono (fun e w' h' => ⟨?_, h'.2⟩)
 rw [h'.1]
 congr 2
 revert hsem
 cases loopF js lf (e0, e1) (loH hs) (hiH hs) par canV f hs.length hs.length 0 (List.replicate hs.length 0) (leftL lf) with
 | none => intro hsem; exact (decide_eq_false hsem).symm
 | some l => intro hsem; exact (decide_eq_true (p := Tunable hs js lf (e0, e1) []) ⟨_, hsem.2.1⟩).symm
end Go.Proofs.YtgehkojccmkggaaDoor.K
end
section
namespace Go.Proofs.YtgehkojccmkggaaDoor.K
open Go.RowKit Go.Shelf Go.Proofs.YtgehkojccmkggaaDoorW.PrintWords Go.Proofs.YtgehkojccmkggaaDoorW.PrintLast Go.Proofs.YtgehkojccmkggaaDoorW.PrintMore Go.Proofs.YtgehkojccmkggaaDoor.H Tune
set_option linter.unusedVariables false
set_option linter.unusedSimpArgs false
attribute [local go_sem] Oper.semAt_some
set_option maxRecDepth 100000 in
set_option maxHeartbeats 8000000 in
theorem asked_10 (A0 : Option Addr) (c0 : Nat) (h : List S26) (A1 : Option Addr) (c1 : Nat) (s : List S61) (A2 : Option Addr) (c2 : Nat) (p : List S48) (b0 b1 : Int) (right : Bool) (w : World) (hsm : small h s p = true) (hG : Glob w)
  (h0 : Kd.C k26 w A0 h.length h) (hc0 : h.length ≤ c0) (h1 : Kd.C k61 w A1 s.length s) (hc1 : s.length ≤ c1) (h2 : Kd.C k48 w A2 p.length p) (hc2 : p.length ≤ c2) (hck10 : checkT h s p b0 b1 = 10) :
  Calls Tryd.prog 62 #[.agg #[.slice A0 h.length c0, .slice A1 s.length c1, .slice A2 p.length c2, .int .i64 b0, .int .i64 b1], .bool right] w fun e w' => e = .returned (.tuple #[zeroSet, .int .i64 10]) ∧ Below w.heap.size w w' := by
 have hu77 := Tryd.underlying77
 have hu28 := Tryd.underlying28
 have hu26 := Tryd.underlying26
 have hu75 := Tryd.underlying75
 have HB0 := zh (below_alloc (below_alloc (Below.refl w.heap.size w) (.cells #[.slice A0 h.length c0, .slice A1 s.length c1, .slice A2 p.length c2, .int .i64 b0, .int .i64 b1] 28)) (.cells #[.slice none 0 0, .slice none 0 0, .slice none 0 0, .int .i64 0, .int .i64 0, .slice none 0 0, .bool false, .bool false, .bool false, .bool false, .bool false, .bool false, .bool false, .bool false, .int .i64 0, .int .i64 0] 77))
 have B0 := zh (blk_alloc (alloc_at w (.cells #[.slice A0 h.length c0, .slice A1 s.length c1, .slice A2 p.length c2, .int .i64 b0, .int .i64 b1] 28) w.heap.size rfl) (.cells #[.slice none 0 0, .slice none 0 0, .slice none 0 0, .int .i64 0, .int .i64 0, .slice none 0 0, .bool false, .bool false, .bool false, .bool false, .bool false, .bool false, .bool false, .bool false, .int .i64 0, .int .i64 0] 77))
 have B1 := zh (alloc_at (w.alloc (.cells #[.slice A0 h.length c0, .slice A1 s.length c1, .slice A2 p.length c2, .int .i64 b0, .int .i64 b1] 28)) (.cells #[.slice none 0 0, .slice none 0 0, .slice none 0 0, .int .i64 0, .int .i64 0, .slice none 0 0, .bool false, .bool false, .bool false, .bool false, .bool false, .bool false, .bool false, .bool false, .int .i64 0, .int .i64 0] 77) (w.heap.size + 1) (by simp))
 have D0 := zh h0
 have D1 := zh h1
 have D2 := zh h2
 have HG := zh hG
 have HSM := zh hsm
 have HCK := zh (check_calls A0 c0 h A1 c1 s A2 c2 p b0 b1 _ hsm (Kd.C_below h0 HB0.out) hc0 (Kd.C_below h1 HB0.out) hc1 (Kd.C_below h2 HB0.out) hc2)
 clear h0 h1 h2 hG hsm
 obtain ⟨ck, hck⟩ : ∃ ck, checkT h s p b0 b1 = ck := ⟨_, rfl⟩
 rw [hck] at HCK
 obtain rfl : ck = 10 := by rw [← hck]; exact hck10
 clear hck hck10
 go_enter Tryd.func62, Tryd.ntmps62
 go_wp2_with (go_at_call 18; refine HCK.out.mono ?_; rintro e w1 ⟨rfl, hb⟩; have HB1 := zh (HB0.out.trans (hb.mono (by simp; omega))); have C1 := zh (blk_below B1.out hb); clear hb; obtain ⟨r0, r1, r2, r3, r4, r5, r6, r7, r8, r9, r10, r11, r12, r13, r14, r15⟩ := cells16 C1.out; obtain ⟨f0, f1, f2, f3, f4, f5, f6, f7, f8, f9, f10, f11, f12, f13, f14, f15⟩ := froz16 C1.out)
 have HB9 : Aside0 (∀ X, Below w.heap.size w X → ∀ i v, Below w.heap.size w (X.setCell ⟨w.heap.size + 1, i, none⟩ v)) := ⟨fun X hX i v => hX.setCell dQ2 _⟩
 refine bodyPost_ret (results_ct rfl _ _ (w.heap.size + 1) 77 #[.slice none 0 0, .slice none 0 0, .slice none 0 0, .int .i64 0, .int .i64 0, .slice none 0 0, .bool false, .bool false, .bool false, .bool false, .bool false, .bool false, .bool false, .bool false, .int .i64 0, .int .i64 0] (0, 0) _ rfl (set16 C1.out _ _ _ _ _ _ _ _ _ _ _ _ _ _ _ _) Tryd.underlying77 rfl zk) rfl ⟨rfl, ?_⟩
 with_reducible repeat (first | exact HB1.out | refine HB9.out _ ?_ _ _)
set_option maxRecDepth 100000 in
set_option maxHeartbeats 8000000 in
theorem asked_11 (A0 : Option Addr) (c0 : Nat) (h : List S26) (A1 : Option Addr) (c1 : Nat) (s : List S61) (A2 : Option Addr) (c2 : Nat) (p : List S48) (b0 b1 : Int) (w : World) (hsm : small h s p = true) (hG : Glob w)
  (h0 : Kd.C k26 w A0 h.length h) (hc0 : h.length ≤ c0) (h1 : Kd.C k61 w A1 s.length s) (hc1 : s.length ≤ c1) (h2 : Kd.C k48 w A2 p.length p) (hc2 : p.length ≤ c2) (hck0 : checkT h s p b0 b1 = 0) :
  Calls Tryd.prog 62 #[.agg #[.slice A0 h.length c0, .slice A1 s.length c1, .slice A2 p.length c2, .int .i64 b0, .int .i64 b1], .bool false] w fun e w' => e = .returned (.tuple #[zeroSet, .int .i64 11]) ∧ Below w.heap.size w w' := by
 have hu77 := Tryd.underlying77
 have hu28 := Tryd.underlying28
 have hu26 := Tryd.underlying26
 have hu75 := Tryd.underlying75
 have HB0 := zh (below_alloc (below_alloc (Below.refl w.heap.size w) (.cells #[.slice A0 h.length c0, .slice A1 s.length c1, .slice A2 p.length c2, .int .i64 b0, .int .i64 b1] 28)) (.cells #[.slice none 0 0, .slice none 0 0, .slice none 0 0, .int .i64 0, .int .i64 0, .slice none 0 0, .bool false, .bool false, .bool false, .bool false, .bool false, .bool false, .bool false, .bool false, .int .i64 0, .int .i64 0] 77))
 have B0 := zh (blk_alloc (alloc_at w (.cells #[.slice A0 h.length c0, .slice A1 s.length c1, .slice A2 p.length c2, .int .i64 b0, .int .i64 b1] 28) w.heap.size rfl) (.cells #[.slice none 0 0, .slice none 0 0, .slice none 0 0, .int .i64 0, .int .i64 0, .slice none 0 0, .bool false, .bool false, .bool false, .bool false, .bool false, .bool false, .bool false, .bool false, .int .i64 0, .int .i64 0] 77))
 have B1 := zh (alloc_at (w.alloc (.cells #[.slice A0 h.length c0, .slice A1 s.length c1, .slice A2 p.length c2, .int .i64 b0, .int .i64 b1] 28)) (.cells #[.slice none 0 0, .slice none 0 0, .slice none 0 0, .int .i64 0, .int .i64 0, .slice none 0 0, .bool false, .bool false, .bool false, .bool false, .bool false, .bool false, .bool false, .bool false, .int .i64 0, .int .i64 0] 77) (w.heap.size + 1) (by simp))
 have D0 := zh h0
 have D1 := zh h1
 have D2 := zh h2
 have HG := zh hG
 have HSM := zh hsm
 have HCK := zh (check_calls A0 c0 h A1 c1 s A2 c2 p b0 b1 _ hsm (Kd.C_below h0 HB0.out) hc0 (Kd.C_below h1 HB0.out) hc1 (Kd.C_below h2 HB0.out) hc2)
 clear h0 h1 h2 hG hsm
 obtain ⟨ck, hck⟩ : ∃ ck, checkT h s p b0 b1 = ck := ⟨_, rfl⟩
 rw [hck] at HCK
 obtain rfl : ck = 0 := by rw [← hck]; exact hck0
 obtain ⟨hok, hring⟩ := checkT_eq hck
 obtain ⟨js, g, hjs, hjm, hj, hf, hn1, hn8, hsp, _, _, _⟩ := ok_set h s p b0 b1 hok hring
 clear hck hck0 hok hring hjs hjm hj hf hsp
 go_enter Tryd.func62, Tryd.ntmps62
 go_wp2_with (go_at_call 18; refine HCK.out.mono ?_; rintro e w1 ⟨rfl, hb⟩; have HB1 := zh (HB0.out.trans (hb.mono (by simp; omega))); have C1 := zh (blk_below B1.out hb); clear hb; obtain ⟨r0, r1, r2, r3, r4, r5, r6, r7, r8, r9, r10, r11, r12, r13, r14, r15⟩ := cells16 C1.out; obtain ⟨f0, f1, f2, f3, f4, f5, f6, f7, f8, f9, f10, f11, f12, f13, f14, f15⟩ := froz16 C1.out)
 have HB9 : Aside0 (∀ X, Below w.heap.size w X → ∀ i v, Below w.heap.size w (X.setCell ⟨w.heap.size + 1, i, none⟩ v)) := ⟨fun X hX i v => hX.setCell dQ2 _⟩
 refine bodyPost_ret (results_ct rfl _ _ (w.heap.size + 1) 77 #[.slice none 0 0, .slice none 0 0, .slice none 0 0, .int .i64 0, .int .i64 0, .slice none 0 0, .bool false, .bool false, .bool false, .bool false, .bool false, .bool false, .bool false, .bool false, .int .i64 0, .int .i64 0] (0, 0) _ rfl (set16 C1.out _ _ _ _ _ _ _ _ _ _ _ _ _ _ _ _) Tryd.underlying77 rfl zk) rfl ⟨rfl, ?_⟩
 with_reducible repeat (first | exact HB1.out | refine HB9.out _ ?_ _ _)
set_option maxRecDepth 100000 in
set_option maxHeartbeats 8000000 in
open Classical in
theorem asked_0 (A0 : Option Addr) (c0 : Nat) (h : List S26) (A1 : Option Addr) (c1 : Nat) (s : List S61) (A2 : Option Addr) (c2 : Nat) (p : List S48) (b0 b1 : Int) (w : World) (hsm : small h s p = true) (hG : Glob w)
  (h0 : Kd.C k26 w A0 h.length h) (hc0 : h.length ≤ c0) (h1 : Kd.C k61 w A1 s.length s) (hc1 : s.length ≤ c1) (h2 : Kd.C k48 w A2 p.length p) (hc2 : p.length ≤ c2) (hck0 : checkT h s p b0 b1 = 0) (hT0 : Tunable h (jsOf h s p b0 b1) noLeft (b0, b1) []) :
  Calls Tryd.prog 62 #[.agg #[.slice A0 h.length c0, .slice A1 s.length c1, .slice A2 p.length c2, .int .i64 b0, .int .i64 b1], .bool true] w fun e w' => ∃ A3 c3, e = .returned (.tuple #[.agg #[.slice A0 h.length c0, .slice A1 s.length c1, .slice A2 p.length c2, .int .i64 b0, .int .i64 b1, .slice A3 (jointsT h s p b0 b1).1.length c3, .bool false, .bool false, .bool false, .bool false, .bool false, .bool false, .bool false, .bool false, .int .i64 b0, .int .i64 b1], .int .i64 0]) ∧ Kd.F k80 w' (fun k => w.heap.size ≤ k) A3 (jointsT h s p b0 b1).1.length (jointsT h s p b0 b1).1 ∧ Below w.heap.size w w' := by
 have hu77 := Tryd.underlying77
 have hu28 := Tryd.underlying28
 have hu26 := Tryd.underlying26
 have hu75 := Tryd.underlying75
 have HB0 := zh (below_alloc (below_alloc (Below.refl w.heap.size w) (.cells #[.slice A0 h.length c0, .slice A1 s.length c1, .slice A2 p.length c2, .int .i64 b0, .int .i64 b1] 28)) (.cells #[.slice none 0 0, .slice none 0 0, .slice none 0 0, .int .i64 0, .int .i64 0, .slice none 0 0, .bool false, .bool false, .bool false, .bool false, .bool false, .bool false, .bool false, .bool false, .int .i64 0, .int .i64 0] 77))
 have B0 := zh (blk_alloc (alloc_at w (.cells #[.slice A0 h.length c0, .slice A1 s.length c1, .slice A2 p.length c2, .int .i64 b0, .int .i64 b1] 28) w.heap.size rfl) (.cells #[.slice none 0 0, .slice none 0 0, .slice none 0 0, .int .i64 0, .int .i64 0, .slice none 0 0, .bool false, .bool false, .bool false, .bool false, .bool false, .bool false, .bool false, .bool false, .int .i64 0, .int .i64 0] 77))
 have B1 := zh (alloc_at (w.alloc (.cells #[.slice A0 h.length c0, .slice A1 s.length c1, .slice A2 p.length c2, .int .i64 b0, .int .i64 b1] 28)) (.cells #[.slice none 0 0, .slice none 0 0, .slice none 0 0, .int .i64 0, .int .i64 0, .slice none 0 0, .bool false, .bool false, .bool false, .bool false, .bool false, .bool false, .bool false, .bool false, .int .i64 0, .int .i64 0] 77) (w.heap.size + 1) (by simp))
 have D0 := zh h0
 have D1 := zh h1
 have D2 := zh h2
 have HG := zh hG
 have HSM := zh hsm
 have HCK := zh (check_calls A0 c0 h A1 c1 s A2 c2 p b0 b1 _ hsm (Kd.C_below h0 HB0.out) hc0 (Kd.C_below h1 HB0.out) hc1 (Kd.C_below h2 HB0.out) hc2)
 clear h0 h1 h2 hG hsm
 obtain ⟨ck, hck⟩ : ∃ ck, checkT h s p b0 b1 = ck := ⟨_, rfl⟩
 rw [hck] at HCK
 obtain rfl : ck = 0 := by rw [← hck]; exact hck0
 obtain ⟨hok, hring⟩ := checkT_eq hck
 obtain ⟨js, g, hjs, hjm, hj, hf, hn1, hn8, hsp, _, _, _⟩ := ok_set h s p b0 b1 hok hring
 have hT : Tunable h js noLeft (b0, b1) [] := by rw [hjs]; exact hT0
 obtain ⟨ad0, rfl⟩ : ∃ ad, A0 = some ad := by obtain ⟨ad, e, _⟩ := H_at D0.out 0 (by omega); exact ⟨ad, e⟩
 have HOP : Aside0 (∀ W, Below w.heap.size w W → Calls Tryd.prog 52 #[.agg #[.slice (some ad0) h.length c0, .slice A1 s.length c1, .slice A2 p.length c2, .int .i64 b0, .int .i64 b1], .slice none 0 0] W fun e w' => ∃ A3 c3, e = .returned (.agg #[.slice (some ad0) h.length c0, .slice A1 s.length c1, .slice A2 p.length c2, .int .i64 b0, .int .i64 b1, .slice A3 (jointsT h s p b0 b1).1.length c3, .bool false, .bool false, .bool false, .bool false, .bool false, .bool false, .bool false, .bool false, .int .i64 b0, .int .i64 b1]) ∧ Kd.F k80 w' (fun k => W.heap.size ≤ k) A3 (jointsT h s p b0 b1).1.length (jointsT h s p b0 b1).1 ∧ Below W.heap.size W w') := ⟨fun W hW => opened_calls (some ad0) c0 h A1 c1 s A2 c2 p b0 b1 none 0 [] W HSM.out (Kd.C_below D0.out hW) hc0 (Kd.C_below D1.out hW) hc1 (Kd.C_below D2.out hW) hc2 (Kd.C_nil _ _) (fun k hk => absurd hk (Nat.not_lt_zero _))⟩
 have HCA : Aside0 (∀ W A3 c3, Below w.heap.size w W → Kd.C k80 W A3 (jointsT h s p b0 b1).1.length (jointsT h s p b0 b1).1 → Calls Tryd.prog 71 #[.agg #[.slice (some ad0) h.length c0, .slice A1 s.length c1, .slice A2 p.length c2, .int .i64 b0, .int .i64 b1, .slice A3 (jointsT h s p b0 b1).1.length c3, .bool false, .bool false, .bool false, .bool false, .bool false, .bool false, .bool false, .bool false, .int .i64 b0, .int .i64 b1]] W fun e w' => e = .returned (.bool (true)) ∧ Below W.heap.size W w') := ⟨fun W A3 c3 hW hC => by
  have h9 := can_sem ad0 c0 h (.slice A1 s.length c1) (.slice A2 p.length c2) b0 b1 noLeft b0 b1 A3 c3 js g W hf hj (Kd.C_below D0.out hW) (by rw [hjm, List.length_map] at hC; exact hC) (HG.out.below hW) hn8 (fun x hx => ⟨(hsp x hx).1, (hsp x hx).2.1, (hsp x hx).2.2.1⟩)
  rw [decide_eq_true hT, show js.length = (jointsT h s p b0 b1).1.length from by rw [hjm, List.length_map]] at h9
  exact h9⟩
 clear hck hck0 hT0 hok hring hjs hjm hj hf hsp hT
 go_enter Tryd.func62, Tryd.ntmps62
 go_wp2_with (first | (go_at_call 18; refine HCK.out.mono ?_; rintro e w1 ⟨rfl, hb⟩; have HB1 := zh (HB0.out.trans (hb.mono (by simp; omega))); have C0 := zh (blk_below B0.out hb); have C1 := zh (blk_below B1.out hb); clear hb; obtain ⟨z0, z1, z2, z3, z4⟩ := cells5 C0.out) | (go_at_call 52; (with_reducible refine (HOP.out w1 HB1.out).mono ?_); rintro e w2 ⟨A3, c3, rfl, hC3, hb⟩; have HB2 := zh (below_alloc (HB1.out.trans (hb.mono HB1.out.size)) (.cells #[.slice (some ad0) h.length c0, .slice A1 s.length c1, .slice A2 p.length c2, .int .i64 b0, .int .i64 b1, .slice A3 (jointsT h s p b0 b1).1.length c3, .bool false, .bool false, .bool false, .bool false, .bool false, .bool false, .bool false, .bool false, .int .i64 b0, .int .i64 b1] 77)); have C2 := zh (blk_alloc (blk_below C1.out hb) (.cells #[.slice (some ad0) h.length c0, .slice A1 s.length c1, .slice A2 p.length c2, .int .i64 b0, .int .i64 b1, .slice A3 (jointsT h s p b0 b1).1.length c3, .bool false, .bool false, .bool false, .bool false, .bool false, .bool false, .bool false, .bool false, .int .i64 b0, .int .i64 b1] 77)); have HF3 := zh (Kd.F_alloc hC3 (.cells #[.slice (some ad0) h.length c0, .slice A1 s.length c1, .slice A2 p.length c2, .int .i64 b0, .int .i64 b1, .slice A3 (jointsT h s p b0 b1).1.length c3, .bool false, .bool false, .bool false, .bool false, .bool false, .bool false, .bool false, .bool false, .int .i64 b0, .int .i64 b1] 77)); have HC3 := zh (Kd.C_alloc (Kd.F_now hC3) (.cells #[.slice (some ad0) h.length c0, .slice A1 s.length c1, .slice A2 p.length c2, .int .i64 b0, .int .i64 b1, .slice A3 (jointsT h s p b0 b1).1.length c3, .bool false, .bool false, .bool false, .bool false, .bool false, .bool false, .bool false, .bool false, .int .i64 b0, .int .i64 b1] 77)); have X2 := zh (alloc_at w2 (.cells #[.slice (some ad0) h.length c0, .slice A1 s.length c1, .slice A2 p.length c2, .int .i64 b0, .int .i64 b1, .slice A3 (jointsT h s p b0 b1).1.length c3, .bool false, .bool false, .bool false, .bool false, .bool false, .bool false, .bool false, .bool false, .int .i64 b0, .int .i64 b1] 77) w2.heap.size rfl); clear hC3 hb) | (go_at_call 71; (with_reducible refine (HCA.out _ A3 c3 HB2.out HC3.out).mono ?_); rintro e w3 ⟨rfl, hb⟩; have HB3 := zh (HB2.out.trans (hb.mono HB2.out.size)); have C3 := zh (blk_below C2.out hb); have X3 := zh (blk_below X2.out hb); have HF4 := zh (Kd.F_below HF3.out hb); clear hb; obtain ⟨r0, r1, r2, r3, r4, r5, r6, r7, r8, r9, r10, r11, r12, r13, r14, r15⟩ := cells16 C3.out; obtain ⟨f0, f1, f2, f3, f4, f5, f6, f7, f8, f9, f10, f11, f12, f13, f14, f15⟩ := froz16 C3.out; obtain ⟨x0, x1, x2, x3, x4, x5, x6, x7, x8, x9, x10, x11, x12, x13, x14, x15⟩ := cells16 X3.out))
 have HB9 : Aside0 (∀ X, Below w.heap.size w X → ∀ i v, Below w.heap.size w (X.setCell ⟨w.heap.size + 1, i, none⟩ v)) := ⟨fun X hX i v => hX.setCell dQ2 _⟩
 refine bodyPost_ret (results_ct rfl _ _ (w.heap.size + 1) 77 #[.slice (some ad0) h.length c0, .slice A1 s.length c1, .slice A2 p.length c2, .int .i64 b0, .int .i64 b1, .slice A3 (jointsT h s p b0 b1).1.length c3, .bool false, .bool false, .bool false, .bool false, .bool false, .bool false, .bool false, .bool false, .int .i64 b0, .int .i64 b1] (0, 0) _ rfl (set16 C3.out _ _ _ _ _ _ _ _ _ _ _ _ _ _ _ _) Tryd.underlying77 rfl zk) rfl ⟨A3, c3, rfl, ?_, ?_⟩
 ·have h1s := HB1.out.size
  have h1l := blk_lt C1.out
  refine Kd.F_mono (Kd.F_keep (g := w.heap.size + 1) HF4.out ?_ (fun k (hk : w1.heap.size ≤ k) => by omega)) (fun k (hk : w1.heap.size ≤ k) => (by show w.heap.size ≤ k; omega))
  with_reducible repeat (refine KeepBut.set_ ?_ _ _)
  exact KeepBut.refl _ _ _
 ·with_reducible repeat (first | exact HB3.out | refine HB9.out _ ?_ _ _)
set_option maxRecDepth 100000 in
set_option maxHeartbeats 8000000 in
open Classical in
theorem asked_12 (A0 : Option Addr) (c0 : Nat) (h : List S26) (A1 : Option Addr) (c1 : Nat) (s : List S61) (A2 : Option Addr) (c2 : Nat) (p : List S48) (b0 b1 : Int) (w : World) (hsm : small h s p = true) (hG : Glob w)
  (h0 : Kd.C k26 w A0 h.length h) (hc0 : h.length ≤ c0) (h1 : Kd.C k61 w A1 s.length s) (hc1 : s.length ≤ c1) (h2 : Kd.C k48 w A2 p.length p) (hc2 : p.length ≤ c2) (hck0 : checkT h s p b0 b1 = 0) (hT0 : ¬ Tunable h (jsOf h s p b0 b1) noLeft (b0, b1) []) :
  Calls Tryd.prog 62 #[.agg #[.slice A0 h.length c0, .slice A1 s.length c1, .slice A2 p.length c2, .int .i64 b0, .int .i64 b1], .bool true] w fun e w' => e = .returned (.tuple #[zeroSet, .int .i64 12]) ∧ Below w.heap.size w w' := by
 have hu77 := Tryd.underlying77
 have hu28 := Tryd.underlying28
 have hu26 := Tryd.underlying26
 have hu75 := Tryd.underlying75
 have HB0 := zh (below_alloc (below_alloc (Below.refl w.heap.size w) (.cells #[.slice A0 h.length c0, .slice A1 s.length c1, .slice A2 p.length c2, .int .i64 b0, .int .i64 b1] 28)) (.cells #[.slice none 0 0, .slice none 0 0, .slice none 0 0, .int .i64 0, .int .i64 0, .slice none 0 0, .bool false, .bool false, .bool false, .bool false, .bool false, .bool false, .bool false, .bool false, .int .i64 0, .int .i64 0] 77))
 have B0 := zh (blk_alloc (alloc_at w (.cells #[.slice A0 h.length c0, .slice A1 s.length c1, .slice A2 p.length c2, .int .i64 b0, .int .i64 b1] 28) w.heap.size rfl) (.cells #[.slice none 0 0, .slice none 0 0, .slice none 0 0, .int .i64 0, .int .i64 0, .slice none 0 0, .bool false, .bool false, .bool false, .bool false, .bool false, .bool false, .bool false, .bool false, .int .i64 0, .int .i64 0] 77))
 have B1 := zh (alloc_at (w.alloc (.cells #[.slice A0 h.length c0, .slice A1 s.length c1, .slice A2 p.length c2, .int .i64 b0, .int .i64 b1] 28)) (.cells #[.slice none 0 0, .slice none 0 0, .slice none 0 0, .int .i64 0, .int .i64 0, .slice none 0 0, .bool false, .bool false, .bool false, .bool false, .bool false, .bool false, .bool false, .bool false, .int .i64 0, .int .i64 0] 77) (w.heap.size + 1) (by simp))
 have D0 := zh h0
 have D1 := zh h1
 have D2 := zh h2
 have HG := zh hG
 have HSM := zh hsm
 have HCK := zh (check_calls A0 c0 h A1 c1 s A2 c2 p b0 b1 _ hsm (Kd.C_below h0 HB0.out) hc0 (Kd.C_below h1 HB0.out) hc1 (Kd.C_below h2 HB0.out) hc2)
 clear h0 h1 h2 hG hsm
 obtain ⟨ck, hck⟩ : ∃ ck, checkT h s p b0 b1 = ck := ⟨_, rfl⟩
 rw [hck] at HCK
 obtain rfl : ck = 0 := by rw [← hck]; exact hck0
 obtain ⟨hok, hring⟩ := checkT_eq hck
 obtain ⟨js, g, hjs, hjm, hj, hf, hn1, hn8, hsp, _, _, _⟩ := ok_set h s p b0 b1 hok hring
 have hT : ¬ Tunable h js noLeft (b0, b1) [] := by rw [hjs]; exact hT0
 obtain ⟨ad0, rfl⟩ : ∃ ad, A0 = some ad := by obtain ⟨ad, e, _⟩ := H_at D0.out 0 (by omega); exact ⟨ad, e⟩
 have HOP : Aside0 (∀ W, Below w.heap.size w W → Calls Tryd.prog 52 #[.agg #[.slice (some ad0) h.length c0, .slice A1 s.length c1, .slice A2 p.length c2, .int .i64 b0, .int .i64 b1], .slice none 0 0] W fun e w' => ∃ A3 c3, e = .returned (.agg #[.slice (some ad0) h.length c0, .slice A1 s.length c1, .slice A2 p.length c2, .int .i64 b0, .int .i64 b1, .slice A3 (jointsT h s p b0 b1).1.length c3, .bool false, .bool false, .bool false, .bool false, .bool false, .bool false, .bool false, .bool false, .int .i64 b0, .int .i64 b1]) ∧ Kd.F k80 w' (fun k => W.heap.size ≤ k) A3 (jointsT h s p b0 b1).1.length (jointsT h s p b0 b1).1 ∧ Below W.heap.size W w') := ⟨fun W hW => opened_calls (some ad0) c0 h A1 c1 s A2 c2 p b0 b1 none 0 [] W HSM.out (Kd.C_below D0.out hW) hc0 (Kd.C_below D1.out hW) hc1 (Kd.C_below D2.out hW) hc2 (Kd.C_nil _ _) (fun k hk => absurd hk (Nat.not_lt_zero _))⟩
 have HCA : Aside0 (∀ W A3 c3, Below w.heap.size w W → Kd.C k80 W A3 (jointsT h s p b0 b1).1.length (jointsT h s p b0 b1).1 → Calls Tryd.prog 71 #[.agg #[.slice (some ad0) h.length c0, .slice A1 s.length c1, .slice A2 p.length c2, .int .i64 b0, .int .i64 b1, .slice A3 (jointsT h s p b0 b1).1.length c3, .bool false, .bool false, .bool false, .bool false, .bool false, .bool false, .bool false, .bool false, .int .i64 b0, .int .i64 b1]] W fun e w' => e = .returned (.bool (false)) ∧ Below W.heap.size W w') := ⟨fun W A3 c3 hW hC => by
  have h9 := can_sem ad0 c0 h (.slice A1 s.length c1) (.slice A2 p.length c2) b0 b1 noLeft b0 b1 A3 c3 js g W hf hj (Kd.C_below D0.out hW) (by rw [hjm, List.length_map] at hC; exact hC) (HG.out.below hW) hn8 (fun x hx => ⟨(hsp x hx).1, (hsp x hx).2.1, (hsp x hx).2.2.1⟩)
  rw [decide_eq_false hT, show js.length = (jointsT h s p b0 b1).1.length from by rw [hjm, List.length_map]] at h9
  exact h9⟩
 clear hck hck0 hT0 hok hring hjs hjm hj hf hsp hT
 go_enter Tryd.func62, Tryd.ntmps62
 go_wp2_with (first | (go_at_call 18; refine HCK.out.mono ?_; rintro e w1 ⟨rfl, hb⟩; have HB1 := zh (HB0.out.trans (hb.mono (by simp; omega))); have C0 := zh (blk_below B0.out hb); have C1 := zh (blk_below B1.out hb); clear hb; obtain ⟨z0, z1, z2, z3, z4⟩ := cells5 C0.out) | (go_at_call 52; (with_reducible refine (HOP.out w1 HB1.out).mono ?_); rintro e w2 ⟨A3, c3, rfl, hC3, hb⟩; have HB2 := zh (below_alloc (HB1.out.trans (hb.mono HB1.out.size)) (.cells #[.slice (some ad0) h.length c0, .slice A1 s.length c1, .slice A2 p.length c2, .int .i64 b0, .int .i64 b1, .slice A3 (jointsT h s p b0 b1).1.length c3, .bool false, .bool false, .bool false, .bool false, .bool false, .bool false, .bool false, .bool false, .int .i64 b0, .int .i64 b1] 77)); have C2 := zh (blk_alloc (blk_below C1.out hb) (.cells #[.slice (some ad0) h.length c0, .slice A1 s.length c1, .slice A2 p.length c2, .int .i64 b0, .int .i64 b1, .slice A3 (jointsT h s p b0 b1).1.length c3, .bool false, .bool false, .bool false, .bool false, .bool false, .bool false, .bool false, .bool false, .int .i64 b0, .int .i64 b1] 77)); have HF3 := zh (Kd.F_alloc hC3 (.cells #[.slice (some ad0) h.length c0, .slice A1 s.length c1, .slice A2 p.length c2, .int .i64 b0, .int .i64 b1, .slice A3 (jointsT h s p b0 b1).1.length c3, .bool false, .bool false, .bool false, .bool false, .bool false, .bool false, .bool false, .bool false, .int .i64 b0, .int .i64 b1] 77)); have HC3 := zh (Kd.C_alloc (Kd.F_now hC3) (.cells #[.slice (some ad0) h.length c0, .slice A1 s.length c1, .slice A2 p.length c2, .int .i64 b0, .int .i64 b1, .slice A3 (jointsT h s p b0 b1).1.length c3, .bool false, .bool false, .bool false, .bool false, .bool false, .bool false, .bool false, .bool false, .int .i64 b0, .int .i64 b1] 77)); have X2 := zh (alloc_at w2 (.cells #[.slice (some ad0) h.length c0, .slice A1 s.length c1, .slice A2 p.length c2, .int .i64 b0, .int .i64 b1, .slice A3 (jointsT h s p b0 b1).1.length c3, .bool false, .bool false, .bool false, .bool false, .bool false, .bool false, .bool false, .bool false, .int .i64 b0, .int .i64 b1] 77) w2.heap.size rfl); clear hC3 hb) | (go_at_call 71; (with_reducible refine (HCA.out _ A3 c3 HB2.out HC3.out).mono ?_); rintro e w3 ⟨rfl, hb⟩; have HB3 := zh (HB2.out.trans (hb.mono HB2.out.size)); have C3 := zh (blk_below C2.out hb); have X3 := zh (blk_below X2.out hb); have HF4 := zh (Kd.F_below HF3.out hb); clear hb; obtain ⟨r0, r1, r2, r3, r4, r5, r6, r7, r8, r9, r10, r11, r12, r13, r14, r15⟩ := cells16 C3.out; obtain ⟨f0, f1, f2, f3, f4, f5, f6, f7, f8, f9, f10, f11, f12, f13, f14, f15⟩ := froz16 C3.out; obtain ⟨x0, x1, x2, x3, x4, x5, x6, x7, x8, x9, x10, x11, x12, x13, x14, x15⟩ := cells16 X3.out))
 have HB9 : Aside0 (∀ X, Below w.heap.size w X → ∀ i v, Below w.heap.size w (X.setCell ⟨w.heap.size + 1, i, none⟩ v)) := ⟨fun X hX i v => hX.setCell dQ2 _⟩
 refine bodyPost_ret (results_ct rfl _ _ (w.heap.size + 1) 77 #[.slice none 0 0, .slice none 0 0, .slice none 0 0, .int .i64 0, .int .i64 0, .slice none 0 0, .bool false, .bool false, .bool false, .bool false, .bool false, .bool false, .bool false, .bool false, .int .i64 0, .int .i64 0] (0, 0) _ rfl (set16 C3.out _ _ _ _ _ _ _ _ _ _ _ _ _ _ _ _) Tryd.underlying77 rfl zk) rfl ⟨rfl, ?_⟩
 with_reducible repeat (first | exact HB3.out | refine HB9.out _ ?_ _ _)
theorem asked_bad (A0 : Option Addr) (c0 : Nat) (h : List S26) (A1 : Option Addr) (c1 : Nat) (s : List S61) (A2 : Option Addr) (c2 : Nat) (p : List S48) (b0 b1 : Int) (right : Bool) (w : World) (hsm : small h s p = true) (hG : Glob w)
  (h0 : Kd.C k26 w A0 h.length h) (hc0 : h.length ≤ c0) (h1 : Kd.C k61 w A1 s.length s) (hc1 : s.length ≤ c1) (h2 : Kd.C k48 w A2 p.length p) (hc2 : p.length ≤ c2) (E : Int) (hE : askedE h s p b0 b1 right = E) (hE0 : E ≠ 0) :
  Calls Tryd.prog 62 #[.agg #[.slice A0 h.length c0, .slice A1 s.length c1, .slice A2 p.length c2, .int .i64 b0, .int .i64 b1], .bool right] w fun e w' => e = .returned (.tuple #[zeroSet, .int .i64 E]) ∧ Below w.heap.size w w' := by
 subst hE
 unfold askedE at hE0 ⊢
 by_cases hck : checkT h s p b0 b1 = 0
 ·rw [if_neg (fun e => e hck)] at hE0 ⊢
  cases right with
  | false => rw [if_pos rfl]; exact asked_11 A0 c0 h A1 c1 s A2 c2 p b0 b1 w hsm hG h0 hc0 h1 hc1 h2 hc2 hck
  | true =>
   rw [if_neg (by decide)] at hE0 ⊢
   by_cases hT : tunS h (jsOf h s p b0 b1) noLeft (b0, b1) [] = true
   ·rw [if_pos hT] at hE0; exact absurd rfl hE0
   ·rw [if_neg hT]
    exact asked_12 A0 c0 h A1 c1 s A2 c2 p b0 b1 w hsm hG h0 hc0 h1 hc1 h2 hc2 hck (fun e => hT ((tunS_iff (fine_of hck).1.joins).2 e))
 ·rw [if_pos hck]
  exact asked_10 A0 c0 h A1 c1 s A2 c2 p b0 b1 right w hsm hG h0 hc0 h1 hc1 h2 hc2 (checkT_ne hck)
theorem askedE_ok {h : List S26} {s : List S61} {p : List S48} {b0 b1 : Int} {right : Bool} (hE : askedE h s p b0 b1 right = 0) : checkT h s p b0 b1 = 0 ∧ right = true ∧ tunS h (jsOf h s p b0 b1) noLeft (b0, b1) [] = true := by
 unfold askedE at hE
 by_cases hck : checkT h s p b0 b1 = 0
 ·rw [if_neg (fun e => e hck)] at hE
  cases right with
  | false => rw [if_pos rfl] at hE; cases hE
  | true =>
   rw [if_neg (by decide)] at hE
   split at hE
   ·rename_i hT; exact ⟨hck, rfl, hT⟩
   ·cases hE
 ·rw [if_pos hck] at hE; cases hE
theorem asked_good (A0 : Option Addr) (c0 : Nat) (h : List S26) (A1 : Option Addr) (c1 : Nat) (s : List S61) (A2 : Option Addr) (c2 : Nat) (p : List S48) (b0 b1 : Int) (right : Bool) (w : World) (hsm : small h s p = true) (hG : Glob w)
  (h0 : Kd.C k26 w A0 h.length h) (hc0 : h.length ≤ c0) (h1 : Kd.C k61 w A1 s.length s) (hc1 : s.length ≤ c1) (h2 : Kd.C k48 w A2 p.length p) (hc2 : p.length ≤ c2) (hE : askedE h s p b0 b1 right = 0) :
  Calls Tryd.prog 62 #[.agg #[.slice A0 h.length c0, .slice A1 s.length c1, .slice A2 p.length c2, .int .i64 b0, .int .i64 b1], .bool right] w fun e w' => ∃ A3 c3, e = .returned (.tuple #[.agg #[.slice A0 h.length c0, .slice A1 s.length c1, .slice A2 p.length c2, .int .i64 b0, .int .i64 b1, .slice A3 (jsOf h s p b0 b1).length c3, .bool false, .bool false, .bool false, .bool false, .bool false, .bool false, .bool false, .bool false, .int .i64 b0, .int .i64 b1], .int .i64 0]) ∧ Kd.F k80 w' (fun k => w.heap.size ≤ k) A3 (jsOf h s p b0 b1).length ((jsOf h s p b0 b1).map ofJ) ∧ Below w.heap.size w w' := by
 obtain ⟨hck, rfl, hT⟩ := askedE_ok hE
 obtain ⟨F, hjm, _⟩ := fine_of hck
 have h9 := asked_0 A0 c0 h A1 c1 s A2 c2 p b0 b1 w hsm hG h0 hc0 h1 hc1 h2 hc2 hck ((tunS_iff F.joins).1 hT)
 rw [hjm, List.length_map] at h9
 exact h9
end Go.Proofs.YtgehkojccmkggaaDoor.K
end
section
namespace Go.Proofs.YtgehkojccmkggaaDoor.K
open Go.RowKit Go.Shelf Go.Proofs.YtgehkojccmkggaaDoorW.PrintWords Go.Proofs.YtgehkojccmkggaaDoorW.PrintLast Go.Proofs.YtgehkojccmkggaaDoorW.PrintMore Go.Proofs.YtgehkojccmkggaaDoor.H Tune
set_option linter.unusedVariables false
set_option linter.unusedSimpArgs false
attribute [local go_sem] Oper.semAt_some
structure Way (n : Nat) (js : List J) (left : Nat → Bool) (b : Int × Int) (lo hi : Nat → Int) (ok : Nat → Int → Bool) where
 par : Nat → Int
 rank : Nat → Nat
 depth : Nat → Nat
 canV : Nat → Int → Bool
 f : Nat
 full : Full n js left b lo hi ok par rank depth canV
 neg : ∀ x, par x < 0 → par x = -1
 below : ∀ x, x < n → rank x < f
theorem way_of {n : Nat} {js : List J} {g : Nat → Nat} (hf : Forest js g) (hj : ∀ j ∈ js, j.one < n ∧ j.two < n) (left : Nat → Bool) (b : Int × Int) (lo hi : Nat → Int) (ok : Nat → Int → Bool) : Nonempty (Way n js left b lo hi ok) := by
 obtain ⟨g', hg'⟩ := forest_active b hf left
 obtain ⟨par, rank, depth, canV, hF⟩ := exists_full n js left b lo hi ok hj g' hg'
 obtain ⟨f, hfu⟩ := bound_of n rank
 exact ⟨⟨norm par, rank, depth, canV, f, hF.normal, norm_neg par, hfu⟩⟩
def Way.res {n : Nat} {js : List J} {left : Nat → Bool} {b : Int × Int} {lo hi : Nat → Int} {ok : Nat → Int → Bool} (W : Way n js left b lo hi ok) : Option (List Int) := loopF js left b lo hi W.par W.canV W.f n n 0 (List.replicate n 0) (leftL left)
theorem Way.spec {n : Nat} {js : List J} {left : Nat → Bool} {b : Int × Int} {lo hi : Nat → Int} {ok : Nat → Int → Bool} (W : Way n js left b lo hi ok) (hn : n ≤ 8) (hj : ∀ j ∈ js, j.one < n ∧ j.two < n ∧ j.one ≠ j.two) :
  (W.res = none → ¬ ∃ l, Tun n js left b lo hi ok l) ∧ (∀ l', W.res = some l' → l'.length = n ∧ Tun n js left b lo hi ok (fun x => l'.getD x 0) ∧ ∀ y, y < n → left y = true → l'.getD y 0 = lo y) := by
 have h : (match W.res with
    | none => ¬ ∃ l, Tun n js left b lo hi ok l
    | some l' => l'.length = n ∧ Tun n js left b lo hi ok (fun x => l'.getD x 0) ∧ ∀ y, y < n → left y = true → l'.getD y 0 = lo y) := by
  unfold Way.res
  refine loopF_spec W.full (fun j h => ⟨(hj j h).1, (hj j h).2.1⟩) (fun j h => (hj j h).2.2) W.below n 0 (List.replicate n 0) (leftL left) (by omega) (by simp) (by unfold leftL; simp; omega) ?_ ?_ ?_
  ·intro y hy
   rw [leftL_at left y (by omega)]
   constructor
   ·exact .inl
   ·rintro (h | ⟨r, h, _⟩)
    ·exact h
    ·exact absurd h (Nat.not_lt_zero _)
  ·intro r h; exact absurd h (Nat.not_lt_zero _)
  ·intro y h; exact absurd h (Nat.not_lt_zero _)
 revert h
 cases W.res with
 | none => exact fun h => ⟨fun _ => h, fun l' e => by cases e⟩
 | some l => exact fun h => ⟨fun e => (by cases e), fun l' e => by injection e with e; subst e; exact h⟩
open Classical in
noncomputable def tunL (h : List S26) (js : List J) (left : Nat → Bool) (b : Int × Int) (gl : List (Int × Int)) : Option (List Int) :=
 if H : Nonempty (Way h.length js left b (loH h) (hiH h) (okG gl)) then (Classical.choice H).res else none
theorem tunL_spec {h : List S26} {js : List J} (F : Fine h js) (left : Nat → Bool) (b : Int × Int) (gl : List (Int × Int)) :
  (tunL h js left b gl = none → tunS h js left b gl = false) ∧ (∀ l, tunL h js left b gl = some l → tunS h js left b gl = true ∧ l.length = h.length ∧ Tun h.length js left b (loH h) (hiH h) (okG gl) (fun x => l.getD x 0) ∧ ∀ y, y < h.length → left y = true → l.getD y 0 = loH h y) := by
 obtain ⟨g, hf⟩ := F.forest
 have hw : Nonempty (Way h.length js left b (loH h) (hiH h) (okG gl)) := way_of hf (fun j hj => ⟨(F.joins j hj).2.1, (F.joins j hj).2.2.1⟩) left b _ _ _
 have hs := (Classical.choice hw).spec F.few (fun j hj => (F.joins j hj).2)
 have he : tunL h js left b gl = (Classical.choice hw).res := by unfold tunL; rw [dif_pos hw]
 rw [he]
 refine ⟨fun e => ?_, fun l e => ⟨(tunS_iff F.joins).2 ⟨_, (hs.2 l e).2.1⟩, hs.2 l e⟩⟩
 cases ht : tunS h js left b gl with
 | false => rfl
 | true => exact absurd ((tunS_iff F.joins).1 ht) (hs.1 e)
theorem tunL_some {h : List S26} {js : List J} (F : Fine h js) (left : Nat → Bool) (b : Int × Int) (gl : List (Int × Int)) : (tunL h js left b gl).isSome = tunS h js left b gl := by
 obtain ⟨h1, h2⟩ := tunL_spec F left b gl
 revert h1 h2
 cases tunL h js left b gl with
 | none => intro h1 _; rw [h1 rfl]; rfl
 | some l => intro _ h2; rw [(h2 l rfl).1]; rfl
theorem tun_sem (ad0 : Addr) (c0 : Nat) (hs : List S26) (vS vP : Value) (b0 b1 : Int) (lf : Nat → Bool) (e0 e1 : Int) (A3 : Option Addr) (c3 : Nat) (js : List J) (go : Option Nat) (gl : List (Int × Int)) (W : World) (F : Fine hs js)
  (hH : Kd.C k26 W (some ad0) hs.length hs) (hA : Kd.C k80 W A3 js.length (js.map ofJ)) (hgo : MapOpt E3 (Value.int .i64) W go gl) (hG : Glob W) :
  Calls Tryd.prog 63 #[.agg #[.slice (some ad0) hs.length c0, vS, vP, .int .i64 b0, .int .i64 b1, .slice A3 js.length c3, .bool (lf 0), .bool (lf 1), .bool (lf 2), .bool (lf 3), .bool (lf 4), .bool (lf 5), .bool (lf 6), .bool (lf 7), .int .i64 e0, .int .i64 e1], .map go] W (TunPost hs.length (tunL hs js lf (e0, e1) gl) W) := by
 obtain ⟨g, hf⟩ := F.forest
 have hw : Nonempty (Way hs.length js lf (e0, e1) (loH hs) (hiH hs) (okG gl)) := way_of hf (fun j hj => ⟨(F.joins j hj).2.1, (F.joins j hj).2.2.1⟩) lf (e0, e1) _ _ _
 have he : tunL hs js lf (e0, e1) gl = (Classical.choice hw).res := by unfold tunL; rw [dif_pos hw]
 rw [he]
 exact tuning_calls ad0 c0 hs vS vP b0 b1 lf e0 e1 A3 c3 js go gl W (Classical.choice hw).par (Classical.choice hw).rank (Classical.choice hw).depth (Classical.choice hw).canV (Classical.choice hw).f (Classical.choice hw).full (Classical.choice hw).neg (Classical.choice hw).below hH hA hgo hG F.few (fun x hx => ⟨(F.span x hx).1, (F.span x hx).2.1, (F.span x hx).2.2.1⟩) (fun i hi => F.joins _ (List.getElem_mem hi))
end Go.Proofs.YtgehkojccmkggaaDoor.K
end
section
namespace Go.Proofs.YtgehkojccmkggaaDoor.K
open Go.RowKit Go.Shelf Go.Proofs.YtgehkojccmkggaaDoorW.PrintWords Go.Proofs.YtgehkojccmkggaaDoorW.PrintLast Go.Proofs.YtgehkojccmkggaaDoorW.PrintMore Go.Proofs.YtgehkojccmkggaaDoor.H Tune
set_option linter.unusedVariables false
set_option linter.unusedSimpArgs false
attribute [local go_sem] Oper.semAt_some
theorem C_is {w : World} {g : Nat} {t : TypeId} {xs : List Int} (h : w.heap[g]? = some (.cells (is_ xs) t (0, 0))) (hn : xs.length ≤ 9223372036854775807) : Kd.C (Kd.int .i64) w (some ⟨g, 0, none⟩) xs.length xs := by
 refine ⟨rfl, hn, fun _ => ⟨_, rfl, fun j p hj => ⟨[.int .i64 p], rfl, rfl, fun i u hi => ?_⟩⟩⟩
 have hi0 : i = 0 := by
  have := (List.getElem?_eq_some_iff.1 hi).1
  simpa using this
 subst hi0
 obtain rfl : .int .i64 p = u := by simpa using hi
 have e := blk_cell h j
 have e2 : (is_ xs)[j]? = some (.int .i64 p) := by unfold is_; simp [hj]
 rw [e2] at e
 have hsz : (Kd.int .i64).sz = 1 := rfl
 by_cases hj0 : j = 0
 ·subst hj0
  simpa [hsz, Addr.add] using e
 ·simpa [hsz, Addr.add, hj0] using e
theorem F_is {w : World} {g : Nat} {t : TypeId} {xs : List Int} {ok : Nat → Prop} (h : w.heap[g]? = some (.cells (is_ xs) t (0, 0))) (hn : xs.length ≤ 9223372036854775807) (hg : ok g) : Kd.F (Kd.int .i64) w ok (some ⟨g, 0, none⟩) xs.length xs :=
 fun W' hW' => C_is ((hW' g hg (blk_lt h)).trans h) hn
theorem V_is {w : World} {g n base e : Nat} {t : TypeId} {xs : List Int} {ok : Nat → Prop} (h : w.heap[g]? = some (.cells (is_ xs) t (0, 0))) (hl : xs.length = n) (hn : n ≤ 8) (hg : ok g) : Kd.V (Kd.int .i64) e w base ok (.slice (some ⟨g, 0, none⟩) n n) xs := by
 subst hl
 exact Kd.V_mk (Nat.le_refl _) (F_is h (by omega) hg)
noncomputable def tuningL (h : List S26) (s : List S61) (p : List S48) (b0 b1 : Int) : List Int := if askedE h s p b0 b1 true = 0 then (tunL h (jsOf h s p b0 b1) noLeft (b0, b1) []).getD [] else []
set_option maxRecDepth 100000 in
set_option maxHeartbeats 8000000 in
theorem tuning20_calls (A0 : Option Addr) (c0 : Nat) (h : List S26) (A1 : Option Addr) (c1 : Nat) (s : List S61) (A2 : Option Addr) (c2 : Nat) (p : List S48) (b0 b1 : Int) (w : World) (hsm : small h s p = true) (hG : Glob w)
  (h0 : Kd.C k26 w A0 h.length h) (hc0 : h.length ≤ c0) (h1 : Kd.C k61 w A1 s.length s) (hc1 : s.length ≤ c1) (h2 : Kd.C k48 w A2 p.length p) (hc2 : p.length ≤ c2) :
  Calls Tryd.prog 20 #[.agg #[.slice A0 h.length c0, .slice A1 s.length c1, .slice A2 p.length c2, .int .i64 b0, .int .i64 b1]] w fun e w' => ∃ v, e = .returned (.tuple #[v, .int .i64 (askedE h s p b0 b1 true)]) ∧ Kd.V (Kd.int .i64) 3 w' w.heap.size (fun k_ => w.heap.size ≤ k_) v (tuningL h s p b0 b1) ∧ Below w.heap.size w w' := by
 have hu77 := Tryd.underlying77
 have hu28 := Tryd.underlying28
 have HB0 := zh (below_alloc (Below.refl w.heap.size w) (.cells #[.slice A0 h.length c0, .slice A1 s.length c1, .slice A2 p.length c2, .int .i64 b0, .int .i64 b1] 28))
 have HGW := zh hG
 have HG0 : Aside0 (Glob (w.alloc (.cells #[.slice A0 h.length c0, .slice A1 s.length c1, .slice A2 p.length c2, .int .i64 b0, .int .i64 b1] 28))) := ⟨hG.below HB0.out⟩
 have D0 := zh (Kd.C_below h0 HB0.out)
 have D1 := zh (Kd.C_below h1 HB0.out)
 have D2 := zh (Kd.C_below h2 HB0.out)
 have HSM := zh hsm
 clear h0 h1 h2 hG hsm
 obtain ⟨E, hE⟩ : ∃ E, askedE h s p b0 b1 true = E := ⟨_, rfl⟩
 by_cases hz : E = 0
 ·obtain rfl := hz
  obtain ⟨hck, _, hT⟩ := askedE_ok hE
  obtain ⟨F, hjm, _⟩ := fine_of hck
  obtain ⟨ad0, rfl⟩ : ∃ ad, A0 = some ad := by obtain ⟨ad, e, _⟩ := H_at D0.out 0 (by have := F.some; omega); exact ⟨ad, e⟩
  have HF := zh F
  have HAS := zh (asked_good (some ad0) c0 h A1 c1 s A2 c2 p b0 b1 true _ HSM.out HG0.out D0.out hc0 D1.out hc1 D2.out hc2 hE)
  obtain ⟨h8, h9⟩ := tunL_spec F noLeft (b0, b1) []
  have HTS : Aside0 (∀ W, MapOpt E3 (Value.int .i64) W none []) := ⟨fun W => .inl ⟨rfl, rfl⟩⟩
  obtain ⟨l, hl⟩ : ∃ l, tunL h (jsOf h s p b0 b1) noLeft (b0, b1) [] = some l := by
   cases ht : tunL h (jsOf h s p b0 b1) noLeft (b0, b1) [] with
   | none => rw [h8 ht] at hT; cases hT
   | some l => exact ⟨l, rfl⟩
  have HLL := zh (h9 l hl).2.1
  have HTL : Aside0 (tuningL h s p b0 b1 = l) := ⟨by unfold tuningL; rw [if_pos hE, hl]; rfl⟩
  have HTC : Aside0 (∀ W A3 c3, Below w.heap.size w W → Kd.C k26 W (some ad0) h.length h → Kd.C k80 W A3 (jsOf h s p b0 b1).length ((jsOf h s p b0 b1).map ofJ) → Calls Tryd.prog 63 #[.agg #[.slice (some ad0) h.length c0, .slice A1 s.length c1, .slice A2 p.length c2, .int .i64 b0, .int .i64 b1, .slice A3 (jsOf h s p b0 b1).length c3, .bool false, .bool false, .bool false, .bool false, .bool false, .bool false, .bool false, .bool false, .int .i64 b0, .int .i64 b1], .map none] W (TunPost h.length (some l) W)) := ⟨fun W A3 c3 hW hh hj => by
   have h7 := tun_sem ad0 c0 h (.slice A1 s.length c1) (.slice A2 p.length c2) b0 b1 noLeft b0 b1 A3 c3 (jsOf h s p b0 b1) none [] W HF.out hh hj (HTS.out W) (HGW.out.below hW)
   rw [hl] at h7
   exact h7⟩
  rw [hE, HTL.out]
  clear hE h8 h9 hl hT hck hjm F
  go_enter Tryd.func20, Tryd.ntmps20
  go_wp2_with (first | (go_at_call 62; refine HAS.out.mono ?_; rintro e w1 ⟨A3, c3, rfl, hF, hb⟩; have HB1 := zh (below_alloc (HB0.out.trans (hb.mono (by simp))) (.cells #[.slice (some ad0) h.length c0, .slice A1 s.length c1, .slice A2 p.length c2, .int .i64 b0, .int .i64 b1, .slice A3 (jsOf h s p b0 b1).length c3, .bool false, .bool false, .bool false, .bool false, .bool false, .bool false, .bool false, .bool false, .int .i64 b0, .int .i64 b1] 77)); have HC3 := zh (Kd.C_alloc (Kd.F_now hF) (.cells #[.slice (some ad0) h.length c0, .slice A1 s.length c1, .slice A2 p.length c2, .int .i64 b0, .int .i64 b1, .slice A3 (jsOf h s p b0 b1).length c3, .bool false, .bool false, .bool false, .bool false, .bool false, .bool false, .bool false, .bool false, .int .i64 b0, .int .i64 b1] 77)); have HH3 := zh (Kd.C_alloc (Kd.C_below D0.out hb) (.cells #[.slice (some ad0) h.length c0, .slice A1 s.length c1, .slice A2 p.length c2, .int .i64 b0, .int .i64 b1, .slice A3 (jsOf h s p b0 b1).length c3, .bool false, .bool false, .bool false, .bool false, .bool false, .bool false, .bool false, .bool false, .int .i64 b0, .int .i64 b1] 77)); clear hF hb) | (go_at_call 63; refine (HTC.out _ A3 c3 HB1.out HH3.out HC3.out).mono ?_; rintro e w2 ⟨_, ht, hb⟩; obtain ⟨g, rfl, hg, hgc, hgl⟩ := ht l rfl; have HB2 := zh (HB1.out.trans (hb.mono HB1.out.size)); have HGC := zh hgc; have HGG := zh (Nat.le_trans HB1.out.size hg); clear hb ht hg hgc))
  have hle : h.length ≤ h.length := Nat.le_refl _
  have hn8 := HF.out.few
  go_ret2
  exact ⟨_, rfl, V_is HGC.out HLL.out hn8 HGG.out, HB2.out⟩
 ·have HAS := zh (asked_bad A0 c0 h A1 c1 s A2 c2 p b0 b1 true _ HSM.out HG0.out D0.out hc0 D1.out hc1 D2.out hc2 E hE hz)
  have HTL : Aside0 (tuningL h s p b0 b1 = []) := ⟨by unfold tuningL; rw [if_neg (by rw [hE]; exact hz)]⟩
  rw [hE, HTL.out]
  have hz1 : (E != 0) = true := bne_iff_ne.2 hz
  clear hE
  go_enter Tryd.func20, Tryd.ntmps20
  go_wp2_with (go_at_call 62; refine HAS.out.mono ?_; rintro e w1 ⟨rfl, hb⟩; simp only [zeroSet]; have HB1 := zh (below_alloc (HB0.out.trans (hb.mono (by simp))) (.cells #[.slice none 0 0, .slice none 0 0, .slice none 0 0, .int .i64 0, .int .i64 0, .slice none 0 0, .bool false, .bool false, .bool false, .bool false, .bool false, .bool false, .bool false, .bool false, .int .i64 0, .int .i64 0] 77)); clear hb)
  go_ret2
  exact ⟨_, rfl, Kd.V_nil _ _ _ _ _, HB1.out⟩
end Go.Proofs.YtgehkojccmkggaaDoor.K
end
section
namespace Go.Proofs.YtgehkojccmkggaaDoor.K
open Go.RowKit Go.Shelf Go.Proofs.YtgehkojccmkggaaDoorW.PrintWords Go.Proofs.YtgehkojccmkggaaDoorW.PrintLast Go.Proofs.YtgehkojccmkggaaDoorW.PrintMore Go.Proofs.YtgehkojccmkggaaDoor.H Tune
set_option linter.unusedVariables false
set_option linter.unusedSimpArgs false
attribute [local go_sem] Oper.semAt_some
def st16 (w : World) (g : Nat) (v0 v1 v2 v3 v4 v5 v6 v7 v8 v9 v10 v11 v12 v13 v14 v15 : Value) : World := ((((((((((((((((w.setCell ⟨g, 0, none⟩ v0).setCell ⟨g, 1, none⟩ v1).setCell ⟨g, 2, none⟩ v2).setCell ⟨g, 3, none⟩ v3).setCell ⟨g, 4, none⟩ v4).setCell ⟨g, 5, none⟩ v5).setCell ⟨g, 6, none⟩ v6).setCell ⟨g, 7, none⟩ v7).setCell ⟨g, 8, none⟩ v8).setCell ⟨g, 9, none⟩ v9).setCell ⟨g, 10, none⟩ v10).setCell ⟨g, 11, none⟩ v11).setCell ⟨g, 12, none⟩ v12).setCell ⟨g, 13, none⟩ v13).setCell ⟨g, 14, none⟩ v14).setCell ⟨g, 15, none⟩ v15)
abbrev stS (w : World) (g : Nat) (A0 : Option Addr) (n0 c0 : Nat) (A1 : Option Addr) (n1 c1 : Nat) (A2 : Option Addr) (n2 c2 : Nat) (b0 b1 : Int) (A3 : Option Addr) (n3 c3 : Nat) : World := st16 w g (.slice A0 n0 c0) (.slice A1 n1 c1) (.slice A2 n2 c2) (.int .i64 b0) (.int .i64 b1) (.slice A3 n3 c3) (.bool false) (.bool false) (.bool false) (.bool false) (.bool false) (.bool false) (.bool false) (.bool false) (.int .i64 b0) (.int .i64 b1)
abbrev stZ (w : World) (g : Nat) : World := st16 w g (.slice none 0 0) (.slice none 0 0) (.slice none 0 0) (.int .i64 0) (.int .i64 0) (.slice none 0 0) (.bool false) (.bool false) (.bool false) (.bool false) (.bool false) (.bool false) (.bool false) (.bool false) (.int .i64 0) (.int .i64 0)
section
variable {w W : World} {g : Nat} {v0 v1 v2 v3 v4 v5 v6 v7 v8 v9 v10 v11 v12 v13 v14 v15 : Value}
theorem st_set {t : TypeId} {a0 a1 a2 a3 a4 a5 a6 a7 a8 a9 a10 a11 a12 a13 a14 a15 : Value} (hv : st16 w g v0 v1 v2 v3 v4 v5 v6 v7 v8 v9 v10 v11 v12 v13 v14 v15 = W) (h : w.heap[g]? = some (.cells #[a0, a1, a2, a3, a4, a5, a6, a7, a8, a9, a10, a11, a12, a13, a14, a15] t (0, 0))) : W.heap[g]? = some (.cells #[v0, v1, v2, v3, v4, v5, v6, v7, v8, v9, v10, v11, v12, v13, v14, v15] t (0, 0)) := by
 subst hv
 exact set16 h v0 v1 v2 v3 v4 v5 v6 v7 v8 v9 v10 v11 v12 v13 v14 v15
theorem st_below {B : Nat} {w0 : World} (hv : st16 w g v0 v1 v2 v3 v4 v5 v6 v7 v8 v9 v10 v11 v12 v13 v14 v15 = W) (h : Below B w0 w) (hg : B ≤ g) : Below B w0 W := by
 subst hv
 exact ((((((((((((((((h.setCell (p := ⟨g, 0, none⟩) hg _).setCell (p := ⟨g, 1, none⟩) hg _).setCell (p := ⟨g, 2, none⟩) hg _).setCell (p := ⟨g, 3, none⟩) hg _).setCell (p := ⟨g, 4, none⟩) hg _).setCell (p := ⟨g, 5, none⟩) hg _).setCell (p := ⟨g, 6, none⟩) hg _).setCell (p := ⟨g, 7, none⟩) hg _).setCell (p := ⟨g, 8, none⟩) hg _).setCell (p := ⟨g, 9, none⟩) hg _).setCell (p := ⟨g, 10, none⟩) hg _).setCell (p := ⟨g, 11, none⟩) hg _).setCell (p := ⟨g, 12, none⟩) hg _).setCell (p := ⟨g, 13, none⟩) hg _).setCell (p := ⟨g, 14, none⟩) hg _).setCell (p := ⟨g, 15, none⟩) hg _)
theorem st_F {α : Type} {d : Kd α} {ok : Nat → Prop} {A : Option Addr} {n : Nat} {xs : List α} (hv : st16 w g v0 v1 v2 v3 v4 v5 v6 v7 v8 v9 v10 v11 v12 v13 v14 v15 = W) (h : Kd.F d w ok A n xs) (hg : ∀ k, ok k → k ≠ g) : Kd.F d W ok A n xs := by
 subst hv
 exact (Kd.F_far (Kd.F_far (Kd.F_far (Kd.F_far (Kd.F_far (Kd.F_far (Kd.F_far (Kd.F_far (Kd.F_far (Kd.F_far (Kd.F_far (Kd.F_far (Kd.F_far (Kd.F_far (Kd.F_far (Kd.F_far h (p := ⟨g, 0, none⟩) hg _) (p := ⟨g, 1, none⟩) hg _) (p := ⟨g, 2, none⟩) hg _) (p := ⟨g, 3, none⟩) hg _) (p := ⟨g, 4, none⟩) hg _) (p := ⟨g, 5, none⟩) hg _) (p := ⟨g, 6, none⟩) hg _) (p := ⟨g, 7, none⟩) hg _) (p := ⟨g, 8, none⟩) hg _) (p := ⟨g, 9, none⟩) hg _) (p := ⟨g, 10, none⟩) hg _) (p := ⟨g, 11, none⟩) hg _) (p := ⟨g, 12, none⟩) hg _) (p := ⟨g, 13, none⟩) hg _) (p := ⟨g, 14, none⟩) hg _) (p := ⟨g, 15, none⟩) hg _)
end
section
variable {w W : World} {o : Obj}
theorem al_below {w0 : World} (hv : w.alloc o = W) (h : Below w0.heap.size w0 w) : Below w0.heap.size w0 W := by subst hv; exact below_alloc h o
theorem al_at (hv : w.alloc o = W) : W.heap[w.heap.size]? = some o := by subst hv; exact alloc_at w o _ rfl
theorem al_F {α : Type} {d : Kd α} {ok : Nat → Prop} {A : Option Addr} {n : Nat} {xs : List α} (hv : w.alloc o = W) (h : Kd.F d w ok A n xs) : Kd.F d W ok A n xs := by subst hv; exact Kd.F_alloc h o
end
end Go.Proofs.YtgehkojccmkggaaDoor.K
end
section
namespace Go.Proofs.YtgehkojccmkggaaDoor.H
open Go.RowKit Go.Proofs.YtgehkojccmkggaaDoorW.PrintWords Go.Proofs.YtgehkojccmkggaaDoorW.PrintLast Go.Proofs.YtgehkojccmkggaaDoorW.PrintMore
attribute [local go_sem] max2_int min2_int max_two min_two max_three min_three max_four min_four   -- for this text's walks alone
set_option linter.unusedVariables false
set_option linter.unusedSimpArgs false
def tune_isKey.f (l0_0 : List (S26)) (l0_1 : List (S61)) (l0_2 : List (S48)) (a0_3 : Int) (a0_4 : Int) (a1 : Int) : Option (Bool) := (tune_lies.f a1 0 (wrap64 ((l0_0.length : Int) - 1))).bind fun t253 => (some t253)
set_option maxHeartbeats 8000000 in
set_option maxRecDepth 100000 in
theorem tune_isKey.calls (A0_0 : Option Addr) (c0_0 : Nat) (l0_0 : List (S26)) (A0_1 : Option Addr) (c0_1 : Nat) (l0_1 : List (S61)) (A0_2 : Option Addr) (c0_2 : Nat) (l0_2 : List (S48)) (a0_3 : Int) (a0_4 : Int) (a1 : Int) (r : Bool) (w : World) (hr0_0 : Kd.C k26 w A0_0 l0_0.length l0_0) (hc0_0 : l0_0.length ≤ c0_0) (hr0_1 : Kd.C k61 w A0_1 l0_1.length l0_1) (hc0_1 : l0_1.length ≤ c0_1) (hr0_2 : Kd.C k48 w A0_2 l0_2.length l0_2) (hc0_2 : l0_2.length ≤ c0_2) (h : tune_isKey.f l0_0 l0_1 l0_2 a0_3 a0_4 a1 = some r) :
  Calls Tryd.prog 65 #[.agg #[.slice A0_0 l0_0.length c0_0, .slice A0_1 l0_1.length c0_1, .slice A0_2 l0_2.length c0_2, .int .i64 a0_3, .int .i64 a0_4], .int .i64 a1] w fun e w' => e = .returned (.bool r) ∧ Below w.heap.size w w' := by
 have hu28 := Tryd.underlying28
 have HR0_0 := zh hr0_0
 have HC0_0 := zh hc0_0
 clear hr0_0 hc0_0
 have HR0_1 := zh hr0_1
 have HC0_1 := zh hc0_1
 clear hr0_1 hc0_1
 have HR0_2 := zh hr0_2
 have HC0_2 := zh hc0_2
 clear hr0_2 hc0_2
 have HB := zh (Below.refl w.heap.size w)
 have H : ((tune_lies.f a1 0 (wrap64 ((l0_0.length : Int) - 1))).bind fun t253 => (some t253)) = some r := h
 clear h
 replace H := Option.bind_eq_some_iff.mp H
 obtain ⟨t253, A30, H⟩ := H
 replace H : (some t253) = some r := H
 have A3 := zh A30
 clear A30
 obtain rfl := Option.some.inj H
 go_enter Tryd.func65, Tryd.ntmps65
 go_wp2_with (first | ((with_reducible refine gate_dst (N := 2) rfl ?_); refine box_event ?hg (N := 2) ?hd (cs := #[.slice A0_0 l0_0.length c0_0, .slice A0_1 l0_1.length c0_1, .slice A0_2 l0_2.length c0_2, .int .i64 a0_3, .int .i64 a0_4]) (t := 28) ?hr ?_; (case hd => rfl); (case hg => rfl); (case hr => first | (go_simp; done) | (go_simp; rfl)); intro gb252 hg w4 hbox hb; have BK252 := zh (hbox); have GW252 := zh ((by rw [hg]; exact (below_size zb) : w.heap.size ≤ gb252)); have GE252 := zh ((by rw [hg]; exact (below_size zb) : w.heap.size ≤ gb252)); replace HB := zh (below_step zb hb); clear hb hbox hg; obtain ⟨hcz5_0, hcz5_1, hcz5_2, hcz5_3, hcz5_4⟩ := zC5 BK252.out; obtain ⟨hfz5_0, hfz5_1, hfz5_2, hfz5_3, hfz5_4⟩ := zF5 BK252.out) | ((with_reducible refine gate_callee (f := 51) rfl ?_); refine goesL_ (some 10) rfl rfl Tryd.func51 zk rfl #[.int .i64 a1, .int .i64 0, .int .i64 (wrap64 ((l0_0.length : Int) - 1))] rfl zm ?_; (with_reducible refine (tune_lies.calls a1 0 (wrap64 ((l0_0.length : Int) - 1)) t253 _ A3.out).mono ?_); rintro e w' ⟨rfl, ⟨nd, rfl⟩⟩; refine ⟨_, rfl, ?_⟩))
 go_ret
 exact ⟨zf, zb⟩
end Go.Proofs.YtgehkojccmkggaaDoor.H
end
section
namespace Go.Proofs.YtgehkojccmkggaaDoor.K
open Go.RowKit Go.Shelf Go.Proofs.YtgehkojccmkggaaDoorW.PrintWords Go.Proofs.YtgehkojccmkggaaDoorW.PrintLast Go.Proofs.YtgehkojccmkggaaDoorW.PrintMore Go.Proofs.YtgehkojccmkggaaDoor.H Tune
set_option linter.unusedVariables false
set_option linter.unusedSimpArgs false
attribute [local go_sem] Oper.semAt_some
theorem wpList_insert {P : Program} {α β : Type} [DecidableEq α] {k : TypeId} {w : World} {m : Nat} {kv : List (α × β)} {t e : TypeId} {ops : Array Oper} {rest : List Oper} {o : Oper} {a : Act} {Q : Exit → Act → World → Prop} (E : KeyEnc P k α) (V : β → Value) (hg : o.guard = none) (mo x v : Operand) (hop : o.op = Op.insert t mo x v) (ht : P.underlying t = some (.map k e)) (hm : a.eval mo = .map (some m))
  (h : MapIs E V w m kv) (key : α) (b : β) (hx : a.eval x = E.enc key) (hv : a.eval v = V b)
  (hK : ∀ w', MapIs E V w' m (kvSet key b kv) → w.grownBy w' (some m) → wpList P ops Q rest (a.put o.dst undef) w') : wpList P ops Q (o :: rest) a w := by
 refine wpList_plain hg fun K' hK' => ?_
 obtain ⟨w', hrun, r1, r2⟩ := h.update ht key b
 unfold Oper.wp
 simp [execOp, hop, hm, hx, hv, hrun, Result.andThen]
 exact hK' _ _ (hK w' r1 r2)
theorem isKey_calls (A0 : Option Addr) (c0 : Nat) (h : List S26) (A1 : Option Addr) (c1 : Nat) (s : List S61) (A2 : Option Addr) (c2 : Nat) (p : List S48) (b0 b1 key : Int) (w : World) (hh : h.length ≤ 4000000)
  (h0 : Kd.C k26 w A0 h.length h) (hc0 : h.length ≤ c0) (h1 : Kd.C k61 w A1 s.length s) (hc1 : s.length ≤ c1) (h2 : Kd.C k48 w A2 p.length p) (hc2 : p.length ≤ c2) :
  Calls Tryd.prog 65 #[.agg #[.slice A0 h.length c0, .slice A1 s.length c1, .slice A2 p.length c2, .int .i64 b0, .int .i64 b1], .int .i64 key] w fun e w' => e = .returned (.bool (inK h.length key)) ∧ Below w.heap.size w w' :=
 tune_isKey.calls A0 c0 h A1 c1 s A2 c2 p b0 b1 key _ w h0 hc0 h1 hc1 h2 hc2 (by unfold tune_isKey.f; rw [lies_in _ _ hh]; rfl)
theorem small_h {h : List S26} {s : List S61} {p : List S48} (hs : small h s p = true) : h.length ≤ 4000000 := by
 unfold small at hs
 simp only [Bool.and_eq_true, decide_eq_true_eq] at hs
 exact hs.1.1.1
def canB (h : List S26) (s : List S61) (p : List S48) (b0 b1 key q : Int) : Bool := decide (askedE h s p b0 b1 (inK h.length key) = 0) && tunS h (jsOf h s p b0 b1) noLeft (b0, b1) [(key, q)]
def fCan25.T1 : Bool × List (List Nat × List Nat) := (true, [([], []), ([], []), ([], []), ([1, 2], [1, 2]), ([0, 3, 3], [0, 3]), ([4], [4]), ([5], [5]), ([5], [5]), ([], []), ([8, 6, 4, 0, 1, 2, 3, 4, 5, 6, 8], [6, 8]), ([7, 9, 0, 1, 2, 3, 4, 5, 6, 7, 8, 9], [7])])
def fCan25.B1 : List Nat := [0, 0, 0, 6, 15, 31, 63, 63, 0, 383, 1023]
theorem fCan25.tab1 : rtab .any (opsOf Tryd.f25 1) = fCan25.T1 := by kernel_rfl
theorem fCan25.bits1 : waitsOk fCan25.T1.2 fCan25.B1 = true := by kernel_rfl
set_option maxRecDepth 100000 in
set_option maxHeartbeats 8000000 in
theorem can25_bad (A0 : Option Addr) (c0 : Nat) (h : List S26) (A1 : Option Addr) (c1 : Nat) (s : List S61) (A2 : Option Addr) (c2 : Nat) (p : List S48) (b0 b1 : Int) key q E (w : World) (hsm : small h s p = true) (hG : Glob w)
  (h0 : Kd.C k26 w A0 h.length h) (hc0 : h.length ≤ c0) (h1 : Kd.C k61 w A1 s.length s) (hc1 : s.length ≤ c1) (h2 : Kd.C k48 w A2 p.length p) (hc2 : p.length ≤ c2) (hE : askedE h s p b0 b1 (inK h.length key) = E) (hz : E ≠ 0) :
  Calls Tryd.prog 25 #[.agg #[.slice A0 h.length c0, .slice A1 s.length c1, .slice A2 p.length c2, .int .i64 b0, .int .i64 b1], .int .i64 key, .int .i64 q] w fun e w' => e = .returned (.tuple #[.bool false, .int .i64 E]) ∧ Below w.heap.size w w' := by
 have hu77 := Tryd.underlying77
 have hu80 := Tryd.underlying80
 have hu28 := Tryd.underlying28
 have hu26 := Tryd.underlying26
 have HB0 := zh (below_alloc (Below.refl w.heap.size w) (.cells #[.slice A0 h.length c0, .slice A1 s.length c1, .slice A2 p.length c2, .int .i64 b0, .int .i64 b1] 28))
 have B0 := zh (alloc_at w (.cells #[.slice A0 h.length c0, .slice A1 s.length c1, .slice A2 p.length c2, .int .i64 b0, .int .i64 b1] 28) w.heap.size rfl)
 have HGW := zh hG
 have D0 := zh h0
 have D1 := zh h1
 have D2 := zh h2
 have HSM := zh hsm
 clear h0 h1 h2 hG hsm
 have hz1 : (E != 0) = true := bne_iff_ne.2 hz
 go_enter Tryd.func25, Tryd.ntmps25
 go_upto_region 1 with (fail)
 obtain ⟨W1, hW1⟩ : ∃ W1, w.alloc (.cells #[.slice A0 h.length c0, .slice A1 s.length c1, .slice A2 p.length c2, .int .i64 b0, .int .i64 b1] 28) = W1 := ⟨_, rfl⟩
 rw [hW1] at HB0 B0 ⊢
 clear hW1
 have HBD := zh (below_drew1 HB0.out)
 replace B0 := zh (show W1.drew.heap[w.heap.size]? = _ from B0.out)
 clear HB0
 have HAS : Aside0 (∀ W, Below W1.drew.heap.size W1.drew W → Calls Tryd.prog 62 #[.agg #[.slice A0 h.length c0, .slice A1 s.length c1, .slice A2 p.length c2, .int .i64 b0, .int .i64 b1], .bool (inK h.length key)] W fun e w' => e = .returned (.tuple #[.agg #[.slice none 0 0, .slice none 0 0, .slice none 0 0, .int .i64 0, .int .i64 0, .slice none 0 0, .bool false, .bool false, .bool false, .bool false, .bool false, .bool false, .bool false, .bool false, .int .i64 0, .int .i64 0], .int .i64 E]) ∧ Below W.heap.size W w') := ⟨fun W hW => asked_bad A0 c0 h A1 c1 s A2 c2 p b0 b1 (inK h.length key) W HSM.out (HGW.out.below (HBD.out.trans (hW.mono HBD.out.size))) (Kd.C_below (Kd.C_below D0.out HBD.out) hW) hc0 (Kd.C_below (Kd.C_below D1.out HBD.out) hW) hc1 (Kd.C_below (Kd.C_below D2.out HBD.out) hW) hc2 E hE hz⟩
 have HIK3 : Aside0 (∀ W, Below W1.drew.heap.size W1.drew W → Calls Tryd.prog 65 #[.agg #[.slice A0 h.length c0, .slice A1 s.length c1, .slice A2 p.length c2, .int .i64 b0, .int .i64 b1], .int .i64 key] W fun e w' => e = .returned (.bool (inK h.length key)) ∧ Below W.heap.size W w') := ⟨fun W hW => isKey_calls A0 c0 h A1 c1 s A2 c2 p b0 b1 key W (small_h HSM.out) (Kd.C_below (Kd.C_below D0.out HBD.out) hW) hc0 (Kd.C_below (Kd.C_below D1.out HBD.out) hW) hc1 (Kd.C_below (Kd.C_below D2.out HBD.out) hW) hc2⟩
 clear hE hz
 go_cut [9] (fun u9 wc => u9 = .int .i64 E ∧ Aside0 (Below w.heap.size w wc))
 case first =>
  have BL0 := zh (Below.refl W1.drew.heap.size W1.drew)
  refine start_ (n := 11) (S := fun w' => w'.cell? ⟨w.heap.size, 0, none⟩ = some (.slice A0 h.length c0) ∧ w'.cell? ⟨w.heap.size, 1, none⟩ = some (.slice A1 s.length c1) ∧ w'.cell? ⟨w.heap.size, 2, none⟩ = some (.slice A2 p.length c2) ∧ w'.cell? ⟨w.heap.size, 3, none⟩ = some (.int .i64 b0) ∧ w'.cell? ⟨w.heap.size, 4, none⟩ = some (.int .i64 b1)) (ds := []) (Array.replicate 11 false) zk rfl rfl ⟨(blk_cell (blk_below B0.out BL0.out) 0).trans rfl, (blk_cell (blk_below B0.out BL0.out) 1).trans rfl, (blk_cell (blk_below B0.out BL0.out) 2).trans rfl, (blk_cell (blk_below B0.out BL0.out) 3).trans rfl, (blk_cell (blk_below B0.out BL0.out) 4).trans rfl⟩ (fun hHeld => ?_)
  refine with_tabW fCan25.tab1 fCan25.bits1 (fun HT_ HW_ => ?_)
  generalize W1.drew = v0 at B0 HBD HAS HIK3 BL0 hHeld ⊢
  refine zu 2 ?_
  refine zt 0 ?_
  refine zt 1 ?_
  refine two_ (i := 3) (j := 8) (Ni := some 16) (Nj := some 8) #[true, true, true, true, false, false, false, false, false, false, false] #[true, true, true, false, false, false, false, false, true, false, false] rfl rfl rfl rfl (two_of HT_.out zk) (by decide) (by decide) (fun K hK => ?_) (fun K hK => ?_)
  ·refine goes_ Tryd.func65 zk rfl #[.agg #[.slice A0 h.length c0, .slice A1 s.length c1, .slice A2 p.length c2, .int .i64 b0, .int .i64 b1], .int .i64 key] (by rfl) rfl rfl dQ1 ?_
   (with_reducible refine (HIK3.out v0 BL0.out).mono ?_)
   rintro e v1 ⟨rfl, hb⟩
   refine ⟨_, rfl, ?_⟩
   have BL1 := zh (BL0.out.trans (hb.mono BL0.out.size))
   clear hb
   refine hK.out _ _ (cells5 (blk_below B0.out BL1.out)) (fun hHeld => ?_)
   clear hK K
   refine zr 16 _ ?_
   refine two_ (i := 4) (j := 8) (Ni := some 17) (Nj := some 8) #[true, true, true, true, true, false, false, false, false, false, false] #[true, true, true, true, false, false, false, false, true, false, false] rfl rfl rfl rfl (two_of HT_.out zk) (by decide) (by decide) (fun K hK => ?_) (fun K hK => ?_)
   ·refine goes_ Tryd.func62 zk rfl #[.agg #[.slice A0 h.length c0, .slice A1 s.length c1, .slice A2 p.length c2, .int .i64 b0, .int .i64 b1], .bool (inK h.length key)] (by rfl) rfl rfl dQ1 ?_
    (with_reducible refine (HAS.out v1 BL1.out).mono ?_)
    rintro e v2 ⟨rfl, hb⟩
    refine ⟨_, rfl, ?_⟩
    have BL2 := zh (BL1.out.trans (hb.mono BL1.out.size))
    have hs1_ := BL1.out.size
    clear hb
    refine hK.out _ _ (cells5 (blk_below B0.out BL2.out)) (fun hHeld => ?_)
    clear hK K
    refine zr 17 _ ?_
    refine zu 5 ?_
    refine zu 6 ?_
    refine zu 7 ?_
    refine zo 8 (fun K hK => ?_)
    refine value_ (v := .pointer (some ⟨v2.heap.size, 0, none⟩)) (w1 := v2.alloc (.cells #[.slice none 0 0, .slice none 0 0, .slice none 0 0, .int .i64 0, .int .i64 0, .slice none 0 0, .bool false, .bool false, .bool false, .bool false, .bool false, .bool false, .bool false, .bool false, .int .i64 0, .int .i64 0] 77)) (by rfl) rfl ?hr2 ?_
    (case hr2 => first | (go_simp; done) | (go_simp; rfl))
    generalize hv_ : v2.alloc (.cells #[.slice none 0 0, .slice none 0 0, .slice none 0 0, .int .i64 0, .int .i64 0, .slice none 0 0, .bool false, .bool false, .bool false, .bool false, .bool false, .bool false, .bool false, .bool false, .int .i64 0, .int .i64 0] 77) = v3
    have BL3 := zh (al_below hv_ BL2.out)
    have G8_3 := zh (al_at hv_)
    have hs2 := BL2.out.size
    clear hv_
    refine hK.out _ _ (cells5 (blk_below B0.out BL3.out)) (fun hHeld => ?_)
    clear hK K
    refine zr 8 _ ?_
    refine zp 9 (fun K hK => ?_)
    obtain ⟨c0_, c1_, c2_, c3_, c4_, c5_, c6_, c7_, c8_, c9_, c10_, c11_, c12_, c13_, c14_, c15_⟩ := cells16 G8_3.out
    obtain ⟨d0_, d1_, d2_, d3_, d4_, d5_, d6_, d7_, d8_, d9_, d10_, d11_, d12_, d13_, d14_, d15_⟩ := froz16 G8_3.out
    refine skip_ (w1 := stZ v3 v2.heap.size) (by rfl) rfl ?hs3_ ?_
    (case hs3_ => unfold stZ st16; first | (go_simp; done) | (go_simp; rfl))
    clear c0_ d0_ c1_ d1_ c2_ d2_ c3_ d3_ c4_ d4_ c5_ d5_ c6_ d6_ c7_ d7_ c8_ d8_ c9_ d9_ c10_ d10_ c11_ d11_ c12_ d12_ c13_ d13_ c14_ d14_ c15_ d15_
    have hs3 := BL3.out.size
    generalize hv_ : stZ v3 v2.heap.size = v4
    have BL4 := zh (st_below hv_ BL3.out dQ5)
    have G8_4 := zh (st_set hv_ G8_3.out)
    clear hv_
    refine hK.out _ _ (cells5 (blk_below B0.out BL4.out)) (fun hHeld => ?_)
    clear hK K
    refine zu 10 ?_
    refine zd ?_
    go_wp2_with (fail)
    go_meet
    case rel => exact ⟨rfl, ⟨HBD.out.trans (BL4.out.mono HBD.out.size)⟩⟩
   ·refine value_ (v := .pointer (some ⟨v1.heap.size, 0, none⟩)) (w1 := v1.alloc (.cells #[.slice none 0 0, .slice none 0 0, .slice none 0 0, .int .i64 0, .int .i64 0, .slice none 0 0, .bool false, .bool false, .bool false, .bool false, .bool false, .bool false, .bool false, .bool false, .int .i64 0, .int .i64 0] 77)) (by rfl) rfl ?hr1 ?_
    (case hr1 => first | (go_simp; done) | (go_simp; rfl))
    generalize hv_ : v1.alloc (.cells #[.slice none 0 0, .slice none 0 0, .slice none 0 0, .int .i64 0, .int .i64 0, .slice none 0 0, .bool false, .bool false, .bool false, .bool false, .bool false, .bool false, .bool false, .bool false, .int .i64 0, .int .i64 0] 77) = v2
    have BL2 := zh (al_below hv_ BL1.out)
    have G8_2 := zh (al_at hv_)
    have hs1 := BL1.out.size
    clear hv_
    refine hK.out _ _ (cells5 (blk_below B0.out BL2.out)) (fun hHeld => ?_)
    clear hK K
    refine zr 8 _ ?_
    refine zo 4 (fun K hK => ?_)
    refine goes_ Tryd.func62 zk rfl #[.agg #[.slice A0 h.length c0, .slice A1 s.length c1, .slice A2 p.length c2, .int .i64 b0, .int .i64 b1], .bool (inK h.length key)] (by rfl) rfl rfl dQ1 ?_
    (with_reducible refine (HAS.out v2 BL2.out).mono ?_)
    rintro e v3 ⟨rfl, hb⟩
    refine ⟨_, rfl, ?_⟩
    have BL3 := zh (BL2.out.trans (hb.mono BL2.out.size))
    have G8_3 := zh (blk_below G8_2.out hb)
    have hs2_ := BL2.out.size
    have hga := blk_lt G8_2.out
    clear hb
    refine hK.out _ _ (cells5 (blk_below B0.out BL3.out)) (fun hHeld => ?_)
    clear hK K
    refine zr 17 _ ?_
    refine zu 5 ?_
    refine zu 6 ?_
    refine zu 7 ?_
    refine zp 9 (fun K hK => ?_)
    obtain ⟨c0_, c1_, c2_, c3_, c4_, c5_, c6_, c7_, c8_, c9_, c10_, c11_, c12_, c13_, c14_, c15_⟩ := cells16 G8_3.out
    obtain ⟨d0_, d1_, d2_, d3_, d4_, d5_, d6_, d7_, d8_, d9_, d10_, d11_, d12_, d13_, d14_, d15_⟩ := froz16 G8_3.out
    refine skip_ (w1 := stZ v3 v1.heap.size) (by rfl) rfl ?hs3_ ?_
    (case hs3_ => unfold stZ st16; first | (go_simp; done) | (go_simp; rfl))
    clear c0_ d0_ c1_ d1_ c2_ d2_ c3_ d3_ c4_ d4_ c5_ d5_ c6_ d6_ c7_ d7_ c8_ d8_ c9_ d9_ c10_ d10_ c11_ d11_ c12_ d12_ c13_ d13_ c14_ d14_ c15_ d15_
    have hs3 := BL3.out.size
    generalize hv_ : stZ v3 v1.heap.size = v4
    have BL4 := zh (st_below hv_ BL3.out dQ3)
    have G8_4 := zh (st_set hv_ G8_3.out)
    clear hv_
    refine hK.out _ _ (cells5 (blk_below B0.out BL4.out)) (fun hHeld => ?_)
    clear hK K
    refine zu 10 ?_
    refine zd ?_
    go_wp2_with (fail)
    go_meet
    case rel => exact ⟨rfl, ⟨HBD.out.trans (BL4.out.mono HBD.out.size)⟩⟩
  ·refine value_ (v := .pointer (some ⟨v0.heap.size, 0, none⟩)) (w1 := v0.alloc (.cells #[.slice none 0 0, .slice none 0 0, .slice none 0 0, .int .i64 0, .int .i64 0, .slice none 0 0, .bool false, .bool false, .bool false, .bool false, .bool false, .bool false, .bool false, .bool false, .int .i64 0, .int .i64 0] 77)) (by rfl) rfl ?hr0 ?_
   (case hr0 => first | (go_simp; done) | (go_simp; rfl))
   generalize hv_ : v0.alloc (.cells #[.slice none 0 0, .slice none 0 0, .slice none 0 0, .int .i64 0, .int .i64 0, .slice none 0 0, .bool false, .bool false, .bool false, .bool false, .bool false, .bool false, .bool false, .bool false, .int .i64 0, .int .i64 0] 77) = v1
   have BL1 := zh (al_below hv_ BL0.out)
   have G8_1 := zh (al_at hv_)
   have hs0 := BL0.out.size
   clear hv_
   refine hK.out _ _ (cells5 (blk_below B0.out BL1.out)) (fun hHeld => ?_)
   clear hK K
   refine zr 8 _ ?_
   refine zo 3 (fun K hK => ?_)
   refine goes_ Tryd.func65 zk rfl #[.agg #[.slice A0 h.length c0, .slice A1 s.length c1, .slice A2 p.length c2, .int .i64 b0, .int .i64 b1], .int .i64 key] (by rfl) rfl rfl dQ1 ?_
   (with_reducible refine (HIK3.out v1 BL1.out).mono ?_)
   rintro e v2 ⟨rfl, hb⟩
   refine ⟨_, rfl, ?_⟩
   have BL2 := zh (BL1.out.trans (hb.mono BL1.out.size))
   have G8_2 := zh (blk_below G8_1.out hb)
   clear hb
   refine hK.out _ _ (cells5 (blk_below B0.out BL2.out)) (fun hHeld => ?_)
   clear hK K
   refine zr 16 _ ?_
   refine zo 4 (fun K hK => ?_)
   refine goes_ Tryd.func62 zk rfl #[.agg #[.slice A0 h.length c0, .slice A1 s.length c1, .slice A2 p.length c2, .int .i64 b0, .int .i64 b1], .bool (inK h.length key)] (by rfl) rfl rfl dQ1 ?_
   (with_reducible refine (HAS.out v2 BL2.out).mono ?_)
   rintro e v3 ⟨rfl, hb⟩
   refine ⟨_, rfl, ?_⟩
   have BL3 := zh (BL2.out.trans (hb.mono BL2.out.size))
   have G8_3 := zh (blk_below G8_2.out hb)
   have hs2_ := BL2.out.size
   have hga := blk_lt G8_2.out
   clear hb
   refine hK.out _ _ (cells5 (blk_below B0.out BL3.out)) (fun hHeld => ?_)
   clear hK K
   refine zr 17 _ ?_
   refine zu 5 ?_
   refine zu 6 ?_
   refine zu 7 ?_
   refine zp 9 (fun K hK => ?_)
   obtain ⟨c0_, c1_, c2_, c3_, c4_, c5_, c6_, c7_, c8_, c9_, c10_, c11_, c12_, c13_, c14_, c15_⟩ := cells16 G8_3.out
   obtain ⟨d0_, d1_, d2_, d3_, d4_, d5_, d6_, d7_, d8_, d9_, d10_, d11_, d12_, d13_, d14_, d15_⟩ := froz16 G8_3.out
   refine skip_ (w1 := stZ v3 v0.heap.size) (by rfl) rfl ?hs3_ ?_
   (case hs3_ => unfold stZ st16; first | (go_simp; done) | (go_simp; rfl))
   clear c0_ d0_ c1_ d1_ c2_ d2_ c3_ d3_ c4_ d4_ c5_ d5_ c6_ d6_ c7_ d7_ c8_ d8_ c9_ d9_ c10_ d10_ c11_ d11_ c12_ d12_ c13_ d13_ c14_ d14_ c15_ d15_
   have hs3 := BL3.out.size
   generalize hv_ : stZ v3 v0.heap.size = v4
   have BL4 := zh (st_below hv_ BL3.out dQ4)
   have G8_4 := zh (st_set hv_ G8_3.out)
   clear hv_
   refine hK.out _ _ (cells5 (blk_below B0.out BL4.out)) (fun hHeld => ?_)
   clear hK K
   refine zu 10 ?_
   refine zd ?_
   go_wp2_with (fail)
   go_meet
   case rel => exact ⟨rfl, ⟨HBD.out.trans (BL4.out.mono HBD.out.size)⟩⟩
 case rest =>
  obtain ⟨rfl, HBc⟩ := hcut
  go_wp2
  go_ret2
  exact ⟨rfl, HBc.out⟩
set_option maxRecDepth 100000 in
set_option maxHeartbeats 8000000 in
theorem can25_good (A0 : Option Addr) (c0 : Nat) (h : List S26) (A1 : Option Addr) (c1 : Nat) (s : List S61) (A2 : Option Addr) (c2 : Nat) (p : List S48) (b0 b1 : Int) key q (w : World) (hsm : small h s p = true) (hG : Glob w)
  (h0 : Kd.C k26 w A0 h.length h) (hc0 : h.length ≤ c0) (h1 : Kd.C k61 w A1 s.length s) (hc1 : s.length ≤ c1) (h2 : Kd.C k48 w A2 p.length p) (hc2 : p.length ≤ c2) (hE : askedE h s p b0 b1 (inK h.length key) = 0) :
  Calls Tryd.prog 25 #[.agg #[.slice A0 h.length c0, .slice A1 s.length c1, .slice A2 p.length c2, .int .i64 b0, .int .i64 b1], .int .i64 key, .int .i64 q] w fun e w' => e = .returned (.tuple #[.bool (tunS h (jsOf h s p b0 b1) noLeft (b0, b1) [(key, q)]), .int .i64 0]) ∧ Below w.heap.size w w' := by
 have hu77 := Tryd.underlying77
 have hu80 := Tryd.underlying80
 have hu28 := Tryd.underlying28
 have hu26 := Tryd.underlying26
 have HB0 := zh (below_alloc (Below.refl w.heap.size w) (.cells #[.slice A0 h.length c0, .slice A1 s.length c1, .slice A2 p.length c2, .int .i64 b0, .int .i64 b1] 28))
 have B0 := zh (alloc_at w (.cells #[.slice A0 h.length c0, .slice A1 s.length c1, .slice A2 p.length c2, .int .i64 b0, .int .i64 b1] 28) w.heap.size rfl)
 have HGW := zh hG
 have D0 := zh h0
 have D1 := zh h1
 have D2 := zh h2
 have HSM := zh hsm
 clear h0 h1 h2 hG hsm
 obtain ⟨hck, hright, _⟩ := askedE_ok hE
 have HF := zh (fine_of hck).1
 obtain ⟨ad0, rfl⟩ : ∃ ad, A0 = some ad := by obtain ⟨ad, e, _⟩ := H_at D0.out 0 (by have := HF.out.some; omega); exact ⟨ad, e⟩
 have HTL := zh (tunL_spec HF.out noLeft (b0, b1) [(key, q)])
 obtain ⟨TL, hTL⟩ : ∃ TL, tunL h (jsOf h s p b0 b1) noLeft (b0, b1) [(key, q)] = TL := ⟨_, rfl⟩
 have HTC : Aside0 (∀ W A3 c3 m, Below w.heap.size w W → Kd.C k80 W A3 (jsOf h s p b0 b1).length ((jsOf h s p b0 b1).map ofJ) → MapIs E3 (Value.int .i64) W m [(key, q)] → Calls Tryd.prog 63 #[.agg #[.slice (some ad0) h.length c0, .slice A1 s.length c1, .slice A2 p.length c2, .int .i64 b0, .int .i64 b1, .slice A3 (jsOf h s p b0 b1).length c3, .bool false, .bool false, .bool false, .bool false, .bool false, .bool false, .bool false, .bool false, .int .i64 b0, .int .i64 b1], .map (some m)] W (TunPost h.length TL W)) := ⟨fun W A3 c3 m hW hj hm => by
  have h7 := tun_sem ad0 c0 h (.slice A1 s.length c1) (.slice A2 p.length c2) b0 b1 noLeft b0 b1 A3 c3 (jsOf h s p b0 b1) (some m) [(key, q)] W HF.out (Kd.C_below D0.out hW) hj (.inr ⟨m, rfl, hm⟩) (HGW.out.below hW)
  rw [hTL] at h7
  exact h7⟩
 rw [hTL] at HTL
 have hmm := @run_makeMap Tryd.prog
 go_enter Tryd.func25, Tryd.ntmps25
 go_upto_region 1 with (fail)
 obtain ⟨W1, hW1⟩ : ∃ W1, w.alloc (.cells #[.slice (some ad0) h.length c0, .slice A1 s.length c1, .slice A2 p.length c2, .int .i64 b0, .int .i64 b1] 28) = W1 := ⟨_, rfl⟩
 rw [hW1] at HB0 B0 ⊢
 clear hW1
 have HBD := zh (below_drew1 HB0.out)
 replace B0 := zh (show W1.drew.heap[w.heap.size]? = _ from B0.out)
 clear HB0
 have HAS : Aside0 (∀ W, Below W1.drew.heap.size W1.drew W → Calls Tryd.prog 62 #[.agg #[.slice (some ad0) h.length c0, .slice A1 s.length c1, .slice A2 p.length c2, .int .i64 b0, .int .i64 b1], .bool (inK h.length key)] W fun e w' => ∃ A3 c3, e = .returned (.tuple #[.agg #[.slice (some ad0) h.length c0, .slice A1 s.length c1, .slice A2 p.length c2, .int .i64 b0, .int .i64 b1, .slice A3 (jsOf h s p b0 b1).length c3, .bool false, .bool false, .bool false, .bool false, .bool false, .bool false, .bool false, .bool false, .int .i64 b0, .int .i64 b1], .int .i64 0]) ∧ Kd.F k80 w' (fun k => W.heap.size ≤ k) A3 (jsOf h s p b0 b1).length ((jsOf h s p b0 b1).map ofJ) ∧ Below W.heap.size W w') := ⟨fun W hW => asked_good (some ad0) c0 h A1 c1 s A2 c2 p b0 b1 (inK h.length key) W HSM.out (HGW.out.below (HBD.out.trans (hW.mono HBD.out.size))) (Kd.C_below (Kd.C_below D0.out HBD.out) hW) hc0 (Kd.C_below (Kd.C_below D1.out HBD.out) hW) hc1 (Kd.C_below (Kd.C_below D2.out HBD.out) hW) hc2 hE⟩
 have HIK3 : Aside0 (∀ W, Below W1.drew.heap.size W1.drew W → Calls Tryd.prog 65 #[.agg #[.slice (some ad0) h.length c0, .slice A1 s.length c1, .slice A2 p.length c2, .int .i64 b0, .int .i64 b1], .int .i64 key] W fun e w' => e = .returned (.bool (inK h.length key)) ∧ Below W.heap.size W w') := ⟨fun W hW => isKey_calls (some ad0) c0 h A1 c1 s A2 c2 p b0 b1 key W (small_h HSM.out) (Kd.C_below (Kd.C_below D0.out HBD.out) hW) hc0 (Kd.C_below (Kd.C_below D1.out HBD.out) hW) hc1 (Kd.C_below (Kd.C_below D2.out HBD.out) hW) hc2⟩
 clear hE hck hright hTL
 go_cut [8, 9] (fun u8 u9 wc => ∃ g A3 c3, u8 = .pointer (some ⟨g, 0, none⟩) ∧ u9 = .int .i64 0 ∧ Aside0 (wc.heap[g]? = some (.cells #[.slice (some ad0) h.length c0, .slice A1 s.length c1, .slice A2 p.length c2, .int .i64 b0, .int .i64 b1, .slice A3 (jsOf h s p b0 b1).length c3, .bool false, .bool false, .bool false, .bool false, .bool false, .bool false, .bool false, .bool false, .int .i64 b0, .int .i64 b1] 77 (0, 0))) ∧ Aside0 (Kd.C k80 wc A3 (jsOf h s p b0 b1).length ((jsOf h s p b0 b1).map ofJ)) ∧ Aside0 (Below w.heap.size w wc))
 case first =>
  have BL0 := zh (Below.refl W1.drew.heap.size W1.drew)
  refine start_ (n := 11) (S := fun w' => w'.cell? ⟨w.heap.size, 0, none⟩ = some (.slice (some ad0) h.length c0) ∧ w'.cell? ⟨w.heap.size, 1, none⟩ = some (.slice A1 s.length c1) ∧ w'.cell? ⟨w.heap.size, 2, none⟩ = some (.slice A2 p.length c2) ∧ w'.cell? ⟨w.heap.size, 3, none⟩ = some (.int .i64 b0) ∧ w'.cell? ⟨w.heap.size, 4, none⟩ = some (.int .i64 b1)) (ds := []) (Array.replicate 11 false) zk rfl rfl ⟨(blk_cell (blk_below B0.out BL0.out) 0).trans rfl, (blk_cell (blk_below B0.out BL0.out) 1).trans rfl, (blk_cell (blk_below B0.out BL0.out) 2).trans rfl, (blk_cell (blk_below B0.out BL0.out) 3).trans rfl, (blk_cell (blk_below B0.out BL0.out) 4).trans rfl⟩ (fun hHeld => ?_)
  refine with_tabW fCan25.tab1 fCan25.bits1 (fun HT_ HW_ => ?_)
  generalize W1.drew = v0 at B0 HBD HAS HIK3 BL0 hHeld ⊢
  refine zu 2 ?_
  refine zt 0 ?_
  refine zt 1 ?_
  refine two_ (i := 3) (j := 8) (Ni := some 16) (Nj := some 8) #[true, true, true, true, false, false, false, false, false, false, false] #[true, true, true, false, false, false, false, false, true, false, false] rfl rfl rfl rfl (two_of HT_.out zk) (by decide) (by decide) (fun K hK => ?_) (fun K hK => ?_)
  ·refine goes_ Tryd.func65 zk rfl #[.agg #[.slice (some ad0) h.length c0, .slice A1 s.length c1, .slice A2 p.length c2, .int .i64 b0, .int .i64 b1], .int .i64 key] (by rfl) rfl rfl dQ1 ?_
   (with_reducible refine (HIK3.out v0 BL0.out).mono ?_)
   rintro e v1 ⟨rfl, hb⟩
   refine ⟨_, rfl, ?_⟩
   have BL1 := zh (BL0.out.trans (hb.mono BL0.out.size))
   clear hb
   refine hK.out _ _ (cells5 (blk_below B0.out BL1.out)) (fun hHeld => ?_)
   clear hK K
   refine zr 16 _ ?_
   refine two_ (i := 4) (j := 8) (Ni := some 17) (Nj := some 8) #[true, true, true, true, true, false, false, false, false, false, false] #[true, true, true, true, false, false, false, false, true, false, false] rfl rfl rfl rfl (two_of HT_.out zk) (by decide) (by decide) (fun K hK => ?_) (fun K hK => ?_)
   ·refine goes_ Tryd.func62 zk rfl #[.agg #[.slice (some ad0) h.length c0, .slice A1 s.length c1, .slice A2 p.length c2, .int .i64 b0, .int .i64 b1], .bool (inK h.length key)] (by rfl) rfl rfl dQ1 ?_
    (with_reducible refine (HAS.out v1 BL1.out).mono ?_)
    rintro e v2 ⟨A3, c3, rfl, hF, hb⟩
    refine ⟨_, rfl, ?_⟩
    have BL2 := zh (BL1.out.trans (hb.mono BL1.out.size))
    have hs1_ := BL1.out.size
    have HF2 := zh (Kd.F_bound hF)
    clear hF hb
    refine hK.out _ _ (cells5 (blk_below B0.out BL2.out)) (fun hHeld => ?_)
    clear hK K
    refine zr 17 _ ?_
    refine zu 5 ?_
    refine zu 6 ?_
    refine zu 7 ?_
    refine zo 8 (fun K hK => ?_)
    refine value_ (v := .pointer (some ⟨v2.heap.size, 0, none⟩)) (w1 := v2.alloc (.cells #[.slice none 0 0, .slice none 0 0, .slice none 0 0, .int .i64 0, .int .i64 0, .slice none 0 0, .bool false, .bool false, .bool false, .bool false, .bool false, .bool false, .bool false, .bool false, .int .i64 0, .int .i64 0] 77)) (by rfl) rfl ?hr2 ?_
    (case hr2 => first | (go_simp; done) | (go_simp; rfl))
    generalize hv_ : v2.alloc (.cells #[.slice none 0 0, .slice none 0 0, .slice none 0 0, .int .i64 0, .int .i64 0, .slice none 0 0, .bool false, .bool false, .bool false, .bool false, .bool false, .bool false, .bool false, .bool false, .int .i64 0, .int .i64 0] 77) = v3
    have BL3 := zh (al_below hv_ BL2.out)
    have G8_3 := zh (al_at hv_)
    have hs2 := BL2.out.size
    have HF3 := zh (al_F hv_ HF2.out)
    clear hv_
    refine hK.out _ _ (cells5 (blk_below B0.out BL3.out)) (fun hHeld => ?_)
    clear hK K
    refine zr 8 _ ?_
    refine zp 9 (fun K hK => ?_)
    obtain ⟨c0_, c1_, c2_, c3_, c4_, c5_, c6_, c7_, c8_, c9_, c10_, c11_, c12_, c13_, c14_, c15_⟩ := cells16 G8_3.out
    obtain ⟨d0_, d1_, d2_, d3_, d4_, d5_, d6_, d7_, d8_, d9_, d10_, d11_, d12_, d13_, d14_, d15_⟩ := froz16 G8_3.out
    refine skip_ (w1 := stS v3 v2.heap.size (some ad0) h.length c0 A1 s.length c1 A2 p.length c2 b0 b1 A3 (jsOf h s p b0 b1).length c3) (by rfl) rfl ?hs3_ ?_
    (case hs3_ => unfold stS st16; first | (go_simp; done) | (go_simp; rfl))
    clear c0_ d0_ c1_ d1_ c2_ d2_ c3_ d3_ c4_ d4_ c5_ d5_ c6_ d6_ c7_ d7_ c8_ d8_ c9_ d9_ c10_ d10_ c11_ d11_ c12_ d12_ c13_ d13_ c14_ d14_ c15_ d15_
    have hs3 := BL3.out.size
    generalize hv_ : stS v3 v2.heap.size (some ad0) h.length c0 A1 s.length c1 A2 p.length c2 b0 b1 A3 (jsOf h s p b0 b1).length c3 = v4
    have BL4 := zh (st_below hv_ BL3.out dQ5)
    have G8_4 := zh (st_set hv_ G8_3.out)
    have HF4 := zh (st_F hv_ HF3.out (fun k_ hk_ => by show k_ ≠ v2.heap.size; have h1_ := hk_.1; have h2_ := hk_.2; omega))
    clear hv_
    refine hK.out _ _ (cells5 (blk_below B0.out BL4.out)) (fun hHeld => ?_)
    clear hK K
    refine zu 10 ?_
    refine zd ?_
    go_wp2_with (fail)
    go_meet
    case rel => exact ⟨_, A3, c3, rfl, rfl, G8_4, ⟨Kd.F_now HF4.out⟩, ⟨HBD.out.trans (BL4.out.mono HBD.out.size)⟩⟩
   ·refine value_ (v := .pointer (some ⟨v1.heap.size, 0, none⟩)) (w1 := v1.alloc (.cells #[.slice none 0 0, .slice none 0 0, .slice none 0 0, .int .i64 0, .int .i64 0, .slice none 0 0, .bool false, .bool false, .bool false, .bool false, .bool false, .bool false, .bool false, .bool false, .int .i64 0, .int .i64 0] 77)) (by rfl) rfl ?hr1 ?_
    (case hr1 => first | (go_simp; done) | (go_simp; rfl))
    generalize hv_ : v1.alloc (.cells #[.slice none 0 0, .slice none 0 0, .slice none 0 0, .int .i64 0, .int .i64 0, .slice none 0 0, .bool false, .bool false, .bool false, .bool false, .bool false, .bool false, .bool false, .bool false, .int .i64 0, .int .i64 0] 77) = v2
    have BL2 := zh (al_below hv_ BL1.out)
    have G8_2 := zh (al_at hv_)
    have hs1 := BL1.out.size
    clear hv_
    refine hK.out _ _ (cells5 (blk_below B0.out BL2.out)) (fun hHeld => ?_)
    clear hK K
    refine zr 8 _ ?_
    refine zo 4 (fun K hK => ?_)
    refine goes_ Tryd.func62 zk rfl #[.agg #[.slice (some ad0) h.length c0, .slice A1 s.length c1, .slice A2 p.length c2, .int .i64 b0, .int .i64 b1], .bool (inK h.length key)] (by rfl) rfl rfl dQ1 ?_
    (with_reducible refine (HAS.out v2 BL2.out).mono ?_)
    rintro e v3 ⟨A3, c3, rfl, hF, hb⟩
    refine ⟨_, rfl, ?_⟩
    have BL3 := zh (BL2.out.trans (hb.mono BL2.out.size))
    have G8_3 := zh (blk_below G8_2.out hb)
    have hs2_ := BL2.out.size
    have hga := blk_lt G8_2.out
    have HF3 := zh (Kd.F_bound hF)
    clear hF hb
    refine hK.out _ _ (cells5 (blk_below B0.out BL3.out)) (fun hHeld => ?_)
    clear hK K
    refine zr 17 _ ?_
    refine zu 5 ?_
    refine zu 6 ?_
    refine zu 7 ?_
    refine zp 9 (fun K hK => ?_)
    obtain ⟨c0_, c1_, c2_, c3_, c4_, c5_, c6_, c7_, c8_, c9_, c10_, c11_, c12_, c13_, c14_, c15_⟩ := cells16 G8_3.out
    obtain ⟨d0_, d1_, d2_, d3_, d4_, d5_, d6_, d7_, d8_, d9_, d10_, d11_, d12_, d13_, d14_, d15_⟩ := froz16 G8_3.out
    refine skip_ (w1 := stS v3 v1.heap.size (some ad0) h.length c0 A1 s.length c1 A2 p.length c2 b0 b1 A3 (jsOf h s p b0 b1).length c3) (by rfl) rfl ?hs3_ ?_
    (case hs3_ => unfold stS st16; first | (go_simp; done) | (go_simp; rfl))
    clear c0_ d0_ c1_ d1_ c2_ d2_ c3_ d3_ c4_ d4_ c5_ d5_ c6_ d6_ c7_ d7_ c8_ d8_ c9_ d9_ c10_ d10_ c11_ d11_ c12_ d12_ c13_ d13_ c14_ d14_ c15_ d15_
    have hs3 := BL3.out.size
    generalize hv_ : stS v3 v1.heap.size (some ad0) h.length c0 A1 s.length c1 A2 p.length c2 b0 b1 A3 (jsOf h s p b0 b1).length c3 = v4
    have BL4 := zh (st_below hv_ BL3.out dQ3)
    have G8_4 := zh (st_set hv_ G8_3.out)
    have HF4 := zh (st_F hv_ HF3.out (fun k_ hk_ => by show k_ ≠ v1.heap.size; have h1_ := hk_.1; have h2_ := hk_.2; omega))
    clear hv_
    refine hK.out _ _ (cells5 (blk_below B0.out BL4.out)) (fun hHeld => ?_)
    clear hK K
    refine zu 10 ?_
    refine zd ?_
    go_wp2_with (fail)
    go_meet
    case rel => exact ⟨_, A3, c3, rfl, rfl, G8_4, ⟨Kd.F_now HF4.out⟩, ⟨HBD.out.trans (BL4.out.mono HBD.out.size)⟩⟩
  ·refine value_ (v := .pointer (some ⟨v0.heap.size, 0, none⟩)) (w1 := v0.alloc (.cells #[.slice none 0 0, .slice none 0 0, .slice none 0 0, .int .i64 0, .int .i64 0, .slice none 0 0, .bool false, .bool false, .bool false, .bool false, .bool false, .bool false, .bool false, .bool false, .int .i64 0, .int .i64 0] 77)) (by rfl) rfl ?hr0 ?_
   (case hr0 => first | (go_simp; done) | (go_simp; rfl))
   generalize hv_ : v0.alloc (.cells #[.slice none 0 0, .slice none 0 0, .slice none 0 0, .int .i64 0, .int .i64 0, .slice none 0 0, .bool false, .bool false, .bool false, .bool false, .bool false, .bool false, .bool false, .bool false, .int .i64 0, .int .i64 0] 77) = v1
   have BL1 := zh (al_below hv_ BL0.out)
   have G8_1 := zh (al_at hv_)
   have hs0 := BL0.out.size
   clear hv_
   refine hK.out _ _ (cells5 (blk_below B0.out BL1.out)) (fun hHeld => ?_)
   clear hK K
   refine zr 8 _ ?_
   refine zo 3 (fun K hK => ?_)
   refine goes_ Tryd.func65 zk rfl #[.agg #[.slice (some ad0) h.length c0, .slice A1 s.length c1, .slice A2 p.length c2, .int .i64 b0, .int .i64 b1], .int .i64 key] (by rfl) rfl rfl dQ1 ?_
   (with_reducible refine (HIK3.out v1 BL1.out).mono ?_)
   rintro e v2 ⟨rfl, hb⟩
   refine ⟨_, rfl, ?_⟩
   have BL2 := zh (BL1.out.trans (hb.mono BL1.out.size))
   have G8_2 := zh (blk_below G8_1.out hb)
   clear hb
   refine hK.out _ _ (cells5 (blk_below B0.out BL2.out)) (fun hHeld => ?_)
   clear hK K
   refine zr 16 _ ?_
   refine zo 4 (fun K hK => ?_)
   refine goes_ Tryd.func62 zk rfl #[.agg #[.slice (some ad0) h.length c0, .slice A1 s.length c1, .slice A2 p.length c2, .int .i64 b0, .int .i64 b1], .bool (inK h.length key)] (by rfl) rfl rfl dQ1 ?_
   (with_reducible refine (HAS.out v2 BL2.out).mono ?_)
   rintro e v3 ⟨A3, c3, rfl, hF, hb⟩
   refine ⟨_, rfl, ?_⟩
   have BL3 := zh (BL2.out.trans (hb.mono BL2.out.size))
   have G8_3 := zh (blk_below G8_2.out hb)
   have hs2_ := BL2.out.size
   have hga := blk_lt G8_2.out
   have HF3 := zh (Kd.F_bound hF)
   clear hF hb
   refine hK.out _ _ (cells5 (blk_below B0.out BL3.out)) (fun hHeld => ?_)
   clear hK K
   refine zr 17 _ ?_
   refine zu 5 ?_
   refine zu 6 ?_
   refine zu 7 ?_
   refine zp 9 (fun K hK => ?_)
   obtain ⟨c0_, c1_, c2_, c3_, c4_, c5_, c6_, c7_, c8_, c9_, c10_, c11_, c12_, c13_, c14_, c15_⟩ := cells16 G8_3.out
   obtain ⟨d0_, d1_, d2_, d3_, d4_, d5_, d6_, d7_, d8_, d9_, d10_, d11_, d12_, d13_, d14_, d15_⟩ := froz16 G8_3.out
   refine skip_ (w1 := stS v3 v0.heap.size (some ad0) h.length c0 A1 s.length c1 A2 p.length c2 b0 b1 A3 (jsOf h s p b0 b1).length c3) (by rfl) rfl ?hs3_ ?_
   (case hs3_ => unfold stS st16; first | (go_simp; done) | (go_simp; rfl))
   clear c0_ d0_ c1_ d1_ c2_ d2_ c3_ d3_ c4_ d4_ c5_ d5_ c6_ d6_ c7_ d7_ c8_ d8_ c9_ d9_ c10_ d10_ c11_ d11_ c12_ d12_ c13_ d13_ c14_ d14_ c15_ d15_
   have hs3 := BL3.out.size
   generalize hv_ : stS v3 v0.heap.size (some ad0) h.length c0 A1 s.length c1 A2 p.length c2 b0 b1 A3 (jsOf h s p b0 b1).length c3 = v4
   have BL4 := zh (st_below hv_ BL3.out dQ4)
   have G8_4 := zh (st_set hv_ G8_3.out)
   have HF4 := zh (st_F hv_ HF3.out (fun k_ hk_ => by show k_ ≠ v0.heap.size; have h1_ := hk_.1; have h2_ := hk_.2; omega))
   clear hv_
   refine hK.out _ _ (cells5 (blk_below B0.out BL4.out)) (fun hHeld => ?_)
   clear hK K
   refine zu 10 ?_
   refine zd ?_
   go_wp2_with (fail)
   go_meet
   case rel => exact ⟨_, A3, c3, rfl, rfl, G8_4, ⟨Kd.F_now HF4.out⟩, ⟨HBD.out.trans (BL4.out.mono HBD.out.size)⟩⟩
 case rest =>
  obtain ⟨g, A3, c3, rfl, rfl, GX, HC3, HBc⟩ := hcut
  obtain ⟨x0, x1, x2, x3, x4, x5, x6, x7, x8, x9, x10, x11, x12, x13, x14, x15⟩ := cells16 GX.out
  have HM0 : Aside0 (MapIs E3 (Value.int .i64) (wc.alloc (.map #[] 0)) wc.heap.size []) := ⟨MapIs.new wc⟩
  have HBm := zh (below_alloc HBc.out (.map #[] 0))
  cases TL with
  | none =>
   have HV := zh (HTL.out.1 rfl)
   go_wp2_with (first | ((with_reducible refine wpList_insert E3 (Value.int .i64) rfl (.tmp 25) (.tmp 26) (.tmp 27) rfl Tryd.underlying99 rfl HM0.out key q rfl rfl ?_); intro w9 hm9 hg9; have HM9 := zh hm9; have HB9 := zh (HBm.out.grown hg9 HBm.out.size (fun k hk => by injection hk with hk; subst hk; exact HBc.out.size)); have HC9 := zh (Kd.C_below HC3.out ((below_alloc (Below.refl wc.heap.size wc) (.map #[] 0)).grown hg9 (by simp) (fun k hk => by injection hk with hk; subst hk; exact Nat.le_refl _))); clear hm9 hg9) | (go_at_call 63; refine (HTC.out _ A3 c3 _ HB9.out HC9.out HM9.out).mono ?_; rintro e w2 ⟨ht, _, hb⟩; obtain rfl := ht rfl; have HB2 := zh (HB9.out.trans (hb.mono HB9.out.size)); clear hb ht))
   go_ret2
   exact ⟨by rw [HV.out]; rfl, HB2.out⟩
  | some l =>
   have HV := zh (HTL.out.2 l rfl).1
   go_wp2_with (first | ((with_reducible refine wpList_insert E3 (Value.int .i64) rfl (.tmp 25) (.tmp 26) (.tmp 27) rfl Tryd.underlying99 rfl HM0.out key q rfl rfl ?_); intro w9 hm9 hg9; have HM9 := zh hm9; have HB9 := zh (HBm.out.grown hg9 HBm.out.size (fun k hk => by injection hk with hk; subst hk; exact HBc.out.size)); have HC9 := zh (Kd.C_below HC3.out ((below_alloc (Below.refl wc.heap.size wc) (.map #[] 0)).grown hg9 (by simp) (fun k hk => by injection hk with hk; subst hk; exact Nat.le_refl _))); clear hm9 hg9) | (go_at_call 63; refine (HTC.out _ A3 c3 _ HB9.out HC9.out HM9.out).mono ?_; rintro e w2 ⟨_, ht, hb⟩; obtain ⟨g9, rfl, _, _, _⟩ := ht l rfl; have HB2 := zh (HB9.out.trans (hb.mono HB9.out.size)); clear hb ht))
   go_ret2
   exact ⟨by rw [HV.out]; rfl, HB2.out⟩
end Go.Proofs.YtgehkojccmkggaaDoor.K
end
section
namespace Go.Proofs.YtgehkojccmkggaaDoor.K
open Go.RowKit Go.Shelf Go.Proofs.YtgehkojccmkggaaDoorW.PrintWords Go.Proofs.YtgehkojccmkggaaDoorW.PrintLast Go.Proofs.YtgehkojccmkggaaDoorW.PrintMore Go.Proofs.YtgehkojccmkggaaDoor.H Tune
set_option linter.unusedVariables false
set_option linter.unusedSimpArgs false
attribute [local go_sem] Oper.semAt_some
set_option maxRecDepth 100000 in
set_option maxHeartbeats 4000000 in
theorem low_calls (a b : Int) (w : World) : Calls Tryd.prog 87 #[.agg #[.int .i64 a, .int .i64 b]] w fun e w' => e = .returned (.int .i64 a) ∧ Below w.heap.size w w' := by
 have hu26 := Tryd.underlying26
 go_enter Tryd.func87, Tryd.ntmps87
 go_wp2
 go_ret
 exact ⟨rfl, by repeat (first | exact Below.refl _ _ | apply below_alloc)⟩
set_option maxRecDepth 100000 in
set_option maxHeartbeats 4000000 in
theorem high_calls (a b : Int) (w : World) : Calls Tryd.prog 88 #[.agg #[.int .i64 a, .int .i64 b]] w fun e w' => e = .returned (.int .i64 b) ∧ Below w.heap.size w w' := by
 have hu26 := Tryd.underlying26
 go_enter Tryd.func88, Tryd.ntmps88
 go_wp2
 go_ret
 exact ⟨rfl, by repeat (first | exact Below.refl _ _ | apply below_alloc)⟩
set_option maxRecDepth 100000 in
set_option maxHeartbeats 4000000 in
theorem ends_calls (w : World) : Calls Tryd.prog 84 #[] w fun e w' => e = .returned (.tuple #[.agg #[.func (.func 87) #[] #[]], .agg #[.func (.func 88) #[] #[]]]) ∧ Below w.heap.size w w' := by
 have hu121 := Tryd.underlying121
 have hst1 := fun (W' : World) (a : Addr) (mo : Mode) => run_store Tryd.prog W' a (.func (.func 87) #[] #[]) mo rfl
 have hst2 := fun (W' : World) (a : Addr) (mo : Mode) => run_store Tryd.prog W' a (.func (.func 88) #[] #[]) mo rfl
 go_enter Tryd.func84, Tryd.ntmps84
 go_wp2
 have G0 := blk_alloc (alloc_at w (.cells #[.func (.func 87) #[] #[]] 121) w.heap.size rfl) (.cells #[.func (.func 88) #[] #[]] 121)
 have G1 := alloc_at (w.alloc (.cells #[.func (.func 87) #[] #[]] 121)) (.cells #[.func (.func 88) #[] #[]] 121) (w.heap.size + 1) (by simp)
 exact bodyPost_ret (results_cc rfl _ _ w.heap.size (w.heap.size + 1) 121 121 #[.func (.func 87) #[] #[]] #[.func (.func 88) #[] #[]] (0, 0) (0, 0) _ _ rfl G0 Tryd.underlying121 rfl zk rfl G1 Tryd.underlying121 rfl zk) rfl ⟨rfl, below_alloc (below_alloc (Below.refl _ _) _) _⟩
theorem goesD_ {P : Program} {ops : Array Oper} {Q : Exit → Act → World → Prop} {oi : Oper} {N : Option Tmp} {a : Act} {w : World} {K : Act → World → Prop} {f : FuncId} {fn : Func} {c : Operand} {xs : Array Operand} {ts : Array TypeId} (hf : P.funcs[f]? = some fn) (hname : (fn.name == "runtime.NumGoroutine") = false) (hb : fn.body.isSome = true) (args : Array Value)
  (hw : Region.wanted oi (yielded ops a.tmps) = true) (hN : oi.dst = N) (hop : oi.op = .call { callee := .value c, args := xs, argTypes := ts }) (hc : a.eval c = .func (.func f) #[] #[]) (hargs : xs.map a.eval = args)
  (h : Calls P f args w fun e w' => ∃ v, e = .returned v ∧ K (a.put N v) w') : if Region.wanted oi (yielded ops a.tmps) = true then Oper.wp P oi a w K Q else K (a.put N undef) w := by
 refine call_ f args hw hN ?_ h
 have he := enters_ hf hname hb args w
 unfold execOp
 simp [hop, resolve, Deferred.ofValue, invoke, hc, hargs, he]
def pitL (h : List S26) (js : List J) (b : Int × Int) (key : Nat) : List Int := (irange (loH h key) (hiH h key)).filter fun q => tunS h js noLeft b [((key : Int), q)]
theorem filter_snoc (P : Int → Bool) (lo q : Int) (hq : lo ≤ q) : (irange lo q).filter P = (irange lo (q - 1)).filter P ++ (if P q = true then [q] else []) := by
 have h := irange_snoc (lo := lo) (hi := q - 1) (by omega)
 rw [show q - 1 + 1 = q by omega] at h
 rw [h, List.filter_append]
 congr 1
 by_cases hp : P q = true
 ·rw [if_pos hp]; simp [hp]
 ·rw [if_neg hp]; simp [hp]
theorem irange_length (lo hi : Int) : (irange lo hi).length = (hi + 1 - lo).toNat := by unfold irange; simp
def fPit.T4 : Bool × List (List Nat × List Nat) := (true, [([], []), ([], []), ([1], [1]), ([], []), ([3], [3]), ([4], [4]), ([], []), ([5, 6], [5, 6]), ([7], [7]), ([2, 8], [2, 8]), ([0, 9], [0, 9])])
def fPit.B4 : List Nat := [0, 0, 2, 0, 8, 24, 0, 120, 248, 510, 1023]
theorem fPit.tab4 : rtab .any (opsOf Tryd.f66 4) = fPit.T4 := by kernel_rfl
theorem fPit.bits4 : waitsOk fPit.T4.2 fPit.B4 = true := by kernel_rfl
set_option maxRecDepth 100000 in
set_option maxHeartbeats 8000000 in
theorem pitches_calls (ad0 : Addr) (c0 : Nat) (h : List S26) (A1 : Option Addr) (c1 : Nat) (s : List S61) (A2 : Option Addr) (c2 : Nat) (p : List S48) (b0 b1 : Int) (A3 : Option Addr) (c3 : Nat) (js : List J) (key : Nat) (W : World) (F : Fine h js) (hk : key < h.length)
  (hH : Kd.C k26 W (some ad0) h.length h) (hA : Kd.C k80 W A3 js.length (js.map ofJ)) (hG : Glob W) :
  Calls Tryd.prog 66 #[.agg #[.slice (some ad0) h.length c0, .slice A1 s.length c1, .slice A2 p.length c2, .int .i64 b0, .int .i64 b1, .slice A3 js.length c3, .bool false, .bool false, .bool false, .bool false, .bool false, .bool false, .bool false, .bool false, .int .i64 b0, .int .i64 b1], .int .i64 (key : Int)] W fun e w' => ∃ v, e = .returned v ∧ Kd.R (Kd.int .i64) 3 w' W.heap.size (fun _ => True) v (pitL h js (b0, b1) key) ∧ Below W.heap.size W w' := by
 have hu77 := Tryd.underlying77
 have hu80 := Tryd.underlying80
 have hu28 := Tryd.underlying28
 have hu26 := Tryd.underlying26
 have hu121 := Tryd.underlying121
 have hmm := @run_makeMap Tryd.prog
 have hst1 := fun (W' : World) (a : Addr) (mo : Mode) => run_store Tryd.prog W' a (.func (.func 87) #[] #[]) mo rfl
 have hst2 := fun (W' : World) (a : Addr) (mo : Mode) => run_store Tryd.prog W' a (.func (.func 88) #[] #[]) mo rfl
 have HB0 := zh (below_alloc (Below.refl W.heap.size W) (.cells #[.slice (some ad0) h.length c0, .slice A1 s.length c1, .slice A2 p.length c2, .int .i64 b0, .int .i64 b1, .slice A3 js.length c3, .bool false, .bool false, .bool false, .bool false, .bool false, .bool false, .bool false, .bool false, .int .i64 b0, .int .i64 b1] 77))
 have X0 := zh (alloc_at W (.cells #[.slice (some ad0) h.length c0, .slice A1 s.length c1, .slice A2 p.length c2, .int .i64 b0, .int .i64 b1, .slice A3 js.length c3, .bool false, .bool false, .bool false, .bool false, .bool false, .bool false, .bool false, .bool false, .int .i64 b0, .int .i64 b1] 77) W.heap.size rfl)
 have D0 := zh hH
 have DA := zh hA
 have HGW := zh hG
 have HF := zh F
 have hkl : (key : Int) < (h.length : Int) := by omega
 obtain ⟨sp1, sp2, sp3, sp4⟩ := F.span key hk
 obtain ⟨lo, hlo⟩ : ∃ x, loH h key = x := ⟨_, rfl⟩
 obtain ⟨hi, hhi⟩ : ∃ x, hiH h key = x := ⟨_, rfl⟩
 have HPL : Aside0 (pitL h js (b0, b1) key = (irange lo hi).filter fun q => tunS h js noLeft (b0, b1) [((key : Int), q)]) := ⟨by unfold pitL; rw [hlo, hhi]⟩
 have HAC : Aside0 (∀ W', Below W.heap.size W W' → W'.cell? (ad0.add (key * 2)) = some (.int .i64 lo) ∧ W'.cell? ⟨(ad0.add (key * 2)).block, (ad0.add (key * 2)).off + 1, none⟩ = some (.int .i64 hi)) := ⟨fun W' hW => by
  obtain ⟨ad_, he_, g0, g1⟩ := H_at (Kd.C_below hH hW) key hk
  injection he_ with he_
  subst he_
  rw [hlo] at g0
  rw [hhi] at g1
  exact ⟨g0, g1⟩⟩
 rw [hlo] at sp1 sp3 sp4
 rw [hhi] at sp2 sp3 sp4
 have HTC : Aside0 (∀ q W' m, Below W.heap.size W W' → MapIs E3 (Value.int .i64) W' m [((key : Int), q)] → Calls Tryd.prog 63 #[.agg #[.slice (some ad0) h.length c0, .slice A1 s.length c1, .slice A2 p.length c2, .int .i64 b0, .int .i64 b1, .slice A3 js.length c3, .bool false, .bool false, .bool false, .bool false, .bool false, .bool false, .bool false, .bool false, .int .i64 b0, .int .i64 b1], .map (some m)] W' (TunPost h.length (tunL h js noLeft (b0, b1) [((key : Int), q)]) W')) := ⟨fun q W' m hW hm =>
  tun_sem ad0 c0 h (.slice A1 s.length c1) (.slice A2 p.length c2) b0 b1 noLeft b0 b1 A3 c3 js (some m) [((key : Int), q)] W' F (Kd.C_below hH hW) (Kd.C_below hA hW) (.inr ⟨m, rfl, hm⟩) (hG.below hW)⟩
 clear hH hA hG F hlo hhi
 go_enter Tryd.func66, Tryd.ntmps66
 go_wp2_with (go_at_call 84; (with_reducible refine (ends_calls _).mono ?_); rintro e w1 ⟨rfl, hb⟩; have X1 := zh (blk_below X0.out hb); have HB1 := zh (HB0.out.trans (hb.mono HB0.out.size)); clear hb)
 have GL0 : Aside0 (((w1.alloc (.cells #[.func (.func 87) #[] #[]] 121)).alloc (.cells #[.func (.func 88) #[] #[]] 121)).heap[w1.heap.size]? = some (.cells #[.func (.func 87) #[] #[]] 121 (0, 0))) := ⟨blk_alloc (alloc_at w1 _ w1.heap.size rfl) _⟩
 have GH0 : Aside0 (((w1.alloc (.cells #[.func (.func 87) #[] #[]] 121)).alloc (.cells #[.func (.func 88) #[] #[]] 121)).heap[w1.heap.size + 1]? = some (.cells #[.func (.func 88) #[] #[]] 121 (0, 0))) := ⟨alloc_at _ _ _ (by simp)⟩
 have X2 := zh (blk_alloc (blk_alloc X1.out (.cells #[.func (.func 87) #[] #[]] 121)) (.cells #[.func (.func 88) #[] #[]] 121))
 have HB2 := zh (below_alloc (below_alloc HB1.out (.cells #[.func (.func 87) #[] #[]] 121)) (.cells #[.func (.func 88) #[] #[]] 121))
 obtain ⟨W1, hW1⟩ : ∃ W1, (w1.alloc (.cells #[.func (.func 87) #[] #[]] 121)).alloc (.cells #[.func (.func 88) #[] #[]] 121) = W1 := ⟨_, rfl⟩
 simp only [hW1] at GL0 GH0 X2 HB2 ⊢
 obtain ⟨gh, hgh⟩ : ∃ g, w1.heap.size + 1 = g := ⟨_, rfl⟩
 simp only [hgh] at GH0 ⊢
 obtain ⟨gl, hgl⟩ : ∃ g, w1.heap.size = g := ⟨_, rfl⟩
 simp only [hgl] at GL0 ⊢
 clear hW1 hgh hgl X1 HB1
 obtain ⟨P, hP⟩ : ∃ P : Int → Bool, (fun q => tunS h js noLeft (b0, b1) [((key : Int), q)]) = P := ⟨_, rfl⟩
 have HPQ : Aside0 (∀ q, P q = (tunL h js noLeft (b0, b1) [((key : Int), q)]).isSome) := ⟨fun q => by rw [← hP, tunL_some HF.out]⟩
 rw [hP] at HPL
 clear hP
 replace GL0 := zh (show W1.drew.heap[gl]? = _ from GL0.out)
 replace GH0 := zh (show W1.drew.heap[gh]? = _ from GH0.out)
 replace X2 := zh (show W1.drew.heap[W.heap.size]? = _ from X2.out)
 replace HB2 := zh (below_drew1 HB2.out)
 refine wp_region_still_tail 8 zk zk ?_
 simp only [List.take_succ_cons, List.take_zero, List.drop_succ_cons, List.drop_zero]
 change wpStill Tryd.prog _ W1.drew _ _ _
 obtain ⟨W2, hW2⟩ : ∃ W2, W1.drew = W2 := ⟨_, rfl⟩
 rw [hW2] at GL0 GH0 X2 HB2 ⊢
 have HW2 := zh hW2
 clear hW2
 obtain ⟨g0, g1⟩ := HAC.out W2 HB2.out
 have l0 : W2.cell? ⟨gl, 0, none⟩ = some (.func (.func 87) #[] #[]) := vb GL0 0
 have x0 : W2.cell? ⟨W.heap.size, 0, none⟩ = some (.slice (some ad0) h.length c0) := vb X2 0
 repeat still_step
 refine wpStill_nil ?_
 change wpList _ _ _ _ _ W1.drew
 rw [HW2.out]
 clear HW2 GL0
 go_wp2_with (go_at_call 87; (with_reducible refine (low_calls lo hi _).mono ?_); rintro e w3 ⟨rfl, hb⟩; have GH3 := zh (blk_below GH0.out hb); have X3 := zh (blk_below X2.out hb); have HB3 := zh (HB2.out.trans (hb.mono HB2.out.size)); clear hb)
 clear g0 g1 l0 x0 GH0 X2 HB2
 have HO3 : Aside0 (Kd.R (Kd.int .i64) 3 w3 W.heap.size (fun _ => True) (.slice none 0 0) ((irange lo (lo - 1)).filter P)) := ⟨by rw [irange_nil (by omega)]; exact Kd.R_nil _ _ _ _ _⟩
 go_loopw [7, 8] (fun u7 u8 wr => ∃ (q : Int), lo ≤ q ∧ q ≤ hi + 1 ∧ u8 = .int .i64 q ∧ Aside0 (Kd.R (Kd.int .i64) 3 wr W.heap.size (fun _ => True) u7 ((irange lo (q - 1)).filter P)) ∧ Aside0 (wr.heap[gh]? = some (.cells #[.func (.func 88) #[] #[]] 121 (0, 0))) ∧ Aside0 (wr.heap[W.heap.size]? = some (.cells #[.slice (some ad0) h.length c0, .slice A1 s.length c1, .slice A2 p.length c2, .int .i64 b0, .int .i64 b1, .slice A3 js.length c3, .bool false, .bool false, .bool false, .bool false, .bool false, .bool false, .bool false, .bool false, .int .i64 b0, .int .i64 b1] 77 (0, 0))) ∧ Aside0 (Below W.heap.size W wr)) (fun _ u8 _ => (hi + 1 - intOf u8).toNat)
 case atStart => exact ⟨lo, Int.le_refl _, by omega, rfl, HO3, GH3, X3, HB3⟩
 case round =>
  obtain ⟨q, hq1, hq2, rfl, HO0, GH0, X0, HBr⟩ := hrel
  clear HO3 GH3 X3 HB3
  replace GH0 := zh (show wr.drew.heap[gh]? = _ from GH0.out)
  replace X0 := zh (show wr.drew.heap[W.heap.size]? = _ from X0.out)
  replace HO0 := zh (Kd.R_drew HO0.out)
  replace HBr := zh (below_drew1 HBr.out)
  have BL0 := zh (Below.refl wr.drew.heap.size wr.drew)
  have HA1 : Aside0 (∀ W', Below wr.drew.heap.size wr.drew W' → W'.cell? (ad0.add (key * 2)) = some (.int .i64 lo) ∧ W'.cell? ⟨(ad0.add (key * 2)).block, (ad0.add (key * 2)).off + 1, none⟩ = some (.int .i64 hi)) := ⟨fun W' hW => HAC.out W' (HBr.out.trans (hW.mono HBr.out.size))⟩
  go_upto_region 4 with (fail)
  refine start_ (n := 11) (S := fun w' => w'.cell? ⟨gh, 0, none⟩ = some (.func (.func 88) #[] #[]) ∧ w'.cell? ⟨W.heap.size, 0, none⟩ = some (.slice (some ad0) h.length c0) ∧ w'.cell? (ad0.add (key * 2)) = some (.int .i64 lo) ∧ w'.cell? ⟨(ad0.add (key * 2)).block, (ad0.add (key * 2)).off + 1, none⟩ = some (.int .i64 hi)) (ds := []) (Array.replicate 11 false) zk rfl rfl ⟨(blk_cell (blk_below GH0.out BL0.out) 0).trans rfl, (blk_cell (blk_below X0.out BL0.out) 0).trans rfl, (HA1.out _ BL0.out).1, (HA1.out _ BL0.out).2⟩ (fun hHeld => ?_)
  refine with_tabW fPit.tab4 fPit.bits4 (fun HT_ HW_ => ?_)
  generalize wr.drew = v0 at GH0 X0 HA1 HO0 BL0 HBr hHeld ⊢
  refine zu 0 ?_
  refine zu 1 ?_
  refine zu 3 ?_
  refine zu 4 ?_
  refine zu 6 ?_
  refine zt 2 ?_
  refine zt 5 ?_
  refine zu 7 ?_
  refine zt 8 ?_
  refine zo 9 (fun K hK => ?_)
  refine goesD_ Tryd.func88 zk rfl #[.agg #[.int .i64 lo, .int .i64 hi]] (by rfl) rfl rfl rfl dQ1 ?_
  (with_reducible refine (high_calls lo hi v0).mono ?_)
  rintro e v1 ⟨rfl, hb⟩
  refine ⟨_, rfl, ?_⟩
  have BL1 := zh (BL0.out.trans (hb.mono BL0.out.size))
  clear hb
  refine hK.out _ _ ⟨(blk_cell (blk_below GH0.out BL1.out) 0).trans rfl, (blk_cell (blk_below X0.out BL1.out) 0).trans rfl, (HA1.out _ BL1.out).1, (HA1.out _ BL1.out).2⟩ (fun hHeld => ?_)
  clear hK K
  refine zr 33 _ ?_
  refine zu 10 ?_
  refine zd ?_
  have HO1 := zh (Kd.R_below HO0.out BL1.out)
  have GH1 := zh (blk_below GH0.out BL1.out)
  have X1 := zh (blk_below X0.out BL1.out)
  have HB1 := zh (HBr.out.trans (BL1.out.mono HBr.out.size))
  clear HO0 GH0 X0 HBr BL0 BL1 HA1 HT_ HW_ hHeld
  by_cases hqe : q ≤ hi
  ·obtain ⟨x0, x1, x2, x3, x4, x5, x6, x7, x8, x9, x10, x11, x12, x13, x14, x15⟩ := cells16 X1.out
   have HM0 : Aside0 (MapIs E3 (Value.int .i64) (v1.alloc (.map #[] 0)) v1.heap.size []) := ⟨MapIs.new v1⟩
   have HTQ := zh (HTC.out q)
   have HPq := zh (HPQ.out q)
   have HFS := zh (filter_snoc P lo q hq1)
   have hq9 : q + 1 - 1 = q := by omega
   have HXL : Aside0 (((irange lo (q - 1)).filter P).length ≤ 100) := ⟨Nat.le_trans (List.length_filter_le _ _) (by rw [irange_length]; omega)⟩
   have HQ9 := zh hq9
   obtain ⟨xs, hxs⟩ : ∃ xs, (irange lo (q - 1)).filter P = xs := ⟨_, rfl⟩
   rw [hxs] at HO1 HFS HXL
   obtain ⟨TL, hTL⟩ : ∃ TL, tunL h js noLeft (b0, b1) [((key : Int), q)] = TL := ⟨_, rfl⟩
   rw [hTL] at HTQ HPq
   clear hTL hq9 hxs
   cases TL with
   | none =>
    have HF2 : Aside0 ((irange lo (q + 1 - 1)).filter P = xs) := ⟨by rw [HQ9.out, HFS.out, HPq.out]; simp⟩
    go_wp2_with (first | ((with_reducible refine wpList_insert E3 (Value.int .i64) rfl (.tmp 39) (.tmp 40) (.tmp 41) rfl Tryd.underlying99 rfl HM0.out (key : Int) q rfl rfl ?_); intro w9 hm9 hg9; have HM9 := zh hm9; have BL9 := zh ((below_alloc (Below.refl v1.heap.size v1) (.map #[] 0)).grown hg9 (by simp) (fun k hk => by injection hk with hk; subst hk; exact Nat.le_refl _)); clear hm9 hg9) | (go_at_call 63; refine (HTQ.out _ _ (HB1.out.trans (BL9.out.mono HB1.out.size)) HM9.out).mono ?_; rintro e w2 ⟨ht, _, hb⟩; obtain rfl := ht rfl; have BL2 := zh (BL9.out.trans (hb.mono BL9.out.size)); clear hb ht))
    go_roundw
    case rel => exact ⟨q + 1, by omega, by omega, by go_num, ⟨by rw [HF2.out]; exact Kd.R_below HO1.out BL2.out⟩, ⟨blk_below GH1.out BL2.out⟩, ⟨blk_below X1.out BL2.out⟩, ⟨HB1.out.trans (BL2.out.mono HB1.out.size)⟩⟩
    case measure => simp [intOf]; omega
   | some l =>
    have HF2 : Aside0 ((irange lo (q + 1 - 1)).filter P = xs ++ [q]) := ⟨by rw [HQ9.out, HFS.out, HPq.out]; simp⟩
    go_wp2_with (first | ((with_reducible refine wpList_insert E3 (Value.int .i64) rfl (.tmp 39) (.tmp 40) (.tmp 41) rfl Tryd.underlying99 rfl HM0.out (key : Int) q rfl rfl ?_); intro w9 hm9 hg9; have HM9 := zh hm9; have BL9 := zh ((below_alloc (Below.refl v1.heap.size v1) (.map #[] 0)).grown hg9 (by simp) (fun k hk => by injection hk with hk; subst hk; exact Nat.le_refl _)); clear hm9 hg9) | (go_at_call 63; refine (HTQ.out _ _ (HB1.out.trans (BL9.out.mono HB1.out.size)) HM9.out).mono ?_; rintro e w2 ⟨_, ht, hb⟩; obtain ⟨g9, rfl, _, _, _⟩ := ht l rfl; have BL2 := zh (BL9.out.trans (hb.mono BL9.out.size)); have HO2 := zh (Kd.R_below HO1.out BL2.out); have GH2 := zh (blk_below GH1.out BL2.out); have X2 := zh (blk_below X1.out BL2.out); have HB2 := zh (HB1.out.trans (BL2.out.mono HB1.out.size)); clear hb ht) | ((with_reducible refine gate_builtin (b := .append) (xs := #[.tmp 47, .tmp 49]) rfl ?_); at_builtin; refine Kd.R_append (Kd.int .i64) (w0 := W) W.heap.size rfl (.tmp 47) (.tmp 49) 29 3 (.int .i64 0) 8 rfl Tryd.underlying29 info3 rfl (by decide) (by omega) u7 xs q [.int .i64 q] (fun _ => True) (fun _ => False) rfl rfl ?aP (fun _ hk => hk.elim) ?aF ?aO ?aB ?aS ?aL ?_; (case aP => exact rfl); (case aF => exact (fun _ _ => trivial)); (case aO => exact (zR HO2)); (case aB => exact (by repeat (first | exact HB2.out | apply below_alloc))); (case aS => exact (below_size (by repeat (first | exact HB2.out | apply below_alloc)))); (case aL => have := HXL.out; omega); intro v9 w11 ho hb hg hat; have HO3 := zh ho; have GH3 := zh (blk_grown (g := gh) (o := .cells #[.func (.func 88) #[] #[]] 121 (0, 0)) (by (with_reducible repeat (first | refine blk_alloc ?_ _)); exact GH2.out) hg (Kd.R_ne HO2.out GH2.out (by decide))); have X3 := zh (blk_grown (g := W.heap.size) (o := .cells #[.slice (some ad0) h.length c0, .slice A1 s.length c1, .slice A2 p.length c2, .int .i64 b0, .int .i64 b1, .slice A3 js.length c3, .bool false, .bool false, .bool false, .bool false, .bool false, .bool false, .bool false, .bool false, .int .i64 b0, .int .i64 b1] 77 (0, 0)) (by (with_reducible repeat (first | refine blk_alloc ?_ _)); exact X2.out) hg (Kd.R_ne HO2.out X2.out (by decide))); have HB3 := zh hb; clear ho hb hg hat))
    go_roundw
    case rel => exact ⟨q + 1, by omega, by omega, by go_num, ⟨by rw [HF2.out]; exact HO3.out⟩, GH3, X3, HB3⟩
    case measure => simp [intOf]; omega
  ·obtain rfl : q = hi + 1 := by omega
   have hng : ¬ (hi + 1 ≤ hi) := by omega
   have HRL : Aside0 ((irange lo (hi + 1 - 1)).filter P = pitL h js (b0, b1) key) := ⟨by rw [HPL.out, show hi + 1 - 1 = hi by omega]⟩
   go_wp2
   go_ret
   exact ⟨_, rfl, by rw [← HRL.out]; exact HO1.out, HB1.out⟩
end Go.Proofs.YtgehkojccmkggaaDoor.K
end
section
namespace Go.Proofs.YtgehkojccmkggaaDoor.H
open Go.RowKit Go.Proofs.YtgehkojccmkggaaDoorW.PrintWords Go.Proofs.YtgehkojccmkggaaDoorW.PrintLast Go.Proofs.YtgehkojccmkggaaDoorW.PrintMore
attribute [local go_sem] max2_int min2_int max_two min_two max_three min_three max_four min_four   -- for this text's walks alone
set_option linter.unusedVariables false
set_option linter.unusedSimpArgs false
def tune_least_int.l0 : Nat → Int → List Int → Int → Int → Option (Int)
 | 0, _, _, _, _ => none
 | k + 1, x0, x7, x8, x9 => if x9 < x8 then (if 0 ≤ x9 then (if x9 < (x7.length : Int) then (tune_least_int.l0 k (mn x0 (rd x7 x9)) x7 x8 (wrap64 (x9 + 1))) else (none)) else (none)) else (some x0)
def tune_least_int.f (k : Nat) (a0 : Int) (l1 : List Int) : Option (Int) := tune_least_int.l0 k a0 l1 (l1.length : Int) 0
set_option maxHeartbeats 8000000 in
set_option maxRecDepth 100000 in
theorem tune_least_int.calls (k : Nat) (a0 : Int) (A1 : Option Addr) (c1 : Nat) (l1 : List Int) (r : Int) (w : World) (hr1 : Kd.C (Kd.int .i64) w A1 l1.length l1) (hc1 : l1.length ≤ c1) (h : tune_least_int.f k a0 l1 = some r) :
  Calls Tryd.prog 67 #[.int .i64 a0, .slice A1 l1.length c1] w fun e w' => e = .returned (.int .i64 r) ∧ Below w.heap.size w w' := by
 have HR1 := zh hr1
 have HC1 := zh hc1
 clear hr1 hc1
 have HB := zh (Below.refl w.heap.size w)
 have H : (tune_least_int.l0 k a0 l1 (l1.length : Int) 0) = some r := h
 clear h
 have H' := zh H
 clear H
 go_enter Tryd.func67, Tryd.ntmps67
 go_wp2
 go_loopg [0, 9] k (fun kq v0 v9 w' => ∃ (x0_1 : Int) (x9_1 : Int), v0 = .int .i64 x0_1 ∧ v9 = .int .i64 x9_1 ∧ Aside0 (tune_least_int.l0 kq x0_1 l1 (l1.length : Int) x9_1 = some r) ∧ Aside0 (kq ≤ k) ∧ Aside0 (Below w.heap.size w w'))
 case atStart => exact ⟨(a0), (0), ze, ze, H', ⟨Nat.le_refl _⟩, ⟨zb⟩⟩
 case round =>
  clear H'
  try clear c1
  try clear p2
  obtain ⟨x0_1, x9_1, rfl, rfl, HA, HK1, HB⟩ := hrel
  cases gk with
  | zero => exact absurd HA.out (by simp [tune_least_int.l0])
  | succ k1 =>
   have H := HA.out
   clear HA
   simp only [tune_least_int.l0] at H
   by_cases c3 : x9_1 < (l1.length : Int)
   ·rw [if_pos c3] at H
    have c3b0 : decide (x9_1 < (l1.length : Int)) = true := decide_eq_true c3
    clear c3
    by_cases c4 : 0 ≤ x9_1
    ·rw [if_pos c4] at H
     have c4b0 : decide (0 ≤ x9_1) = true := decide_eq_true c4
     clear c4
     by_cases c5 : x9_1 < (l1.length : Int)
     ·rw [if_pos c5] at H
      have c5b0 : decide (x9_1 < (l1.length : Int)) = true := decide_eq_true c5
      clear c5
      obtain ⟨ji6, hji6⟩ : ∃ j_ : Int, (mn x0_1 (rd l1 x9_1)) = j_ := ⟨_, rfl⟩
      replace H : (tune_least_int.l0 k1 ji6 l1 (l1.length : Int) (wrap64 (x9_1 + 1))) = some r := by first | (rw [hji6] at H; exact H) | (simp only [hji6] at H ⊢; exact H)
      have hji6_ : (if (rd l1 x9_1) < x0_1 then (rd l1 x9_1) else x0_1) = ji6 := hji6
      have H' := zh H
      clear H
      have p255 : 0 ≤ (x9_1 : Int) := of_decide_eq_true zs
      have q255 : x9_1 < (l1.length : Int) := of_decide_eq_true zs
      obtain ⟨ad255, e255, hx255_0⟩ := Kd.at_int HR1.out x9_1 p255 q255
      cases e255
      replace hx255_0 := ve HB.out hx255_0
      replace p255 := eq_true p255
      replace q255 := eq_true q255
      go_wp2
      go_roundg k1
      case measure => have := HK1.out; omega
      case rel => exact ⟨(ji6), (wrap64 (x9_1 + 1)), (by first | rfl | (simp; done) | (simp only [← hji6] <;> (first | rfl | simp)) | (simp [*]; done)), ze, H', ⟨by have := HK1.out; omega⟩, ⟨zb⟩⟩
     ·rw [if_neg c5] at H
      exact absurd H (by simp)
    ·rw [if_neg c4] at H
     exact absurd H (by simp)
   ·rw [if_neg c3] at H
    have c3b0 : decide (x9_1 < (l1.length : Int)) = false := decide_eq_false c3
    clear c3
    obtain rfl := Option.some.inj H
    go_wp2
    go_ret
    exact ⟨zf, zb⟩
end Go.Proofs.YtgehkojccmkggaaDoor.H
end
section
namespace Go.Proofs.YtgehkojccmkggaaDoor.K
open Go.RowKit Go.Shelf Go.Proofs.YtgehkojccmkggaaDoorW.PrintWords Go.Proofs.YtgehkojccmkggaaDoorW.PrintLast Go.Proofs.YtgehkojccmkggaaDoorW.PrintMore Go.Proofs.YtgehkojccmkggaaDoor.H Tune
set_option linter.unusedVariables false
set_option linter.unusedSimpArgs false
attribute [local go_sem] Oper.semAt_some
theorem least_f : ∀ (l : List Int) (d i k : Nat) (x : Int), l.length ≤ 1000000 → i + d = l.length → d < k → (∀ y ∈ l, x ≤ y) → tune_least_int.l0 k x l (l.length : Int) (i : Int) = some x := by
 intro l d
 induction d with
 | zero =>
  intro i k x hl hi hk _
  obtain ⟨k, rfl⟩ : ∃ m, k = m + 1 := ⟨k - 1, by omega⟩
  rw [tune_least_int.l0, if_neg (by omega)]
 | succ d ih =>
  intro i k x hl hi hk hx
  obtain ⟨k, rfl⟩ : ∃ m, k = m + 1 := ⟨k - 1, by omega⟩
  have hlt : i < l.length := by omega
  have hrd : rd l (i : Int) = l[i] := by unfold rd; rw [Int.toNat_natCast]; simp [List.getD_eq_getElem?_getD, hlt]
  have hm : mn x l[i] = x := by unfold mn; rw [if_neg]; have := hx _ (List.getElem_mem hlt); omega
  rw [tune_least_int.l0, if_pos (by omega), if_pos (by omega), if_pos (by omega), hrd, hm, show wrap64 ((i : Int) + 1) = ((i + 1 : Nat) : Int) by rw [w64 (by omega) (by omega)]; omega]
  exact ih (i + 1) k x hl (by omega) (by omega) hx
theorem pairwise_irange (lo hi : Int) : (irange lo hi).Pairwise (· < ·) := by
 unfold irange
 rw [List.pairwise_map]
 exact (List.pairwise_lt_range).imp (fun h => by omega)
theorem pitL_sorted (h : List S26) (js : List J) (b : Int × Int) (key : Nat) : (pitL h js b key).Pairwise (· < ·) := (pairwise_irange _ _).filter _
theorem head_le {l : List Int} (hs : l.Pairwise (· < ·)) : ∀ y ∈ l, l.getD 0 0 ≤ y := by
 cases l with
 | nil => intro y hy; cases hy
 | cons a l =>
  intro y hy
  rw [List.pairwise_cons] at hs
  rcases List.mem_cons.1 hy with rfl | hy
  ·exact Int.le_refl _
  ·exact Int.le_of_lt (hs.1 y hy)
theorem mem_pitL {h : List S26} {js : List J} {b : Int × Int} {key : Nat} {q : Int} : q ∈ pitL h js b key ↔ loH h key ≤ q ∧ q ≤ hiH h key ∧ tunS h js noLeft b [((key : Int), q)] = true := by
 unfold pitL
 rw [List.mem_filter, mem_irange]
 exact ⟨fun h => ⟨h.1.1, h.1.2, h.2⟩, fun h => ⟨⟨h.1, h.2.1⟩, h.2.2⟩⟩
theorem okG_one (key : Nat) (q : Int) (x : Nat) (v : Int) : okG [((key : Int), q)] x v = (if x = key then decide (q = v) else true) := by
 unfold okG
 by_cases hx : x = key
 ·subst hx; simp
 ·rw [if_neg hx, List.find?_cons_of_neg (by simp; omega)]
  rfl
theorem pit_iff {h : List S26} {js : List J} (F : Fine h js) {b : Int × Int} {key : Nat} (hk : key < h.length) {q : Int} : tunS h js noLeft b [((key : Int), q)] = true ↔ ∃ l, Tun h.length js noLeft b (loH h) (hiH h) (okG []) l ∧ l key = q := by
 rw [tunS_iff F.joins]
 unfold Tunable Tun
 constructor
 ·rintro ⟨l, h1, h2⟩
  refine ⟨l, ⟨fun x hx hl => ⟨(h1 x hx hl).1, (h1 x hx hl).2.1, rfl⟩, h2⟩, ?_⟩
  have := (h1 key hk rfl).2.2
  rw [okG_one, if_pos rfl] at this
  exact (of_decide_eq_true this).symm
 ·rintro ⟨l, ⟨h1, h2⟩, e⟩
  refine ⟨l, fun x hx hl => ⟨(h1 x hx hl).1, (h1 x hx hl).2.1, ?_⟩, h2⟩
  rw [okG_one]
  split
  ·rename_i hx; rw [hx, e]; exact decide_eq_true rfl
  ·rfl
theorem pitL_some {h : List S26} {js : List J} (F : Fine h js) {b : Int × Int} {key : Nat} (hk : key < h.length) (hT : tunS h js noLeft b [] = true) : 0 < (pitL h js b key).length := by
 obtain ⟨l, hl⟩ := (tunS_iff F.joins).1 hT
 have hm : l key ∈ pitL h js b key := mem_pitL.2 ⟨(hl.1 key hk rfl).1, (hl.1 key hk rfl).2.1, (pit_iff F hk).2 ⟨l, hl, rfl⟩⟩
 exact List.length_pos_of_mem hm
def pitchT (h : List S26) (s : List S61) (p : List S48) (b0 b1 key : Int) : Int × Int := if askedE h s p b0 b1 (inK h.length key) = 0 then ((pitL h (jsOf h s p b0 b1) (b0, b1) key.toNat).getD 0 0, (pitL h (jsOf h s p b0 b1) (b0, b1) key.toNat).getD ((pitL h (jsOf h s p b0 b1) (b0, b1) key.toNat).length - 1) 0) else (0, 0)
def fPitch.T1 : Bool × List (List Nat × List Nat) := (true, [([], []), ([], []), ([], []), ([1, 2], [1, 2]), ([0, 3, 3], [0, 3]), ([4], [4]), ([5], [5]), ([5], [5]), ([], []), ([8, 6, 4, 0, 1, 2, 3, 4, 5, 6, 8], [6, 8]), ([7, 9, 0, 1, 2, 3, 4, 5, 6, 7, 8, 9], [7])])
def fPitch.B1 : List Nat := [0, 0, 0, 6, 15, 31, 63, 63, 0, 383, 1023]
theorem fPitch.tab1 : rtab .any (opsOf Tryd.f23 1) = fPitch.T1 := by kernel_rfl
theorem fPitch.bits1 : waitsOk fPitch.T1.2 fPitch.B1 = true := by kernel_rfl
def fPitch.T5 : Bool × List (List Nat × List Nat) := (true, [([], []), ([0], [0]), ([1], [1]), ([], []), ([2, 3], [2, 3]), ([], []), ([], []), ([6], [6]), ([7], [7]), ([5, 8], [5, 8]), ([9], [9]), ([4, 10], [4, 10]), ([11, 4, 0, 1, 2, 3, 4, 5, 6, 7, 8, 9, 10, 11], [11]), ([12, 0, 1, 2, 3, 4, 5, 6, 7, 8, 9, 10, 11, 12], [])])
def fPitch.B5 : List Nat := [0, 1, 3, 0, 15, 0, 0, 64, 192, 480, 992, 2047, 4095, 8191]
theorem fPitch.tab5 : rtab .any (opsOf Tryd.f23 5) = fPitch.T5 := by kernel_rfl
theorem fPitch.bits5 : waitsOk fPitch.T5.2 fPitch.B5 = true := by kernel_rfl
set_option maxRecDepth 100000 in
set_option maxHeartbeats 8000000 in
theorem pitch23_bad (A0 : Option Addr) (c0 : Nat) (h : List S26) (A1 : Option Addr) (c1 : Nat) (s : List S61) (A2 : Option Addr) (c2 : Nat) (p : List S48) (b0 b1 : Int) key E (w : World) (hsm : small h s p = true) (hG : Glob w)
  (h0 : Kd.C k26 w A0 h.length h) (hc0 : h.length ≤ c0) (h1 : Kd.C k61 w A1 s.length s) (hc1 : s.length ≤ c1) (h2 : Kd.C k48 w A2 p.length p) (hc2 : p.length ≤ c2) (hE : askedE h s p b0 b1 (inK h.length key) = E) (hz : E ≠ 0) :
  Calls Tryd.prog 23 #[.agg #[.slice A0 h.length c0, .slice A1 s.length c1, .slice A2 p.length c2, .int .i64 b0, .int .i64 b1], .int .i64 key] w fun e w' => e = .returned (.tuple #[.agg #[.int .i64 0, .int .i64 0], .int .i64 E]) ∧ Below w.heap.size w w' := by
 have hu77 := Tryd.underlying77
 have hu80 := Tryd.underlying80
 have hu28 := Tryd.underlying28
 have hu26 := Tryd.underlying26
 have HB0 := zh (below_alloc (below_alloc (Below.refl w.heap.size w) (.cells #[.slice A0 h.length c0, .slice A1 s.length c1, .slice A2 p.length c2, .int .i64 b0, .int .i64 b1] 28)) (.cells #[.int .i64 0, .int .i64 0] 26))
 have B0 := zh (blk_alloc (alloc_at w (.cells #[.slice A0 h.length c0, .slice A1 s.length c1, .slice A2 p.length c2, .int .i64 b0, .int .i64 b1] 28) w.heap.size rfl) (.cells #[.int .i64 0, .int .i64 0] 26))
 have Z0 := zh (alloc_at (w.alloc (.cells #[.slice A0 h.length c0, .slice A1 s.length c1, .slice A2 p.length c2, .int .i64 b0, .int .i64 b1] 28)) (.cells #[.int .i64 0, .int .i64 0] 26) (w.heap.size + 1) (by simp))
 have HGW := zh hG
 have D0 := zh h0
 have D1 := zh h1
 have D2 := zh h2
 have HSM := zh hsm
 clear h0 h1 h2 hG hsm
 have hz1 : (E != 0) = true := bne_iff_ne.2 hz
 go_enter Tryd.func23, Tryd.ntmps23
 go_upto_region 1 with (fail)
 obtain ⟨W1, hW1⟩ : ∃ W1, (w.alloc (.cells #[.slice A0 h.length c0, .slice A1 s.length c1, .slice A2 p.length c2, .int .i64 b0, .int .i64 b1] 28)).alloc (.cells #[.int .i64 0, .int .i64 0] 26) = W1 := ⟨_, rfl⟩
 simp only [hW1] at HB0 B0 Z0 ⊢
 clear hW1
 have HBD := zh (below_drew1 HB0.out)
 replace B0 := zh (show W1.drew.heap[w.heap.size]? = _ from B0.out)
 replace Z0 := zh (show W1.drew.heap[w.heap.size + 1]? = _ from Z0.out)
 clear HB0
 have HAS : Aside0 (∀ W, Below W1.drew.heap.size W1.drew W → Calls Tryd.prog 62 #[.agg #[.slice A0 h.length c0, .slice A1 s.length c1, .slice A2 p.length c2, .int .i64 b0, .int .i64 b1], .bool (inK h.length key)] W fun e w' => e = .returned (.tuple #[.agg #[.slice none 0 0, .slice none 0 0, .slice none 0 0, .int .i64 0, .int .i64 0, .slice none 0 0, .bool false, .bool false, .bool false, .bool false, .bool false, .bool false, .bool false, .bool false, .int .i64 0, .int .i64 0], .int .i64 E]) ∧ Below W.heap.size W w') := ⟨fun W hW => asked_bad A0 c0 h A1 c1 s A2 c2 p b0 b1 (inK h.length key) W HSM.out (HGW.out.below (HBD.out.trans (hW.mono HBD.out.size))) (Kd.C_below (Kd.C_below D0.out HBD.out) hW) hc0 (Kd.C_below (Kd.C_below D1.out HBD.out) hW) hc1 (Kd.C_below (Kd.C_below D2.out HBD.out) hW) hc2 E hE hz⟩
 have HIK3 : Aside0 (∀ W, Below W1.drew.heap.size W1.drew W → Calls Tryd.prog 65 #[.agg #[.slice A0 h.length c0, .slice A1 s.length c1, .slice A2 p.length c2, .int .i64 b0, .int .i64 b1], .int .i64 key] W fun e w' => e = .returned (.bool (inK h.length key)) ∧ Below W.heap.size W w') := ⟨fun W hW => isKey_calls A0 c0 h A1 c1 s A2 c2 p b0 b1 key W (small_h HSM.out) (Kd.C_below (Kd.C_below D0.out HBD.out) hW) hc0 (Kd.C_below (Kd.C_below D1.out HBD.out) hW) hc1 (Kd.C_below (Kd.C_below D2.out HBD.out) hW) hc2⟩
 clear hE hz
 go_cut [7] (fun u7 wc => u7 = .int .i64 E ∧ Aside0 (wc.heap[w.heap.size + 1]? = some (.cells #[.int .i64 0, .int .i64 0] 26 (0, 0))) ∧ Aside0 (Below w.heap.size w wc))
 case first =>
  have BL0 := zh (Below.refl W1.drew.heap.size W1.drew)
  refine start_ (n := 11) (S := fun w' => w'.cell? ⟨w.heap.size, 0, none⟩ = some (.slice A0 h.length c0) ∧ w'.cell? ⟨w.heap.size, 1, none⟩ = some (.slice A1 s.length c1) ∧ w'.cell? ⟨w.heap.size, 2, none⟩ = some (.slice A2 p.length c2) ∧ w'.cell? ⟨w.heap.size, 3, none⟩ = some (.int .i64 b0) ∧ w'.cell? ⟨w.heap.size, 4, none⟩ = some (.int .i64 b1)) (ds := []) (Array.replicate 11 false) zk rfl rfl ⟨(blk_cell (blk_below B0.out BL0.out) 0).trans rfl, (blk_cell (blk_below B0.out BL0.out) 1).trans rfl, (blk_cell (blk_below B0.out BL0.out) 2).trans rfl, (blk_cell (blk_below B0.out BL0.out) 3).trans rfl, (blk_cell (blk_below B0.out BL0.out) 4).trans rfl⟩ (fun hHeld => ?_)
  refine with_tabW fPitch.tab1 fPitch.bits1 (fun HT_ HW_ => ?_)
  generalize W1.drew = v0 at B0 HBD HAS Z0 HIK3 BL0 hHeld ⊢
  refine zu 2 ?_
  refine zt 0 ?_
  refine zt 1 ?_
  refine two_ (i := 3) (j := 8) (Ni := some 13) (Nj := some 6) #[true, true, true, true, false, false, false, false, false, false, false] #[true, true, true, false, false, false, false, false, true, false, false] rfl rfl rfl rfl (two_of HT_.out zk) (by decide) (by decide) (fun K hK => ?_) (fun K hK => ?_)
  ·refine goes_ Tryd.func65 zk rfl #[.agg #[.slice A0 h.length c0, .slice A1 s.length c1, .slice A2 p.length c2, .int .i64 b0, .int .i64 b1], .int .i64 key] (by rfl) rfl rfl dQ1 ?_
   (with_reducible refine (HIK3.out v0 BL0.out).mono ?_)
   rintro e v1 ⟨rfl, hb⟩
   refine ⟨_, rfl, ?_⟩
   have BL1 := zh (BL0.out.trans (hb.mono BL0.out.size))
   clear hb
   refine hK.out _ _ (cells5 (blk_below B0.out BL1.out)) (fun hHeld => ?_)
   clear hK K
   refine zr 13 _ ?_
   refine two_ (i := 4) (j := 8) (Ni := some 14) (Nj := some 6) #[true, true, true, true, true, false, false, false, false, false, false] #[true, true, true, true, false, false, false, false, true, false, false] rfl rfl rfl rfl (two_of HT_.out zk) (by decide) (by decide) (fun K hK => ?_) (fun K hK => ?_)
   ·refine goes_ Tryd.func62 zk rfl #[.agg #[.slice A0 h.length c0, .slice A1 s.length c1, .slice A2 p.length c2, .int .i64 b0, .int .i64 b1], .bool (inK h.length key)] (by rfl) rfl rfl dQ1 ?_
    (with_reducible refine (HAS.out v1 BL1.out).mono ?_)
    rintro e v2 ⟨rfl, hb⟩
    refine ⟨_, rfl, ?_⟩
    have BL2 := zh (BL1.out.trans (hb.mono BL1.out.size))
    have hs1_ := BL1.out.size
    clear hb
    refine hK.out _ _ (cells5 (blk_below B0.out BL2.out)) (fun hHeld => ?_)
    clear hK K
    refine zr 14 _ ?_
    refine zu 5 ?_
    refine zu 6 ?_
    refine zu 7 ?_
    refine zo 8 (fun K hK => ?_)
    refine value_ (v := .pointer (some ⟨v2.heap.size, 0, none⟩)) (w1 := v2.alloc (.cells #[.slice none 0 0, .slice none 0 0, .slice none 0 0, .int .i64 0, .int .i64 0, .slice none 0 0, .bool false, .bool false, .bool false, .bool false, .bool false, .bool false, .bool false, .bool false, .int .i64 0, .int .i64 0] 77)) (by rfl) rfl ?hr2 ?_
    (case hr2 => first | (go_simp; done) | (go_simp; rfl))
    generalize hv_ : v2.alloc (.cells #[.slice none 0 0, .slice none 0 0, .slice none 0 0, .int .i64 0, .int .i64 0, .slice none 0 0, .bool false, .bool false, .bool false, .bool false, .bool false, .bool false, .bool false, .bool false, .int .i64 0, .int .i64 0] 77) = v3
    have BL3 := zh (al_below hv_ BL2.out)
    have G8_3 := zh (al_at hv_)
    have hs2 := BL2.out.size
    clear hv_
    refine hK.out _ _ (cells5 (blk_below B0.out BL3.out)) (fun hHeld => ?_)
    clear hK K
    refine zr 6 _ ?_
    refine zp 9 (fun K hK => ?_)
    obtain ⟨c0_, c1_, c2_, c3_, c4_, c5_, c6_, c7_, c8_, c9_, c10_, c11_, c12_, c13_, c14_, c15_⟩ := cells16 G8_3.out
    obtain ⟨d0_, d1_, d2_, d3_, d4_, d5_, d6_, d7_, d8_, d9_, d10_, d11_, d12_, d13_, d14_, d15_⟩ := froz16 G8_3.out
    refine skip_ (w1 := stZ v3 v2.heap.size) (by rfl) rfl ?hs3_ ?_
    (case hs3_ => unfold stZ st16; first | (go_simp; done) | (go_simp; rfl))
    clear c0_ d0_ c1_ d1_ c2_ d2_ c3_ d3_ c4_ d4_ c5_ d5_ c6_ d6_ c7_ d7_ c8_ d8_ c9_ d9_ c10_ d10_ c11_ d11_ c12_ d12_ c13_ d13_ c14_ d14_ c15_ d15_
    have hs3 := BL3.out.size
    generalize hv_ : stZ v3 v2.heap.size = v4
    have BL4 := zh (st_below hv_ BL3.out dQ5)
    have G8_4 := zh (st_set hv_ G8_3.out)
    clear hv_
    refine hK.out _ _ (cells5 (blk_below B0.out BL4.out)) (fun hHeld => ?_)
    clear hK K
    refine zu 10 ?_
    refine zd ?_
    go_wp2_with (fail)
    go_meet
    case rel => exact ⟨rfl, ⟨blk_below Z0.out BL4.out⟩, ⟨HBD.out.trans (BL4.out.mono HBD.out.size)⟩⟩
   ·refine value_ (v := .pointer (some ⟨v1.heap.size, 0, none⟩)) (w1 := v1.alloc (.cells #[.slice none 0 0, .slice none 0 0, .slice none 0 0, .int .i64 0, .int .i64 0, .slice none 0 0, .bool false, .bool false, .bool false, .bool false, .bool false, .bool false, .bool false, .bool false, .int .i64 0, .int .i64 0] 77)) (by rfl) rfl ?hr1 ?_
    (case hr1 => first | (go_simp; done) | (go_simp; rfl))
    generalize hv_ : v1.alloc (.cells #[.slice none 0 0, .slice none 0 0, .slice none 0 0, .int .i64 0, .int .i64 0, .slice none 0 0, .bool false, .bool false, .bool false, .bool false, .bool false, .bool false, .bool false, .bool false, .int .i64 0, .int .i64 0] 77) = v2
    have BL2 := zh (al_below hv_ BL1.out)
    have G8_2 := zh (al_at hv_)
    have hs1 := BL1.out.size
    clear hv_
    refine hK.out _ _ (cells5 (blk_below B0.out BL2.out)) (fun hHeld => ?_)
    clear hK K
    refine zr 6 _ ?_
    refine zo 4 (fun K hK => ?_)
    refine goes_ Tryd.func62 zk rfl #[.agg #[.slice A0 h.length c0, .slice A1 s.length c1, .slice A2 p.length c2, .int .i64 b0, .int .i64 b1], .bool (inK h.length key)] (by rfl) rfl rfl dQ1 ?_
    (with_reducible refine (HAS.out v2 BL2.out).mono ?_)
    rintro e v3 ⟨rfl, hb⟩
    refine ⟨_, rfl, ?_⟩
    have BL3 := zh (BL2.out.trans (hb.mono BL2.out.size))
    have G8_3 := zh (blk_below G8_2.out hb)
    have hs2_ := BL2.out.size
    have hga := blk_lt G8_2.out
    clear hb
    refine hK.out _ _ (cells5 (blk_below B0.out BL3.out)) (fun hHeld => ?_)
    clear hK K
    refine zr 14 _ ?_
    refine zu 5 ?_
    refine zu 6 ?_
    refine zu 7 ?_
    refine zp 9 (fun K hK => ?_)
    obtain ⟨c0_, c1_, c2_, c3_, c4_, c5_, c6_, c7_, c8_, c9_, c10_, c11_, c12_, c13_, c14_, c15_⟩ := cells16 G8_3.out
    obtain ⟨d0_, d1_, d2_, d3_, d4_, d5_, d6_, d7_, d8_, d9_, d10_, d11_, d12_, d13_, d14_, d15_⟩ := froz16 G8_3.out
    refine skip_ (w1 := stZ v3 v1.heap.size) (by rfl) rfl ?hs3_ ?_
    (case hs3_ => unfold stZ st16; first | (go_simp; done) | (go_simp; rfl))
    clear c0_ d0_ c1_ d1_ c2_ d2_ c3_ d3_ c4_ d4_ c5_ d5_ c6_ d6_ c7_ d7_ c8_ d8_ c9_ d9_ c10_ d10_ c11_ d11_ c12_ d12_ c13_ d13_ c14_ d14_ c15_ d15_
    have hs3 := BL3.out.size
    generalize hv_ : stZ v3 v1.heap.size = v4
    have BL4 := zh (st_below hv_ BL3.out dQ3)
    have G8_4 := zh (st_set hv_ G8_3.out)
    clear hv_
    refine hK.out _ _ (cells5 (blk_below B0.out BL4.out)) (fun hHeld => ?_)
    clear hK K
    refine zu 10 ?_
    refine zd ?_
    go_wp2_with (fail)
    go_meet
    case rel => exact ⟨rfl, ⟨blk_below Z0.out BL4.out⟩, ⟨HBD.out.trans (BL4.out.mono HBD.out.size)⟩⟩
  ·refine value_ (v := .pointer (some ⟨v0.heap.size, 0, none⟩)) (w1 := v0.alloc (.cells #[.slice none 0 0, .slice none 0 0, .slice none 0 0, .int .i64 0, .int .i64 0, .slice none 0 0, .bool false, .bool false, .bool false, .bool false, .bool false, .bool false, .bool false, .bool false, .int .i64 0, .int .i64 0] 77)) (by rfl) rfl ?hr0 ?_
   (case hr0 => first | (go_simp; done) | (go_simp; rfl))
   generalize hv_ : v0.alloc (.cells #[.slice none 0 0, .slice none 0 0, .slice none 0 0, .int .i64 0, .int .i64 0, .slice none 0 0, .bool false, .bool false, .bool false, .bool false, .bool false, .bool false, .bool false, .bool false, .int .i64 0, .int .i64 0] 77) = v1
   have BL1 := zh (al_below hv_ BL0.out)
   have G8_1 := zh (al_at hv_)
   have hs0 := BL0.out.size
   clear hv_
   refine hK.out _ _ (cells5 (blk_below B0.out BL1.out)) (fun hHeld => ?_)
   clear hK K
   refine zr 6 _ ?_
   refine zo 3 (fun K hK => ?_)
   refine goes_ Tryd.func65 zk rfl #[.agg #[.slice A0 h.length c0, .slice A1 s.length c1, .slice A2 p.length c2, .int .i64 b0, .int .i64 b1], .int .i64 key] (by rfl) rfl rfl dQ1 ?_
   (with_reducible refine (HIK3.out v1 BL1.out).mono ?_)
   rintro e v2 ⟨rfl, hb⟩
   refine ⟨_, rfl, ?_⟩
   have BL2 := zh (BL1.out.trans (hb.mono BL1.out.size))
   have G8_2 := zh (blk_below G8_1.out hb)
   clear hb
   refine hK.out _ _ (cells5 (blk_below B0.out BL2.out)) (fun hHeld => ?_)
   clear hK K
   refine zr 13 _ ?_
   refine zo 4 (fun K hK => ?_)
   refine goes_ Tryd.func62 zk rfl #[.agg #[.slice A0 h.length c0, .slice A1 s.length c1, .slice A2 p.length c2, .int .i64 b0, .int .i64 b1], .bool (inK h.length key)] (by rfl) rfl rfl dQ1 ?_
   (with_reducible refine (HAS.out v2 BL2.out).mono ?_)
   rintro e v3 ⟨rfl, hb⟩
   refine ⟨_, rfl, ?_⟩
   have BL3 := zh (BL2.out.trans (hb.mono BL2.out.size))
   have G8_3 := zh (blk_below G8_2.out hb)
   have hs2_ := BL2.out.size
   have hga := blk_lt G8_2.out
   clear hb
   refine hK.out _ _ (cells5 (blk_below B0.out BL3.out)) (fun hHeld => ?_)
   clear hK K
   refine zr 14 _ ?_
   refine zu 5 ?_
   refine zu 6 ?_
   refine zu 7 ?_
   refine zp 9 (fun K hK => ?_)
   obtain ⟨c0_, c1_, c2_, c3_, c4_, c5_, c6_, c7_, c8_, c9_, c10_, c11_, c12_, c13_, c14_, c15_⟩ := cells16 G8_3.out
   obtain ⟨d0_, d1_, d2_, d3_, d4_, d5_, d6_, d7_, d8_, d9_, d10_, d11_, d12_, d13_, d14_, d15_⟩ := froz16 G8_3.out
   refine skip_ (w1 := stZ v3 v0.heap.size) (by rfl) rfl ?hs3_ ?_
   (case hs3_ => unfold stZ st16; first | (go_simp; done) | (go_simp; rfl))
   clear c0_ d0_ c1_ d1_ c2_ d2_ c3_ d3_ c4_ d4_ c5_ d5_ c6_ d6_ c7_ d7_ c8_ d8_ c9_ d9_ c10_ d10_ c11_ d11_ c12_ d12_ c13_ d13_ c14_ d14_ c15_ d15_
   have hs3 := BL3.out.size
   generalize hv_ : stZ v3 v0.heap.size = v4
   have BL4 := zh (st_below hv_ BL3.out dQ4)
   have G8_4 := zh (st_set hv_ G8_3.out)
   clear hv_
   refine hK.out _ _ (cells5 (blk_below B0.out BL4.out)) (fun hHeld => ?_)
   clear hK K
   refine zu 10 ?_
   refine zd ?_
   go_wp2_with (fail)
   go_meet
   case rel => exact ⟨rfl, ⟨blk_below Z0.out BL4.out⟩, ⟨HBD.out.trans (BL4.out.mono HBD.out.size)⟩⟩
 case rest =>
  obtain ⟨rfl, Zc, HBc⟩ := hcut
  have z0 : wc.cell? ⟨w.heap.size + 1, 0, none⟩ = some (.int .i64 0) := vb Zc 0
  have z1 : wc.cell? ⟨w.heap.size + 1, 1, none⟩ = some (.int .i64 0) := vb Zc 1
  have f0 : wc.frozen? ⟨w.heap.size + 1, 0, none⟩ = false := blk_frozen Zc.out 0
  have f1 : wc.frozen? ⟨w.heap.size + 1, 1, none⟩ = false := blk_frozen Zc.out 1
  go_wp2
  exact bodyPost_ret (results_ct rfl _ _ (w.heap.size + 1) 26 #[.int .i64 0, .int .i64 0] (0, 0) _ rfl (set2 Zc.out _ _) Tryd.underlying26 rfl zk) rfl ⟨rfl, (HBc.out.setCell dQ2 _).setCell dQ2 _⟩
set_option maxRecDepth 100000 in
set_option maxHeartbeats 8000000 in
theorem pitch23_good (A0 : Option Addr) (c0 : Nat) (h : List S26) (A1 : Option Addr) (c1 : Nat) (s : List S61) (A2 : Option Addr) (c2 : Nat) (p : List S48) (b0 b1 : Int) key (w : World) (hsm : small h s p = true) (hG : Glob w)
  (h0 : Kd.C k26 w A0 h.length h) (hc0 : h.length ≤ c0) (h1 : Kd.C k61 w A1 s.length s) (hc1 : s.length ≤ c1) (h2 : Kd.C k48 w A2 p.length p) (hc2 : p.length ≤ c2) (hE : askedE h s p b0 b1 (inK h.length key) = 0) :
  Calls Tryd.prog 23 #[.agg #[.slice A0 h.length c0, .slice A1 s.length c1, .slice A2 p.length c2, .int .i64 b0, .int .i64 b1], .int .i64 key] w fun e w' => e = .returned (.tuple #[.agg #[.int .i64 (pitchT h s p b0 b1 key).1, .int .i64 (pitchT h s p b0 b1 key).2], .int .i64 0]) ∧ Below w.heap.size w w' := by
 have hu77 := Tryd.underlying77
 have hu80 := Tryd.underlying80
 have hu28 := Tryd.underlying28
 have hu26 := Tryd.underlying26
 have HB0 := zh (below_alloc (below_alloc (Below.refl w.heap.size w) (.cells #[.slice A0 h.length c0, .slice A1 s.length c1, .slice A2 p.length c2, .int .i64 b0, .int .i64 b1] 28)) (.cells #[.int .i64 0, .int .i64 0] 26))
 have B0 := zh (blk_alloc (alloc_at w (.cells #[.slice A0 h.length c0, .slice A1 s.length c1, .slice A2 p.length c2, .int .i64 b0, .int .i64 b1] 28) w.heap.size rfl) (.cells #[.int .i64 0, .int .i64 0] 26))
 have Z0 := zh (alloc_at (w.alloc (.cells #[.slice A0 h.length c0, .slice A1 s.length c1, .slice A2 p.length c2, .int .i64 b0, .int .i64 b1] 28)) (.cells #[.int .i64 0, .int .i64 0] 26) (w.heap.size + 1) (by simp))
 have HGW := zh hG
 have D0 := zh h0
 have D1 := zh h1
 have D2 := zh h2
 have HSM := zh hsm
 clear h0 h1 h2 hG hsm
 obtain ⟨hck, hright, hT⟩ := askedE_ok hE
 have HF := zh (fine_of hck).1
 obtain ⟨ad0, rfl⟩ : ∃ ad, A0 = some ad := by obtain ⟨ad, e, _⟩ := H_at D0.out 0 (by have := HF.out.some; omega); exact ⟨ad, e⟩
 obtain ⟨kn, rfl⟩ : ∃ kn : Nat, key = (kn : Int) := by
  unfold inK at hright
  simp only [Bool.and_eq_true, decide_eq_true_eq] at hright
  exact ⟨key.toNat, by omega⟩
 have hkn : kn < h.length := by
  unfold inK at hright
  simp only [Bool.and_eq_true, decide_eq_true_eq] at hright
  omega
 obtain ⟨L, hL⟩ : ∃ L, pitL h (jsOf h s p b0 b1) (b0, b1) kn = L := ⟨_, rfl⟩
 have hL0 := pitL_some HF.out hkn hT
 have hLs := pitL_sorted h (jsOf h s p b0 b1) (b0, b1) kn
 rw [hL] at hL0 hLs
 have hLb : L.length ≤ 1000000 := by
  rw [← hL]
  have h9 := HF.out.span kn hkn
  exact Nat.le_trans (List.length_filter_le _ _) (by rw [irange_length]; omega)
 have HPT : Aside0 (pitchT h s p b0 b1 (kn : Int) = (L.getD 0 0, L.getD (L.length - 1) 0)) := ⟨by unfold pitchT; rw [if_pos hE, Int.toNat_natCast, hL]⟩
 rw [HPT.out]
 dsimp only
 obtain ⟨l0, hl0⟩ : ∃ x, L.getD 0 0 = x := ⟨_, rfl⟩
 obtain ⟨l1, hl1⟩ : ∃ x, L.getD (L.length - 1) 0 = x := ⟨_, rfl⟩
 rw [hl0, hl1]
 have HL0 := zh hl0
 have HL1 := zh hl1
 have HHL := zh (head_le hLs)
 have HPC : Aside0 (∀ W A3 c3, Below w.heap.size w W → Kd.C k80 W A3 (jsOf h s p b0 b1).length ((jsOf h s p b0 b1).map ofJ) → Calls Tryd.prog 66 #[.agg #[.slice (some ad0) h.length c0, .slice A1 s.length c1, .slice A2 p.length c2, .int .i64 b0, .int .i64 b1, .slice A3 (jsOf h s p b0 b1).length c3, .bool false, .bool false, .bool false, .bool false, .bool false, .bool false, .bool false, .bool false, .int .i64 b0, .int .i64 b1], .int .i64 (kn : Int)] W fun e w' => ∃ v, e = .returned v ∧ Kd.R (Kd.int .i64) 3 w' W.heap.size (fun _ => True) v L ∧ Below W.heap.size W w') := ⟨fun W A3 c3 hW hj => by
  have h7 := pitches_calls ad0 c0 h A1 c1 s A2 c2 p b0 b1 A3 c3 (jsOf h s p b0 b1) kn W HF.out hkn (Kd.C_below D0.out hW) hj (HGW.out.below hW)
  rw [hL] at h7
  exact h7⟩
 go_enter Tryd.func23, Tryd.ntmps23
 go_upto_region 1 with (fail)
 obtain ⟨W1, hW1⟩ : ∃ W1, (w.alloc (.cells #[.slice (some ad0) h.length c0, .slice A1 s.length c1, .slice A2 p.length c2, .int .i64 b0, .int .i64 b1] 28)).alloc (.cells #[.int .i64 0, .int .i64 0] 26) = W1 := ⟨_, rfl⟩
 simp only [hW1] at HB0 B0 Z0 ⊢
 clear hW1
 have HBD := zh (below_drew1 HB0.out)
 replace B0 := zh (show W1.drew.heap[w.heap.size]? = _ from B0.out)
 replace Z0 := zh (show W1.drew.heap[w.heap.size + 1]? = _ from Z0.out)
 clear HB0
 have HAS : Aside0 (∀ W, Below W1.drew.heap.size W1.drew W → Calls Tryd.prog 62 #[.agg #[.slice (some ad0) h.length c0, .slice A1 s.length c1, .slice A2 p.length c2, .int .i64 b0, .int .i64 b1], .bool (inK h.length (kn : Int))] W fun e w' => ∃ A3 c3, e = .returned (.tuple #[.agg #[.slice (some ad0) h.length c0, .slice A1 s.length c1, .slice A2 p.length c2, .int .i64 b0, .int .i64 b1, .slice A3 (jsOf h s p b0 b1).length c3, .bool false, .bool false, .bool false, .bool false, .bool false, .bool false, .bool false, .bool false, .int .i64 b0, .int .i64 b1], .int .i64 0]) ∧ Kd.F k80 w' (fun k => W.heap.size ≤ k) A3 (jsOf h s p b0 b1).length ((jsOf h s p b0 b1).map ofJ) ∧ Below W.heap.size W w') := ⟨fun W hW => asked_good (some ad0) c0 h A1 c1 s A2 c2 p b0 b1 (inK h.length (kn : Int)) W HSM.out (HGW.out.below (HBD.out.trans (hW.mono HBD.out.size))) (Kd.C_below (Kd.C_below D0.out HBD.out) hW) hc0 (Kd.C_below (Kd.C_below D1.out HBD.out) hW) hc1 (Kd.C_below (Kd.C_below D2.out HBD.out) hW) hc2 hE⟩
 have HIK3 : Aside0 (∀ W, Below W1.drew.heap.size W1.drew W → Calls Tryd.prog 65 #[.agg #[.slice (some ad0) h.length c0, .slice A1 s.length c1, .slice A2 p.length c2, .int .i64 b0, .int .i64 b1], .int .i64 (kn : Int)] W fun e w' => e = .returned (.bool (inK h.length (kn : Int))) ∧ Below W.heap.size W w') := ⟨fun W hW => isKey_calls (some ad0) c0 h A1 c1 s A2 c2 p b0 b1 (kn : Int) W (small_h HSM.out) (Kd.C_below (Kd.C_below D0.out HBD.out) hW) hc0 (Kd.C_below (Kd.C_below D1.out HBD.out) hW) hc1 (Kd.C_below (Kd.C_below D2.out HBD.out) hW) hc2⟩
 clear hE hck hright hT hL hLs hl0 hl1
 go_cut [6, 7] (fun u6 u7 wc => ∃ g A3 c3, u6 = .pointer (some ⟨g, 0, none⟩) ∧ u7 = .int .i64 0 ∧ Aside0 (wc.heap[g]? = some (.cells #[.slice (some ad0) h.length c0, .slice A1 s.length c1, .slice A2 p.length c2, .int .i64 b0, .int .i64 b1, .slice A3 (jsOf h s p b0 b1).length c3, .bool false, .bool false, .bool false, .bool false, .bool false, .bool false, .bool false, .bool false, .int .i64 b0, .int .i64 b1] 77 (0, 0))) ∧ Aside0 (Kd.C k80 wc A3 (jsOf h s p b0 b1).length ((jsOf h s p b0 b1).map ofJ)) ∧ Aside0 (wc.heap[w.heap.size + 1]? = some (.cells #[.int .i64 0, .int .i64 0] 26 (0, 0))) ∧ Aside0 (Below w.heap.size w wc))
 case first =>
  have BL0 := zh (Below.refl W1.drew.heap.size W1.drew)
  refine start_ (n := 11) (S := fun w' => w'.cell? ⟨w.heap.size, 0, none⟩ = some (.slice (some ad0) h.length c0) ∧ w'.cell? ⟨w.heap.size, 1, none⟩ = some (.slice A1 s.length c1) ∧ w'.cell? ⟨w.heap.size, 2, none⟩ = some (.slice A2 p.length c2) ∧ w'.cell? ⟨w.heap.size, 3, none⟩ = some (.int .i64 b0) ∧ w'.cell? ⟨w.heap.size, 4, none⟩ = some (.int .i64 b1)) (ds := []) (Array.replicate 11 false) zk rfl rfl ⟨(blk_cell (blk_below B0.out BL0.out) 0).trans rfl, (blk_cell (blk_below B0.out BL0.out) 1).trans rfl, (blk_cell (blk_below B0.out BL0.out) 2).trans rfl, (blk_cell (blk_below B0.out BL0.out) 3).trans rfl, (blk_cell (blk_below B0.out BL0.out) 4).trans rfl⟩ (fun hHeld => ?_)
  refine with_tabW fPitch.tab1 fPitch.bits1 (fun HT_ HW_ => ?_)
  generalize W1.drew = v0 at B0 HBD HAS Z0 HIK3 BL0 hHeld ⊢
  refine zu 2 ?_
  refine zt 0 ?_
  refine zt 1 ?_
  refine two_ (i := 3) (j := 8) (Ni := some 13) (Nj := some 6) #[true, true, true, true, false, false, false, false, false, false, false] #[true, true, true, false, false, false, false, false, true, false, false] rfl rfl rfl rfl (two_of HT_.out zk) (by decide) (by decide) (fun K hK => ?_) (fun K hK => ?_)
  ·refine goes_ Tryd.func65 zk rfl #[.agg #[.slice (some ad0) h.length c0, .slice A1 s.length c1, .slice A2 p.length c2, .int .i64 b0, .int .i64 b1], .int .i64 (kn : Int)] (by rfl) rfl rfl dQ1 ?_
   (with_reducible refine (HIK3.out v0 BL0.out).mono ?_)
   rintro e v1 ⟨rfl, hb⟩
   refine ⟨_, rfl, ?_⟩
   have BL1 := zh (BL0.out.trans (hb.mono BL0.out.size))
   clear hb
   refine hK.out _ _ (cells5 (blk_below B0.out BL1.out)) (fun hHeld => ?_)
   clear hK K
   refine zr 13 _ ?_
   refine two_ (i := 4) (j := 8) (Ni := some 14) (Nj := some 6) #[true, true, true, true, true, false, false, false, false, false, false] #[true, true, true, true, false, false, false, false, true, false, false] rfl rfl rfl rfl (two_of HT_.out zk) (by decide) (by decide) (fun K hK => ?_) (fun K hK => ?_)
   ·refine goes_ Tryd.func62 zk rfl #[.agg #[.slice (some ad0) h.length c0, .slice A1 s.length c1, .slice A2 p.length c2, .int .i64 b0, .int .i64 b1], .bool (inK h.length (kn : Int))] (by rfl) rfl rfl dQ1 ?_
    (with_reducible refine (HAS.out v1 BL1.out).mono ?_)
    rintro e v2 ⟨A3, c3, rfl, hF, hb⟩
    refine ⟨_, rfl, ?_⟩
    have BL2 := zh (BL1.out.trans (hb.mono BL1.out.size))
    have hs1_ := BL1.out.size
    have HF2 := zh (Kd.F_bound hF)
    clear hF hb
    refine hK.out _ _ (cells5 (blk_below B0.out BL2.out)) (fun hHeld => ?_)
    clear hK K
    refine zr 14 _ ?_
    refine zu 5 ?_
    refine zu 6 ?_
    refine zu 7 ?_
    refine zo 8 (fun K hK => ?_)
    refine value_ (v := .pointer (some ⟨v2.heap.size, 0, none⟩)) (w1 := v2.alloc (.cells #[.slice none 0 0, .slice none 0 0, .slice none 0 0, .int .i64 0, .int .i64 0, .slice none 0 0, .bool false, .bool false, .bool false, .bool false, .bool false, .bool false, .bool false, .bool false, .int .i64 0, .int .i64 0] 77)) (by rfl) rfl ?hr2 ?_
    (case hr2 => first | (go_simp; done) | (go_simp; rfl))
    generalize hv_ : v2.alloc (.cells #[.slice none 0 0, .slice none 0 0, .slice none 0 0, .int .i64 0, .int .i64 0, .slice none 0 0, .bool false, .bool false, .bool false, .bool false, .bool false, .bool false, .bool false, .bool false, .int .i64 0, .int .i64 0] 77) = v3
    have BL3 := zh (al_below hv_ BL2.out)
    have G8_3 := zh (al_at hv_)
    have hs2 := BL2.out.size
    have HF3 := zh (al_F hv_ HF2.out)
    clear hv_
    refine hK.out _ _ (cells5 (blk_below B0.out BL3.out)) (fun hHeld => ?_)
    clear hK K
    refine zr 6 _ ?_
    refine zp 9 (fun K hK => ?_)
    obtain ⟨c0_, c1_, c2_, c3_, c4_, c5_, c6_, c7_, c8_, c9_, c10_, c11_, c12_, c13_, c14_, c15_⟩ := cells16 G8_3.out
    obtain ⟨d0_, d1_, d2_, d3_, d4_, d5_, d6_, d7_, d8_, d9_, d10_, d11_, d12_, d13_, d14_, d15_⟩ := froz16 G8_3.out
    refine skip_ (w1 := stS v3 v2.heap.size (some ad0) h.length c0 A1 s.length c1 A2 p.length c2 b0 b1 A3 (jsOf h s p b0 b1).length c3) (by rfl) rfl ?hs3_ ?_
    (case hs3_ => unfold stS st16; first | (go_simp; done) | (go_simp; rfl))
    clear c0_ d0_ c1_ d1_ c2_ d2_ c3_ d3_ c4_ d4_ c5_ d5_ c6_ d6_ c7_ d7_ c8_ d8_ c9_ d9_ c10_ d10_ c11_ d11_ c12_ d12_ c13_ d13_ c14_ d14_ c15_ d15_
    have hs3 := BL3.out.size
    generalize hv_ : stS v3 v2.heap.size (some ad0) h.length c0 A1 s.length c1 A2 p.length c2 b0 b1 A3 (jsOf h s p b0 b1).length c3 = v4
    have BL4 := zh (st_below hv_ BL3.out dQ5)
    have G8_4 := zh (st_set hv_ G8_3.out)
    have HF4 := zh (st_F hv_ HF3.out (fun k_ hk_ => by show k_ ≠ v2.heap.size; have h1_ := hk_.1; have h2_ := hk_.2; omega))
    clear hv_
    refine hK.out _ _ (cells5 (blk_below B0.out BL4.out)) (fun hHeld => ?_)
    clear hK K
    refine zu 10 ?_
    refine zd ?_
    go_wp2_with (fail)
    go_meet
    case rel => exact ⟨_, A3, c3, rfl, rfl, G8_4, ⟨Kd.F_now HF4.out⟩, ⟨blk_below Z0.out BL4.out⟩, ⟨HBD.out.trans (BL4.out.mono HBD.out.size)⟩⟩
   ·refine value_ (v := .pointer (some ⟨v1.heap.size, 0, none⟩)) (w1 := v1.alloc (.cells #[.slice none 0 0, .slice none 0 0, .slice none 0 0, .int .i64 0, .int .i64 0, .slice none 0 0, .bool false, .bool false, .bool false, .bool false, .bool false, .bool false, .bool false, .bool false, .int .i64 0, .int .i64 0] 77)) (by rfl) rfl ?hr1 ?_
    (case hr1 => first | (go_simp; done) | (go_simp; rfl))
    generalize hv_ : v1.alloc (.cells #[.slice none 0 0, .slice none 0 0, .slice none 0 0, .int .i64 0, .int .i64 0, .slice none 0 0, .bool false, .bool false, .bool false, .bool false, .bool false, .bool false, .bool false, .bool false, .int .i64 0, .int .i64 0] 77) = v2
    have BL2 := zh (al_below hv_ BL1.out)
    have G8_2 := zh (al_at hv_)
    have hs1 := BL1.out.size
    clear hv_
    refine hK.out _ _ (cells5 (blk_below B0.out BL2.out)) (fun hHeld => ?_)
    clear hK K
    refine zr 6 _ ?_
    refine zo 4 (fun K hK => ?_)
    refine goes_ Tryd.func62 zk rfl #[.agg #[.slice (some ad0) h.length c0, .slice A1 s.length c1, .slice A2 p.length c2, .int .i64 b0, .int .i64 b1], .bool (inK h.length (kn : Int))] (by rfl) rfl rfl dQ1 ?_
    (with_reducible refine (HAS.out v2 BL2.out).mono ?_)
    rintro e v3 ⟨A3, c3, rfl, hF, hb⟩
    refine ⟨_, rfl, ?_⟩
    have BL3 := zh (BL2.out.trans (hb.mono BL2.out.size))
    have G8_3 := zh (blk_below G8_2.out hb)
    have hs2_ := BL2.out.size
    have hga := blk_lt G8_2.out
    have HF3 := zh (Kd.F_bound hF)
    clear hF hb
    refine hK.out _ _ (cells5 (blk_below B0.out BL3.out)) (fun hHeld => ?_)
    clear hK K
    refine zr 14 _ ?_
    refine zu 5 ?_
    refine zu 6 ?_
    refine zu 7 ?_
    refine zp 9 (fun K hK => ?_)
    obtain ⟨c0_, c1_, c2_, c3_, c4_, c5_, c6_, c7_, c8_, c9_, c10_, c11_, c12_, c13_, c14_, c15_⟩ := cells16 G8_3.out
    obtain ⟨d0_, d1_, d2_, d3_, d4_, d5_, d6_, d7_, d8_, d9_, d10_, d11_, d12_, d13_, d14_, d15_⟩ := froz16 G8_3.out
    refine skip_ (w1 := stS v3 v1.heap.size (some ad0) h.length c0 A1 s.length c1 A2 p.length c2 b0 b1 A3 (jsOf h s p b0 b1).length c3) (by rfl) rfl ?hs3_ ?_
    (case hs3_ => unfold stS st16; first | (go_simp; done) | (go_simp; rfl))
    clear c0_ d0_ c1_ d1_ c2_ d2_ c3_ d3_ c4_ d4_ c5_ d5_ c6_ d6_ c7_ d7_ c8_ d8_ c9_ d9_ c10_ d10_ c11_ d11_ c12_ d12_ c13_ d13_ c14_ d14_ c15_ d15_
    have hs3 := BL3.out.size
    generalize hv_ : stS v3 v1.heap.size (some ad0) h.length c0 A1 s.length c1 A2 p.length c2 b0 b1 A3 (jsOf h s p b0 b1).length c3 = v4
    have BL4 := zh (st_below hv_ BL3.out dQ3)
    have G8_4 := zh (st_set hv_ G8_3.out)
    have HF4 := zh (st_F hv_ HF3.out (fun k_ hk_ => by show k_ ≠ v1.heap.size; have h1_ := hk_.1; have h2_ := hk_.2; omega))
    clear hv_
    refine hK.out _ _ (cells5 (blk_below B0.out BL4.out)) (fun hHeld => ?_)
    clear hK K
    refine zu 10 ?_
    refine zd ?_
    go_wp2_with (fail)
    go_meet
    case rel => exact ⟨_, A3, c3, rfl, rfl, G8_4, ⟨Kd.F_now HF4.out⟩, ⟨blk_below Z0.out BL4.out⟩, ⟨HBD.out.trans (BL4.out.mono HBD.out.size)⟩⟩
  ·refine value_ (v := .pointer (some ⟨v0.heap.size, 0, none⟩)) (w1 := v0.alloc (.cells #[.slice none 0 0, .slice none 0 0, .slice none 0 0, .int .i64 0, .int .i64 0, .slice none 0 0, .bool false, .bool false, .bool false, .bool false, .bool false, .bool false, .bool false, .bool false, .int .i64 0, .int .i64 0] 77)) (by rfl) rfl ?hr0 ?_
   (case hr0 => first | (go_simp; done) | (go_simp; rfl))
   generalize hv_ : v0.alloc (.cells #[.slice none 0 0, .slice none 0 0, .slice none 0 0, .int .i64 0, .int .i64 0, .slice none 0 0, .bool false, .bool false, .bool false, .bool false, .bool false, .bool false, .bool false, .bool false, .int .i64 0, .int .i64 0] 77) = v1
   have BL1 := zh (al_below hv_ BL0.out)
   have G8_1 := zh (al_at hv_)
   have hs0 := BL0.out.size
   clear hv_
   refine hK.out _ _ (cells5 (blk_below B0.out BL1.out)) (fun hHeld => ?_)
   clear hK K
   refine zr 6 _ ?_
   refine zo 3 (fun K hK => ?_)
   refine goes_ Tryd.func65 zk rfl #[.agg #[.slice (some ad0) h.length c0, .slice A1 s.length c1, .slice A2 p.length c2, .int .i64 b0, .int .i64 b1], .int .i64 (kn : Int)] (by rfl) rfl rfl dQ1 ?_
   (with_reducible refine (HIK3.out v1 BL1.out).mono ?_)
   rintro e v2 ⟨rfl, hb⟩
   refine ⟨_, rfl, ?_⟩
   have BL2 := zh (BL1.out.trans (hb.mono BL1.out.size))
   have G8_2 := zh (blk_below G8_1.out hb)
   clear hb
   refine hK.out _ _ (cells5 (blk_below B0.out BL2.out)) (fun hHeld => ?_)
   clear hK K
   refine zr 13 _ ?_
   refine zo 4 (fun K hK => ?_)
   refine goes_ Tryd.func62 zk rfl #[.agg #[.slice (some ad0) h.length c0, .slice A1 s.length c1, .slice A2 p.length c2, .int .i64 b0, .int .i64 b1], .bool (inK h.length (kn : Int))] (by rfl) rfl rfl dQ1 ?_
   (with_reducible refine (HAS.out v2 BL2.out).mono ?_)
   rintro e v3 ⟨A3, c3, rfl, hF, hb⟩
   refine ⟨_, rfl, ?_⟩
   have BL3 := zh (BL2.out.trans (hb.mono BL2.out.size))
   have G8_3 := zh (blk_below G8_2.out hb)
   have hs2_ := BL2.out.size
   have hga := blk_lt G8_2.out
   have HF3 := zh (Kd.F_bound hF)
   clear hF hb
   refine hK.out _ _ (cells5 (blk_below B0.out BL3.out)) (fun hHeld => ?_)
   clear hK K
   refine zr 14 _ ?_
   refine zu 5 ?_
   refine zu 6 ?_
   refine zu 7 ?_
   refine zp 9 (fun K hK => ?_)
   obtain ⟨c0_, c1_, c2_, c3_, c4_, c5_, c6_, c7_, c8_, c9_, c10_, c11_, c12_, c13_, c14_, c15_⟩ := cells16 G8_3.out
   obtain ⟨d0_, d1_, d2_, d3_, d4_, d5_, d6_, d7_, d8_, d9_, d10_, d11_, d12_, d13_, d14_, d15_⟩ := froz16 G8_3.out
   refine skip_ (w1 := stS v3 v0.heap.size (some ad0) h.length c0 A1 s.length c1 A2 p.length c2 b0 b1 A3 (jsOf h s p b0 b1).length c3) (by rfl) rfl ?hs3_ ?_
   (case hs3_ => unfold stS st16; first | (go_simp; done) | (go_simp; rfl))
   clear c0_ d0_ c1_ d1_ c2_ d2_ c3_ d3_ c4_ d4_ c5_ d5_ c6_ d6_ c7_ d7_ c8_ d8_ c9_ d9_ c10_ d10_ c11_ d11_ c12_ d12_ c13_ d13_ c14_ d14_ c15_ d15_
   have hs3 := BL3.out.size
   generalize hv_ : stS v3 v0.heap.size (some ad0) h.length c0 A1 s.length c1 A2 p.length c2 b0 b1 A3 (jsOf h s p b0 b1).length c3 = v4
   have BL4 := zh (st_below hv_ BL3.out dQ4)
   have G8_4 := zh (st_set hv_ G8_3.out)
   have HF4 := zh (st_F hv_ HF3.out (fun k_ hk_ => by show k_ ≠ v0.heap.size; have h1_ := hk_.1; have h2_ := hk_.2; omega))
   clear hv_
   refine hK.out _ _ (cells5 (blk_below B0.out BL4.out)) (fun hHeld => ?_)
   clear hK K
   refine zu 10 ?_
   refine zd ?_
   go_wp2_with (fail)
   go_meet
   case rel => exact ⟨_, A3, c3, rfl, rfl, G8_4, ⟨Kd.F_now HF4.out⟩, ⟨blk_below Z0.out BL4.out⟩, ⟨HBD.out.trans (BL4.out.mono HBD.out.size)⟩⟩
 case rest =>
  obtain ⟨g, A3, c3, rfl, rfl, GX, HC3, Zc, HBc⟩ := hcut
  obtain ⟨x0, x1, x2, x3, x4, x5, x6, x7, x8, x9, x10, x11, x12, x13, x14, x15⟩ := cells16 GX.out
  go_wp2_with (go_at_call 66; (with_reducible refine (HPC.out _ A3 c3 HBc.out HC3.out).mono ?_); rintro e wr ⟨v, rfl, hr, hb⟩; have HR := zh hr; have HBr := zh (HBc.out.trans (hb.mono HBc.out.size)); have Z0 := zh (blk_below Zc.out hb); clear hr hb)
  obtain ⟨A, cl, rfl⟩ := Kd.R_slice HR.out
  obtain ⟨_, hcl, hCl⟩ := Kd.R_reads' HR.out
  obtain ⟨n, hn⟩ : ∃ n, L.length = n := ⟨_, rfl⟩
  obtain ⟨n1, hn1⟩ : ∃ n1 : Nat, n - 1 = n1 := ⟨_, rfl⟩
  obtain ⟨adl, rfl⟩ : ∃ ad, A = some ad := by obtain ⟨ad, e, _⟩ := C_int_at hCl 0 hL0; exact ⟨ad, e⟩
  have HCL := zh hCl
  have hl9 := hCl.2.1
  have hl0 := HL0.out
  have hl1 := HL1.out
  have HLL : Aside0 (L.length ≤ 1000000) := ⟨hLb⟩
  have HLE : Aside0 (Calls Tryd.prog 67 #[.int .i64 l0, .slice (some adl) n cl] wr.drew fun e w' => e = .returned (.int .i64 l0) ∧ Below wr.drew.heap.size wr.drew w') := ⟨by
   have h9 := tune_least_int.calls (L.length + 1) l0 (some adl) cl L l0 wr.drew (Kd.C_drew hCl) hcl (by unfold tune_least_int.f; rw [← hl0]; exact least_f L L.length 0 (L.length + 1) _ HLL.out (by omega) (by omega) HHL.out)
   rw [hn] at h9
   exact h9⟩
  have HL : Aside0 (∀ W, Below wr.drew.heap.size wr.drew W → W.cell? adl = some (.int .i64 l0) ∧ W.cell? (adl.add n1) = some (.int .i64 l1)) := ⟨fun W hW => by
   obtain ⟨ad_, he_, g0⟩ := C_int_at (Kd.C_below (Kd.C_drew HCL.out) hW) 0 hL0
   injection he_ with he_
   subst he_
   obtain ⟨ad_, he_, g1⟩ := C_int_at (Kd.C_below (Kd.C_drew HCL.out) hW) (L.length - 1) (by omega)
   injection he_ with he_
   subst he_
   rw [hl0] at g0
   replace g0 : W.cell? adl = some (.int .i64 l0) := by simpa [Addr.add] using g0
   rw [hl1, hn, hn1] at g1
   exact ⟨g0, g1⟩⟩
  rw [hn] at hL0 hl9
  simp only [hn]
  have hwn : wrap64 ((n : Int) - 1) = (n1 : Int) := by rw [w64 (by omega) (by omega)]; omega
  have hn1l : (n1 : Int) < (n : Int) := by omega
  have hn0l : (0 : Int) < (n : Int) := by omega
  clear HR hcl hCl HCL hl0 hl1 hn hn1 HHL HLL HPT
  replace Z0 := zh (show wr.drew.heap[w.heap.size + 1]? = _ from Z0.out)
  replace HBr := zh (below_drew1 HBr.out)
  have BL0 := zh (Below.refl wr.drew.heap.size wr.drew)
  refine start_ (n := 14) (S := fun w' => w'.cell? adl = some (.int .i64 l0) ∧ w'.cell? (adl.add n1) = some (.int .i64 l1)) (ds := [12]) #[false, false, false, false, false, false, false, false, false, false, false, false, false, false] zk rfl rfl ⟨(HL.out _ BL0.out).1, (HL.out _ BL0.out).2⟩ (fun hHeld => ?_)
  refine with_tabW fPitch.tab5 fPitch.bits5 (fun HT_ HW_ => ?_)
  generalize wr.drew = v0 at HL HLE Z0 BL0 HBr hHeld ⊢
  refine zu 0 ?_
  refine zu 1 ?_
  refine zu 3 ?_
  refine zu 5 ?_
  refine zu 6 ?_
  refine zu 7 ?_
  refine zu 8 ?_
  refine zu 9 ?_
  refine zt 2 ?_
  refine zt 10 ?_
  refine zo 4 (fun K hK => ?_)
  refine goes_ Tryd.func67 zk rfl #[.int .i64 l0, .slice (some adl) n cl] (by rfl) rfl rfl dQ1 ?_
  (with_reducible refine HLE.out.mono ?_)
  rintro e v1 ⟨rfl, hb⟩
  refine ⟨_, rfl, ?_⟩
  have BL1 := zh hb
  have Z1 := zh (blk_below Z0.out hb)
  clear hb
  refine hK.out _ _ ⟨(HL.out _ BL1.out).1, (HL.out _ BL1.out).2⟩ (fun hHeld => ?_)
  clear hK K
  refine zr 28 _ ?_
  refine zu 11 ?_
  refine zq 12 (fun K hK => ?_)
  have z0_ : v1.cell? ⟨w.heap.size + 1, 0, none⟩ = some (.int .i64 0) := vb Z1 0
  have z1_ : v1.cell? ⟨w.heap.size + 1, 1, none⟩ = some (.int .i64 0) := vb Z1 1
  have f0_ : v1.frozen? ⟨w.heap.size + 1, 0, none⟩ = false := blk_frozen Z1.out 0
  have f1_ : v1.frozen? ⟨w.heap.size + 1, 1, none⟩ = false := blk_frozen Z1.out 1
  refine skip_ (w1 := ((v1.setCell ⟨w.heap.size + 1, 0, none⟩ (.int .i64 l0)).setCell ⟨w.heap.size + 1, 1, none⟩ (.int .i64 l1))) (by rfl) rfl ?hs ?_
  (case hs => first | (go_simp; done) | (go_simp; rfl))
  clear z0_ z1_ f0_ f1_
  refine hK.out _ _ ?_
  clear hK K
  refine zu 13 ?_
  refine zd ?_
  go_wp2
  exact bodyPost_ret (results_ct rfl _ _ (w.heap.size + 1) 26 #[.int .i64 l0, .int .i64 l1] (0, 0) _ rfl (set2 Z1.out _ _) Tryd.underlying26 rfl zk) rfl ⟨rfl, ((HBr.out.trans (BL1.out.mono HBr.out.size)).setCell dQ2 _).setCell dQ2 _⟩
end Go.Proofs.YtgehkojccmkggaaDoor.K
end
section
namespace Go.Proofs.YtgehkojccmkggaaDoor.K
open Go.RowKit Go.Shelf Go.Proofs.YtgehkojccmkggaaDoorW.PrintWords Go.Proofs.YtgehkojccmkggaaDoorW.PrintLast Go.Proofs.YtgehkojccmkggaaDoorW.PrintMore Go.Proofs.YtgehkojccmkggaaDoor.H Tune
set_option linter.unusedVariables false
set_option linter.unusedSimpArgs false
attribute [local go_sem] Oper.semAt_some
theorem cells2 {w : World} {g : Nat} {t : TypeId} {a0 a1 : Value} (h : w.heap[g]? = some (.cells #[a0, a1] t (0, 0))) : w.cell? ⟨g, 0, none⟩ = some a0 ∧ w.cell? ⟨g, 1, none⟩ = some a1 := ⟨(blk_cell h 0).trans rfl, (blk_cell h 1).trans rfl⟩
theorem froz2 {w : World} {g : Nat} {t : TypeId} {a : Array Value} (h : w.heap[g]? = some (.cells a t (0, 0))) : w.frozen? ⟨g, 0, none⟩ = false ∧ w.frozen? ⟨g, 1, none⟩ = false := ⟨blk_frozen h 0, blk_frozen h 1⟩
theorem set_beat {w : World} {g : Nat} {t : TypeId} {a0 a1 a2 a3 a4 a5 a6 a7 a8 a9 a10 a11 a12 a13 a14 a15 : Value} (h : w.heap[g]? = some (.cells #[a0, a1, a2, a3, a4, a5, a6, a7, a8, a9, a10, a11, a12, a13, a14, a15] t (0, 0))) (u v : Value) :
  ((w.setCell ⟨g, 14, none⟩ u).setCell ⟨g, 15, none⟩ v).heap[g]? = some (.cells #[a0, a1, a2, a3, a4, a5, a6, a7, a8, a9, a10, a11, a12, a13, u, v] t (0, 0)) := blk_set (blk_set h 14 u) 15 v
def evenRow (P : Int × Int → Bool) (wide : Int) : Nat → Int → Option (Int × Int)
 | 0, _ => none
 | d + 1, low => if P (low, low + wide) = true then some (low, low + wide) else evenRow P wide d (low + 1)
def evenGo (P : Int × Int → Bool) (b0 b1 : Int) : Nat → Nat → Option (Int × Int)
 | 0, _ => none
 | d + 1, i => match evenRow P (i : Int) (b1 + 1 - b0 - (i : Int)).toNat b0 with | some b => some b | none => evenGo P b0 b1 d (i + 1)
def evenF (h : List S26) (js : List J) (b0 b1 : Int) : Int × Int := (evenGo (fun b => tunS h js noLeft b []) b0 b1 (b1 - b0 + 1).toNat 0).getD (b0, b1)
def evenE (h : List S26) (s : List S61) (p : List S48) (b0 b1 : Int) : Int := if checkT h s p b0 b1 ≠ 0 then 10 else if p.length = 0 then 4 else askedE h s p b0 b1 true
def evenT (h : List S26) (s : List S61) (p : List S48) (b0 b1 : Int) : Int × Int := if evenE h s p b0 b1 = 0 then evenF h (jsOf h s p b0 b1) b0 b1 else (0, 0)
set_option maxRecDepth 100000 in
set_option maxHeartbeats 8000000 in
theorem even_10 (A0 : Option Addr) (c0 : Nat) (h : List S26) (A1 : Option Addr) (c1 : Nat) (s : List S61) (A2 : Option Addr) (c2 : Nat) (p : List S48) (b0 b1 : Int) (w : World) (hsm : small h s p = true) (hG : Glob w)
  (h0 : Kd.C k26 w A0 h.length h) (hc0 : h.length ≤ c0) (h1 : Kd.C k61 w A1 s.length s) (hc1 : s.length ≤ c1) (h2 : Kd.C k48 w A2 p.length p) (hc2 : p.length ≤ c2) (hck : checkT h s p b0 b1 = 10) :
  Calls Tryd.prog 29 #[.agg #[.slice A0 h.length c0, .slice A1 s.length c1, .slice A2 p.length c2, .int .i64 b0, .int .i64 b1]] w fun e w' => e = .returned (.tuple #[.agg #[.int .i64 0, .int .i64 0], .int .i64 10]) ∧ Below w.heap.size w w' := by
 have hu77 := Tryd.underlying77
 have hu80 := Tryd.underlying80
 have hu28 := Tryd.underlying28
 have hu26 := Tryd.underlying26
 have HB0 := zh (below_alloc (below_alloc (Below.refl w.heap.size w) (.cells #[.slice A0 h.length c0, .slice A1 s.length c1, .slice A2 p.length c2, .int .i64 b0, .int .i64 b1] 28)) (.cells #[.int .i64 0, .int .i64 0] 26))
 have B0 := zh (blk_alloc (alloc_at w (.cells #[.slice A0 h.length c0, .slice A1 s.length c1, .slice A2 p.length c2, .int .i64 b0, .int .i64 b1] 28) w.heap.size rfl) (.cells #[.int .i64 0, .int .i64 0] 26))
 have Z0 := zh (alloc_at (w.alloc (.cells #[.slice A0 h.length c0, .slice A1 s.length c1, .slice A2 p.length c2, .int .i64 b0, .int .i64 b1] 28)) (.cells #[.int .i64 0, .int .i64 0] 26) (w.heap.size + 1) (by simp))
 have HGW := zh hG
 have D0 := zh h0
 have D1 := zh h1
 have D2 := zh h2
 have HSM := zh hsm
 have HCK := zh (check_calls A0 c0 h A1 c1 s A2 c2 p b0 b1 _ hsm (Kd.C_below h0 HB0.out) hc0 (Kd.C_below h1 HB0.out) hc1 (Kd.C_below h2 HB0.out) hc2)
 clear h0 h1 h2 hG hsm
 rw [hck] at HCK
 clear hck
 go_enter Tryd.func29, Tryd.ntmps29
 go_wp2_with (go_at_call 18; refine HCK.out.mono ?_; rintro e w1 ⟨rfl, hb⟩; have HB1 := zh (HB0.out.trans (hb.mono HB0.out.size)); have C1 := zh (blk_below B0.out hb); have Z1 := zh (blk_below Z0.out hb); clear hb; obtain ⟨z0, z1, z2, z3, z4⟩ := cells5 C1.out; obtain ⟨y0, y1⟩ := cells2 Z1.out; obtain ⟨f0, f1⟩ := froz2 Z1.out)
 exact bodyPost_ret (results_ct rfl _ _ (w.heap.size + 1) 26 #[.int .i64 0, .int .i64 0] (0, 0) _ rfl (set2 Z1.out _ _) Tryd.underlying26 rfl zk) rfl ⟨rfl, (HB1.out.setCell dQ2 _).setCell dQ2 _⟩
set_option maxRecDepth 100000 in
set_option maxHeartbeats 8000000 in
theorem even_4 (A0 : Option Addr) (c0 : Nat) (h : List S26) (A1 : Option Addr) (c1 : Nat) (s : List S61) (A2 : Option Addr) (c2 : Nat) (p : List S48) (b0 b1 : Int) (w : World) (hsm : small h s p = true) (hG : Glob w)
  (h0 : Kd.C k26 w A0 h.length h) (hc0 : h.length ≤ c0) (h1 : Kd.C k61 w A1 s.length s) (hc1 : s.length ≤ c1) (h2 : Kd.C k48 w A2 p.length p) (hc2 : p.length ≤ c2) (hck : checkT h s p b0 b1 = 0) (hp : p.length = 0) :
  Calls Tryd.prog 29 #[.agg #[.slice A0 h.length c0, .slice A1 s.length c1, .slice A2 p.length c2, .int .i64 b0, .int .i64 b1]] w fun e w' => e = .returned (.tuple #[.agg #[.int .i64 0, .int .i64 0], .int .i64 4]) ∧ Below w.heap.size w w' := by
 have hu77 := Tryd.underlying77
 have hu80 := Tryd.underlying80
 have hu28 := Tryd.underlying28
 have hu26 := Tryd.underlying26
 have HB0 := zh (below_alloc (below_alloc (Below.refl w.heap.size w) (.cells #[.slice A0 h.length c0, .slice A1 s.length c1, .slice A2 p.length c2, .int .i64 b0, .int .i64 b1] 28)) (.cells #[.int .i64 0, .int .i64 0] 26))
 have B0 := zh (blk_alloc (alloc_at w (.cells #[.slice A0 h.length c0, .slice A1 s.length c1, .slice A2 p.length c2, .int .i64 b0, .int .i64 b1] 28) w.heap.size rfl) (.cells #[.int .i64 0, .int .i64 0] 26))
 have Z0 := zh (alloc_at (w.alloc (.cells #[.slice A0 h.length c0, .slice A1 s.length c1, .slice A2 p.length c2, .int .i64 b0, .int .i64 b1] 28)) (.cells #[.int .i64 0, .int .i64 0] 26) (w.heap.size + 1) (by simp))
 have HGW := zh hG
 have D0 := zh h0
 have D1 := zh h1
 have D2 := zh h2
 have HSM := zh hsm
 have HCK := zh (check_calls A0 c0 h A1 c1 s A2 c2 p b0 b1 _ hsm (Kd.C_below h0 HB0.out) hc0 (Kd.C_below h1 HB0.out) hc1 (Kd.C_below h2 HB0.out) hc2)
 clear h0 h1 h2 hG hsm
 rw [hck] at HCK
 have hp0 : ((p.length : Int) == 0) = true := by rw [hp]; rfl
 clear hck hp
 go_enter Tryd.func29, Tryd.ntmps29
 go_wp2_with (go_at_call 18; refine HCK.out.mono ?_; rintro e w1 ⟨rfl, hb⟩; have HB1 := zh (HB0.out.trans (hb.mono HB0.out.size)); have C1 := zh (blk_below B0.out hb); have Z1 := zh (blk_below Z0.out hb); clear hb; obtain ⟨z0, z1, z2, z3, z4⟩ := cells5 C1.out; obtain ⟨y0, y1⟩ := cells2 Z1.out; obtain ⟨f0, f1⟩ := froz2 Z1.out)
 exact bodyPost_ret (results_ct rfl _ _ (w.heap.size + 1) 26 #[.int .i64 0, .int .i64 0] (0, 0) _ rfl (set2 Z1.out _ _) Tryd.underlying26 rfl zk) rfl ⟨rfl, (HB1.out.setCell dQ2 _).setCell dQ2 _⟩
set_option maxRecDepth 100000 in
set_option maxHeartbeats 8000000 in
theorem even_12 (A0 : Option Addr) (c0 : Nat) (h : List S26) (A1 : Option Addr) (c1 : Nat) (s : List S61) (A2 : Option Addr) (c2 : Nat) (p : List S48) (b0 b1 : Int) E (w : World) (hsm : small h s p = true) (hG : Glob w)
  (h0 : Kd.C k26 w A0 h.length h) (hc0 : h.length ≤ c0) (h1 : Kd.C k61 w A1 s.length s) (hc1 : s.length ≤ c1) (h2 : Kd.C k48 w A2 p.length p) (hc2 : p.length ≤ c2) (hck : checkT h s p b0 b1 = 0) (hp : p.length ≠ 0) (hE : askedE h s p b0 b1 true = E) (hz : E ≠ 0) :
  Calls Tryd.prog 29 #[.agg #[.slice A0 h.length c0, .slice A1 s.length c1, .slice A2 p.length c2, .int .i64 b0, .int .i64 b1]] w fun e w' => e = .returned (.tuple #[.agg #[.int .i64 0, .int .i64 0], .int .i64 E]) ∧ Below w.heap.size w w' := by
 have hu77 := Tryd.underlying77
 have hu80 := Tryd.underlying80
 have hu28 := Tryd.underlying28
 have hu26 := Tryd.underlying26
 have HB0 := zh (below_alloc (below_alloc (Below.refl w.heap.size w) (.cells #[.slice A0 h.length c0, .slice A1 s.length c1, .slice A2 p.length c2, .int .i64 b0, .int .i64 b1] 28)) (.cells #[.int .i64 0, .int .i64 0] 26))
 have B0 := zh (blk_alloc (alloc_at w (.cells #[.slice A0 h.length c0, .slice A1 s.length c1, .slice A2 p.length c2, .int .i64 b0, .int .i64 b1] 28) w.heap.size rfl) (.cells #[.int .i64 0, .int .i64 0] 26))
 have Z0 := zh (alloc_at (w.alloc (.cells #[.slice A0 h.length c0, .slice A1 s.length c1, .slice A2 p.length c2, .int .i64 b0, .int .i64 b1] 28)) (.cells #[.int .i64 0, .int .i64 0] 26) (w.heap.size + 1) (by simp))
 have HGW := zh hG
 have D0 := zh h0
 have D1 := zh h1
 have D2 := zh h2
 have HSM := zh hsm
 have HCK := zh (check_calls A0 c0 h A1 c1 s A2 c2 p b0 b1 _ hsm (Kd.C_below h0 HB0.out) hc0 (Kd.C_below h1 HB0.out) hc1 (Kd.C_below h2 HB0.out) hc2)
 clear h0 h1 h2 hG hsm
 rw [hck] at HCK
 have hp0 : ((p.length : Int) == 0) = false := beq_eq_false_iff_ne.2 (fun e => hp (by omega))
 have hz1 : (E != 0) = true := bne_iff_ne.2 hz
 have HAS : Aside0 (∀ W, Below w.heap.size w W → Calls Tryd.prog 62 #[.agg #[.slice A0 h.length c0, .slice A1 s.length c1, .slice A2 p.length c2, .int .i64 b0, .int .i64 b1], .bool true] W fun e w' => e = .returned (.tuple #[.agg #[.slice none 0 0, .slice none 0 0, .slice none 0 0, .int .i64 0, .int .i64 0, .slice none 0 0, .bool false, .bool false, .bool false, .bool false, .bool false, .bool false, .bool false, .bool false, .int .i64 0, .int .i64 0], .int .i64 E]) ∧ Below W.heap.size W w') := ⟨fun W hW => asked_bad A0 c0 h A1 c1 s A2 c2 p b0 b1 true W HSM.out (HGW.out.below hW) (Kd.C_below D0.out hW) hc0 (Kd.C_below D1.out hW) hc1 (Kd.C_below D2.out hW) hc2 E hE hz⟩
 clear hck hp hE hz
 go_enter Tryd.func29, Tryd.ntmps29
 go_wp2_with (first | (go_at_call 18; refine HCK.out.mono ?_; rintro e w1 ⟨rfl, hb⟩; have HB1 := zh (HB0.out.trans (hb.mono HB0.out.size)); have C1 := zh (blk_below B0.out hb); have Z1 := zh (blk_below Z0.out hb); clear hb; obtain ⟨z0, z1, z2, z3, z4⟩ := cells5 C1.out; obtain ⟨y0, y1⟩ := cells2 Z1.out; obtain ⟨f0, f1⟩ := froz2 Z1.out) | (go_at_call 62; refine (HAS.out _ HB1.out).mono ?_; rintro e w2 ⟨rfl, hb⟩; have HB2 := zh (below_alloc (HB1.out.trans (hb.mono HB1.out.size)) (.cells #[.slice none 0 0, .slice none 0 0, .slice none 0 0, .int .i64 0, .int .i64 0, .slice none 0 0, .bool false, .bool false, .bool false, .bool false, .bool false, .bool false, .bool false, .bool false, .int .i64 0, .int .i64 0] 77)); have Z2 := zh (blk_alloc (blk_below Z1.out hb) (.cells #[.slice none 0 0, .slice none 0 0, .slice none 0 0, .int .i64 0, .int .i64 0, .slice none 0 0, .bool false, .bool false, .bool false, .bool false, .bool false, .bool false, .bool false, .bool false, .int .i64 0, .int .i64 0] 77)); clear hb y0 y1 f0 f1; obtain ⟨y0, y1⟩ := cells2 Z2.out; obtain ⟨f0, f1⟩ := froz2 Z2.out))
 exact bodyPost_ret (results_ct rfl _ _ (w.heap.size + 1) 26 #[.int .i64 0, .int .i64 0] (0, 0) _ rfl (set2 Z2.out _ _) Tryd.underlying26 rfl zk) rfl ⟨rfl, (HB2.out.setCell dQ2 _).setCell dQ2 _⟩
open Classical in
set_option maxRecDepth 100000 in
set_option maxHeartbeats 8000000 in
theorem even_good (A0 : Option Addr) (c0 : Nat) (h : List S26) (A1 : Option Addr) (c1 : Nat) (s : List S61) (A2 : Option Addr) (c2 : Nat) (p : List S48) (b0 b1 : Int) (w : World) (hsm : small h s p = true) (hG : Glob w)
  (h0 : Kd.C k26 w A0 h.length h) (hc0 : h.length ≤ c0) (h1 : Kd.C k61 w A1 s.length s) (hc1 : s.length ≤ c1) (h2 : Kd.C k48 w A2 p.length p) (hc2 : p.length ≤ c2) (hp : p.length ≠ 0) (hE : askedE h s p b0 b1 true = 0) :
  Calls Tryd.prog 29 #[.agg #[.slice A0 h.length c0, .slice A1 s.length c1, .slice A2 p.length c2, .int .i64 b0, .int .i64 b1]] w fun e w' => e = .returned (.tuple #[.agg #[.int .i64 (evenF h (jsOf h s p b0 b1) b0 b1).1, .int .i64 (evenF h (jsOf h s p b0 b1) b0 b1).2], .int .i64 0]) ∧ Below w.heap.size w w' := by
 have hu77 := Tryd.underlying77
 have hu80 := Tryd.underlying80
 have hu28 := Tryd.underlying28
 have hu26 := Tryd.underlying26
 have HB0 := zh (below_alloc (below_alloc (Below.refl w.heap.size w) (.cells #[.slice A0 h.length c0, .slice A1 s.length c1, .slice A2 p.length c2, .int .i64 b0, .int .i64 b1] 28)) (.cells #[.int .i64 0, .int .i64 0] 26))
 have B0 := zh (blk_alloc (alloc_at w (.cells #[.slice A0 h.length c0, .slice A1 s.length c1, .slice A2 p.length c2, .int .i64 b0, .int .i64 b1] 28) w.heap.size rfl) (.cells #[.int .i64 0, .int .i64 0] 26))
 have Z0 := zh (alloc_at (w.alloc (.cells #[.slice A0 h.length c0, .slice A1 s.length c1, .slice A2 p.length c2, .int .i64 b0, .int .i64 b1] 28)) (.cells #[.int .i64 0, .int .i64 0] 26) (w.heap.size + 1) (by simp))
 have HGW := zh hG
 have D0 := zh h0
 have D1 := zh h1
 have D2 := zh h2
 have HSM := zh hsm
 have HCK := zh (check_calls A0 c0 h A1 c1 s A2 c2 p b0 b1 _ hsm (Kd.C_below h0 HB0.out) hc0 (Kd.C_below h1 HB0.out) hc1 (Kd.C_below h2 HB0.out) hc2)
 clear h0 h1 h2 hG hsm
 obtain ⟨hck, _, hT⟩ := askedE_ok hE
 rw [hck] at HCK
 have hp0 : ((p.length : Int) == 0) = false := beq_eq_false_iff_ne.2 (fun e => hp (by omega))
 obtain ⟨F, hjm, hb0, hb01, hb1⟩ := fine_of hck
 obtain ⟨ad0, rfl⟩ : ∃ ad, A0 = some ad := by obtain ⟨ad, e, _⟩ := H_at D0.out 0 (by have := F.some; omega); exact ⟨ad, e⟩
 have HAS : Aside0 (∀ W, Below w.heap.size w W → Calls Tryd.prog 62 #[.agg #[.slice (some ad0) h.length c0, .slice A1 s.length c1, .slice A2 p.length c2, .int .i64 b0, .int .i64 b1], .bool true] W fun e w' => ∃ A3 c3, e = .returned (.tuple #[.agg #[.slice (some ad0) h.length c0, .slice A1 s.length c1, .slice A2 p.length c2, .int .i64 b0, .int .i64 b1, .slice A3 (jsOf h s p b0 b1).length c3, .bool false, .bool false, .bool false, .bool false, .bool false, .bool false, .bool false, .bool false, .int .i64 b0, .int .i64 b1], .int .i64 0]) ∧ Kd.F k80 w' (fun k => W.heap.size ≤ k) A3 (jsOf h s p b0 b1).length ((jsOf h s p b0 b1).map ofJ) ∧ Below W.heap.size W w') := ⟨fun W hW => asked_good (some ad0) c0 h A1 c1 s A2 c2 p b0 b1 true W HSM.out (HGW.out.below hW) (Kd.C_below D0.out hW) hc0 (Kd.C_below D1.out hW) hc1 (Kd.C_below D2.out hW) hc2 hE⟩
 obtain ⟨js, hjs⟩ : ∃ js, jsOf h s p b0 b1 = js := ⟨_, rfl⟩
 rw [hjs] at HAS F
 rw [hjs]
 have HF := zh F
 obtain ⟨P, hP⟩ : ∃ P : Int × Int → Bool, (fun b => tunS h js noLeft b []) = P := ⟨_, rfl⟩
 have HCA : Aside0 (∀ W A3 c3 e0 e1, Below w.heap.size w W → Kd.C k80 W A3 js.length (js.map ofJ) → Calls Tryd.prog 71 #[.agg #[.slice (some ad0) h.length c0, .slice A1 s.length c1, .slice A2 p.length c2, .int .i64 b0, .int .i64 b1, .slice A3 js.length c3, .bool false, .bool false, .bool false, .bool false, .bool false, .bool false, .bool false, .bool false, .int .i64 e0, .int .i64 e1]] W fun e w' => e = .returned (.bool (P (e0, e1))) ∧ Below W.heap.size W w') := ⟨fun W A3 c3 e0 e1 hW hj => by
  obtain ⟨g, hg⟩ := F.forest
  have h9 := can_sem ad0 c0 h (.slice A1 s.length c1) (.slice A2 p.length c2) b0 b1 noLeft e0 e1 A3 c3 js g W hg F.joins (Kd.C_below D0.out hW) hj (HGW.out.below hW) F.few (fun x hx => ⟨(F.span x hx).1, (F.span x hx).2.1, (F.span x hx).2.2.1⟩)
  refine h9.mono (fun e w' h8 => ⟨h8.1.trans ?_, h8.2⟩)
  congr 2
  rw [← hP]
  dsimp only
  cases ht : tunS h js noLeft (e0, e1) [] with
  | true => exact decide_eq_true ((tunS_iff F.joins).1 ht)
  | false => exact decide_eq_false (fun hn => by rw [(tunS_iff F.joins).2 hn] at ht; cases ht)⟩
 obtain ⟨R, hR⟩ : ∃ R, evenF h js b0 b1 = R := ⟨_, rfl⟩
 obtain ⟨n, hn⟩ : ∃ n : Nat, b1 - b0 + 1 = (n : Int) := ⟨(b1 - b0 + 1).toNat, by omega⟩
 have HR : Aside0 ((evenGo P b0 b1 (n - 0) 0).getD (b0, b1) = R) := ⟨by rw [← hR]; unfold evenF; rw [hP, hn, Int.toNat_natCast]; rfl⟩
 rw [hR]
 clear hck hT hE hjm hjs hP hR hp F
 go_enter Tryd.func29, Tryd.ntmps29
 go_wp2_with (first | (go_at_call 18; refine HCK.out.mono ?_; rintro e w1 ⟨rfl, hb⟩; have HB1 := zh (HB0.out.trans (hb.mono HB0.out.size)); have C1 := zh (blk_below B0.out hb); have Z1 := zh (blk_below Z0.out hb); clear hb; obtain ⟨z0, z1, z2, z3, z4⟩ := cells5 C1.out; obtain ⟨y0, y1⟩ := cells2 Z1.out; obtain ⟨f0, f1⟩ := froz2 Z1.out) | (go_at_call 62; refine (HAS.out _ HB1.out).mono ?_; rintro e w2 ⟨A3, c3, rfl, hF, hb⟩; have HB2 := zh (below_alloc (HB1.out.trans (hb.mono HB1.out.size)) (.cells #[.slice (some ad0) h.length c0, .slice A1 s.length c1, .slice A2 p.length c2, .int .i64 b0, .int .i64 b1, .slice A3 js.length c3, .bool false, .bool false, .bool false, .bool false, .bool false, .bool false, .bool false, .bool false, .int .i64 b0, .int .i64 b1] 77)); have Z2 := zh (blk_alloc (blk_below Z1.out hb) (.cells #[.slice (some ad0) h.length c0, .slice A1 s.length c1, .slice A2 p.length c2, .int .i64 b0, .int .i64 b1, .slice A3 js.length c3, .bool false, .bool false, .bool false, .bool false, .bool false, .bool false, .bool false, .bool false, .int .i64 b0, .int .i64 b1] 77)); have B2 := zh (blk_alloc (blk_below C1.out hb) (.cells #[.slice (some ad0) h.length c0, .slice A1 s.length c1, .slice A2 p.length c2, .int .i64 b0, .int .i64 b1, .slice A3 js.length c3, .bool false, .bool false, .bool false, .bool false, .bool false, .bool false, .bool false, .bool false, .int .i64 b0, .int .i64 b1] 77)); have X2 := zh (alloc_at w2 (.cells #[.slice (some ad0) h.length c0, .slice A1 s.length c1, .slice A2 p.length c2, .int .i64 b0, .int .i64 b1, .slice A3 js.length c3, .bool false, .bool false, .bool false, .bool false, .bool false, .bool false, .bool false, .bool false, .int .i64 b0, .int .i64 b1] 77) w2.heap.size rfl); have HF2 := zh (Kd.F_mono (ok' := fun k => k ≠ w2.heap.size) (Kd.F_alloc (Kd.F_bound hF) (.cells #[.slice (some ad0) h.length c0, .slice A1 s.length c1, .slice A2 p.length c2, .int .i64 b0, .int .i64 b1, .slice A3 js.length c3, .bool false, .bool false, .bool false, .bool false, .bool false, .bool false, .bool false, .bool false, .int .i64 b0, .int .i64 b1] 77)) (fun k hk => Nat.ne_of_lt hk.2)); have hg1 := Nat.le_trans HB1.out.size hb.size; have hz1 := Nat.lt_of_lt_of_le (blk_lt Z1.out) hb.size; clear hF hb z0 z1 z2 z3 z4 y0 y1 f0 f1; obtain ⟨z0, z1, z2, z3, z4⟩ := cells5 B2.out))
 clear z0 z1 z2 z3 z4
 obtain ⟨g, hg⟩ : ∃ g, w2.heap.size = g := ⟨_, rfl⟩
 simp only [hg] at X2 HF2 hg1 hz1 ⊢
 clear hg
 have hw0 : ((n : Nat) : Int) ≤ 61 := by omega
 go_loopw [37] (fun u wr => ∃ i : Nat, i ≤ n ∧ u = .int .i64 i ∧ Aside0 ((evenGo P b0 b1 (n - i) i).getD (b0, b1) = R) ∧ Aside0 (∃ e0 e1, wr.heap[g]? = some (.cells #[.slice (some ad0) h.length c0, .slice A1 s.length c1, .slice A2 p.length c2, .int .i64 b0, .int .i64 b1, .slice A3 js.length c3, .bool false, .bool false, .bool false, .bool false, .bool false, .bool false, .bool false, .bool false, .int .i64 e0, .int .i64 e1] 77 (0, 0))) ∧ Aside0 (Kd.F k80 wr (fun k => k ≠ g) A3 js.length (js.map ofJ)) ∧ Aside0 (wr.heap[w.heap.size]? = some (.cells #[.slice (some ad0) h.length c0, .slice A1 s.length c1, .slice A2 p.length c2, .int .i64 b0, .int .i64 b1] 28 (0, 0))) ∧ Aside0 (wr.heap[w.heap.size + 1]? = some (.cells #[.int .i64 0, .int .i64 0] 26 (0, 0))) ∧ Aside0 (Below w.heap.size w wr)) (fun u _ => n - (intOf u).toNat)
 case atStart => exact ⟨0, Nat.zero_le _, rfl, HR, ⟨_, _, X2.out⟩, HF2, B2, Z2, HB2⟩
 case round =>
  obtain ⟨i, hi, rfl, HI, Xr, Fr, Br, Zr, HBr⟩ := hrel
  by_cases hil : i < n
  ·have hil' : (i : Int) < (n : Int) := by omega
   obtain ⟨z0, z1, z2, z3, z4⟩ := cells5 Br.out
   have HI0 : Aside0 ((match evenRow P (i : Int) (b1 + 1 - b0 - (i : Int)).toNat b0 with | some b => some b | none => evenGo P b0 b1 (n - (i + 1)) (i + 1)).getD (b0, b1) = R) := ⟨by
    have h9 := HI.out
    rw [show n - i = (n - (i + 1)) + 1 by omega, evenGo] at h9
    exact h9⟩
   go_wp2
   clear z0 z1 z2 z3 z4
   go_loopw [8] (fun u wr => ∃ low : Int, b0 ≤ low ∧ low + (i : Int) ≤ b1 + 1 ∧ u = .int .i64 low ∧ Aside0 ((match evenRow P (i : Int) (b1 + 1 - low - (i : Int)).toNat low with | some b => some b | none => evenGo P b0 b1 (n - (i + 1)) (i + 1)).getD (b0, b1) = R) ∧ Aside0 (∃ e0 e1, wr.heap[g]? = some (.cells #[.slice (some ad0) h.length c0, .slice A1 s.length c1, .slice A2 p.length c2, .int .i64 b0, .int .i64 b1, .slice A3 js.length c3, .bool false, .bool false, .bool false, .bool false, .bool false, .bool false, .bool false, .bool false, .int .i64 e0, .int .i64 e1] 77 (0, 0))) ∧ Aside0 (Kd.F k80 wr (fun k => k ≠ g) A3 js.length (js.map ofJ)) ∧ Aside0 (wr.heap[w.heap.size]? = some (.cells #[.slice (some ad0) h.length c0, .slice A1 s.length c1, .slice A2 p.length c2, .int .i64 b0, .int .i64 b1] 28 (0, 0))) ∧ Aside0 (wr.heap[w.heap.size + 1]? = some (.cells #[.int .i64 0, .int .i64 0] 26 (0, 0))) ∧ Aside0 (Below w.heap.size w wr)) (fun u _ => (b1 + 1 - (i : Int) - intOf u).toNat)
   case atStart => exact ⟨b0, Int.le_refl _, by omega, rfl, HI0, Xr, Fr, Br, Zr, HBr⟩
   case round =>
    obtain ⟨low, hl0, hl1, rfl, HM, Xm, Fm, Bm, Zm, HBm⟩ := hrel
    obtain ⟨z0, z1, z2, z3, z4⟩ := cells5 Bm.out
    by_cases hlb : low + (i : Int) ≤ b1
    ·have HM2 : Aside0 ((match (if P (low, low + (i : Int)) = true then some (low, low + (i : Int)) else evenRow P (i : Int) (b1 + 1 - (low + 1) - (i : Int)).toNat (low + 1)) with | some b => some b | none => evenGo P b0 b1 (n - (i + 1)) (i + 1)).getD (b0, b1) = R) := ⟨by
      have h9 := HM.out
      rw [show (b1 + 1 - low - (i : Int)).toNat = (b1 + 1 - (low + 1) - (i : Int)).toNat + 1 by omega, evenRow] at h9
      exact h9⟩
     obtain ⟨e0, e1, hx⟩ := Xm.out
     have XB := zh (set_beat hx (.int .i64 low) (.int .i64 (low + (i : Int))))
     obtain ⟨x0, x1, x2, x3, x4, x5, x6, x7, x8, x9, x10, x11, x12, x13, x14, x15⟩ := cells16 XB.out
     have c14 : wr.cell? ⟨g, 14, none⟩ = some (.int .i64 e0) := (blk_cell hx 14).trans rfl
     have c15 : wr.cell? ⟨g, 15, none⟩ = some (.int .i64 e1) := (blk_cell hx 15).trans rfl
     have f14 : wr.frozen? ⟨g, 14, none⟩ = false := blk_frozen hx 14
     have f15 : wr.frozen? ⟨g, 15, none⟩ = false := blk_frozen hx 15
     have FB := zh (Kd.F_far (Kd.F_far Fm.out (p := ⟨g, 14, none⟩) (fun k hk => hk) (.int .i64 low)) (p := ⟨g, 15, none⟩) (fun k hk => hk) (.int .i64 (low + (i : Int))))
     have BB := zh (blk_far (blk_far Bm.out (p := ⟨g, 14, none⟩) (by show w.heap.size ≠ g; omega) (.int .i64 low)) (p := ⟨g, 15, none⟩) (by show w.heap.size ≠ g; omega) (.int .i64 (low + (i : Int))))
     have ZZ := zh (blk_far (blk_far Zm.out (p := ⟨g, 14, none⟩) (by show w.heap.size + 1 ≠ g; omega) (.int .i64 low)) (p := ⟨g, 15, none⟩) (by show w.heap.size + 1 ≠ g; omega) (.int .i64 (low + (i : Int))))
     have HBB := zh ((HBm.out.setCell (p := ⟨g, 14, none⟩) (by show w.heap.size ≤ g; omega) (.int .i64 low)).setCell (p := ⟨g, 15, none⟩) (by show w.heap.size ≤ g; omega) (.int .i64 (low + (i : Int))))
     clear hx
     cases hpb : P (low, low + (i : Int)) with
     | true =>
      have HPB := zh hpb
      have HRR : Aside0 (R = (low, low + (i : Int))) := ⟨by have h9 := HM2.out; rw [hpb, if_pos rfl] at h9; exact h9.symm⟩
      clear hpb
      go_wp2_with (go_at_call 71; (with_reducible refine (HCA.out _ A3 c3 low (low + (i : Int)) HBB.out (Kd.F_now FB.out)).mono ?_); rintro e w5 ⟨rfl, hb⟩; rw [HPB.out]; have X5 := zh (blk_below XB.out hb); have Z5 := zh (blk_below ZZ.out hb); have HB5 := zh (HBB.out.trans (hb.mono HBB.out.size)); clear hb x0 x1 x2 x3 x4 x5 x6 x7 x8 x9 x10 x11 x12 x13 x14 x15; have x14 : w5.cell? ⟨g, 14, none⟩ = some (.int .i64 low) := vb X5 14; have x15 : w5.cell? ⟨g, 15, none⟩ = some (.int .i64 (low + (i : Int))) := vb X5 15; obtain ⟨y0, y1⟩ := cells2 Z5.out; obtain ⟨f0, f1⟩ := froz2 Z5.out)
      exact bodyPost_ret (results_ct rfl _ _ (w.heap.size + 1) 26 #[.int .i64 low, .int .i64 (low + (i : Int))] (0, 0) _ rfl (set2 Z5.out _ _) Tryd.underlying26 rfl zk) rfl ⟨by rw [HRR.out]; rfl, (HB5.out.setCell dQ2 _).setCell dQ2 _⟩
     | false =>
      have HPB := zh hpb
      have HM3 : Aside0 ((match evenRow P (i : Int) (b1 + 1 - (low + 1) - (i : Int)).toNat (low + 1) with | some b => some b | none => evenGo P b0 b1 (n - (i + 1)) (i + 1)).getD (b0, b1) = R) := ⟨by have h9 := HM2.out; rw [hpb, if_neg (by decide)] at h9; exact h9⟩
      clear hpb
      go_wp2_with (go_at_call 71; (with_reducible refine (HCA.out _ A3 c3 low (low + (i : Int)) HBB.out (Kd.F_now FB.out)).mono ?_); rintro e w5 ⟨rfl, hb⟩; rw [HPB.out]; have X5 := zh (blk_below XB.out hb); have Z5 := zh (blk_below ZZ.out hb); have B5 := zh (blk_below BB.out hb); have F5 := zh (Kd.F_below FB.out hb); have HB5 := zh (HBB.out.trans (hb.mono HBB.out.size)); clear hb x0 x1 x2 x3 x4 x5 x6 x7 x8 x9 x10 x11 x12 x13 x14 x15)
      go_roundw
      case rel => exact ⟨low + 1, by omega, by omega, by go_num, HM3, ⟨_, _, X5.out⟩, F5, B5, Z5, HB5⟩
      case measure => simp [intOf]; omega
    ·have HM2 : Aside0 ((evenGo P b0 b1 (n - (i + 1)) (i + 1)).getD (b0, b1) = R) := ⟨by
      have h9 := HM.out
      rw [show (b1 + 1 - low - (i : Int)).toNat = 0 by omega, evenRow] at h9
      exact h9⟩
     go_wp2
     go_roundw
     case rel => exact ⟨i + 1, by omega, by go_num, HM2, Xm, Fm, Bm, Zm, HBm⟩
     case measure => simp [intOf]; omega
  ·obtain rfl : i = n := by omega
   have hil' : ¬ ((i : Nat) : Int) < (i : Int) := by omega
   have HRR : Aside0 (R = (b0, b1)) := ⟨by have h9 := HI.out; rw [Nat.sub_self, evenGo] at h9; exact h9.symm⟩
   obtain ⟨z0, z1, z2, z3, z4⟩ := cells5 Br.out
   obtain ⟨y0, y1⟩ := cells2 Zr.out
   obtain ⟨f0, f1⟩ := froz2 Zr.out
   go_wp2
   exact bodyPost_ret (results_ct rfl _ _ (w.heap.size + 1) 26 #[.int .i64 b0, .int .i64 b1] (0, 0) _ rfl (set2 Zr.out _ _) Tryd.underlying26 rfl zk) rfl ⟨by rw [HRR.out]; rfl, (HBr.out.setCell dQ2 _).setCell dQ2 _⟩
end Go.Proofs.YtgehkojccmkggaaDoor.K
end
section
namespace Go.Proofs.YtgehkojccmkggaaDoor.K
open Go.RowKit Go.Shelf Go.Proofs.YtgehkojccmkggaaDoorW.PrintWords Go.Proofs.YtgehkojccmkggaaDoorW.PrintLast Go.Proofs.YtgehkojccmkggaaDoorW.PrintMore Go.Proofs.YtgehkojccmkggaaDoor.H Tune
set_option linter.unusedVariables false
set_option linter.unusedSimpArgs false
attribute [local go_sem] Oper.semAt_some
theorem goesC_ {P : Program} {ops : Array Oper} {Q : Exit → Act → World → Prop} {oi : Oper} {N : Option Tmp} {a : Act} {w : World} {K : Act → World → Prop} {f : FuncId} {fn : Func} {c : Operand} {xs : Array Operand} {ts : Array TypeId} {caps : Array Value} (hf : P.funcs[f]? = some fn) (hname : (fn.name == "runtime.NumGoroutine") = false) (hb : fn.body.isSome = true) (args : Array Value)
  (hw : Region.wanted oi (yielded ops a.tmps) = true) (hN : oi.dst = N) (hop : oi.op = .call { callee := .value c, args := xs, argTypes := ts }) (hc : a.eval c = .func (.func f) #[] caps) (hargs : xs.map a.eval = args)
  (h : Calls P f (args ++ caps) w fun e w' => ∃ v, e = .returned v ∧ K (a.put N v) w') : if Region.wanted oi (yielded ops a.tmps) = true then Oper.wp P oi a w K Q else K (a.put N undef) w := by
 refine call_ f (args ++ caps) hw hN ?_ h
 have he := enters_ hf hname hb (args ++ caps) w
 unfold execOp
 simp [hop, resolve, Deferred.ofValue, invoke, hc, hargs, he]
theorem C_pre {w : World} {g : Nat} {cs : Array Value} {t : TypeId} {xs : List Int} (h : w.heap[g]? = some (.cells cs t (0, 0))) (hc : cs.toList.take xs.length = nums .i64 xs) (hn : xs.length ≤ 9223372036854775807) : Kd.C (Kd.int .i64) w (some ⟨g, 0, none⟩) xs.length xs := by
 refine ⟨rfl, hn, fun _ => ⟨_, rfl, fun j p hj => ⟨[.int .i64 p], rfl, rfl, fun i u hi => ?_⟩⟩⟩
 have hi0 : i = 0 := by
  have := (List.getElem?_eq_some_iff.1 hi).1
  simpa using this
 subst hi0
 obtain rfl : .int .i64 p = u := by simpa using hi
 have e := blk_cell h j
 have hjl := (List.getElem?_eq_some_iff.1 hj).1
 have e2 : cs[j]? = some (.int .i64 p) := by
  rw [← Array.getElem?_toList, ← List.getElem?_take_of_lt hjl, hc]
  simp [nums, hj]
 rw [e2] at e
 have hsz : (Kd.int .i64).sz = 1 := rfl
 by_cases hj0 : j = 0
 ·subst hj0
  simpa [hsz, Addr.add] using e
 ·simpa [hsz, Addr.add, hj0] using e
theorem own_F {w : World} {base n : Nat} {v : Value} {l : List Int} {k : Int} (h : w.ownsRow base 3 1 v n (nums .i64 l ++ [.int .i64 k])) (hn : (l ++ [k]).length = n) (hm : (l ++ [k]).length ≤ 9223372036854775807) :
  ∃ g c, v = .slice (some ⟨g, 0, none⟩) n c ∧ n ≤ c ∧ base ≤ g ∧ Kd.F (Kd.int .i64) w (fun x => x = g) (some ⟨g, 0, none⟩) n (l ++ [k]) := by
 have hx : nums .i64 l ++ [.int .i64 k] = nums .i64 (l ++ [k]) := by rw [nums_append]; rfl
 rw [hx] at h
 subst hn
 rcases h.2 with ⟨_, h0⟩ | ⟨g, cap, cur, hv, hb, hg, hcap, _, _, htake⟩
 ·rw [List.length_append] at h0; simp at h0
 ·refine ⟨g, cap, hv, hcap, hb, fun W' hW' => ?_⟩
  rw [Nat.mul_one] at htake
  exact C_pre ((hW' g rfl (blk_lt hg)).trans hg) htake hm
def chooseRow (C : Int → Option (List Int)) : Nat → Int → Option (List Int)
 | 0, _ => none
 | d + 1, k => match C k with | some l => some l | none => chooseRow C d (k + 1)
def fromK (l : List Int) : Int := if l = [] then 0 else l.getD (l.length - 1) 0 + 1
def chooseF (P : List Int → Bool) (n : Nat) : Nat → List Int → Nat → Option (List Int)
 | 0, _, _ => none
 | f + 1, l, many => if l.length = many then (if P l = true then some l else none) else chooseRow (fun k => chooseF P n f (l ++ [k]) many) (n - (fromK l).toNat) (fromK l)
def ChPost (B : Nat) (res : Option (List Int)) (w : World) (e : Ending) (w' : World) : Prop :=
 ∃ v, e = .returned (.tuple #[v, .bool res.isSome]) ∧ (∀ r, res = some r → ∃ A c, v = .slice A r.length c ∧ r.length ≤ c ∧ Kd.F (Kd.int .i64) w' (fun k => B ≤ k) A r.length r ∧ (A = none → r.length = 0 ∧ c = 0)) ∧ Below w.heap.size w w'
def wrongP (h : List S26) (s : List S61) (p : List S48) (b0 b1 : Int) (l : List Int) : Bool := tunS h (jsOf h s p b0 b1) (lfOf l) (b0, b1) []
def wrongGo (P : List Int → Bool) (n : Nat) : Nat → Nat → Option (List Int)
 | 0, _ => none
 | d + 1, many => match chooseF P n (many + 1) [] many with | some l => some l | none => wrongGo P n d (many + 1)
def wrongT (h : List S26) (s : List S61) (p : List S48) (b0 b1 : Int) : List Int := if checkT h s p b0 b1 = 0 then (wrongGo (wrongP h s p b0 b1) h.length (h.length + 1) 0).getD [] else []
def fWrong.T10 : Bool × List (List Nat × List Nat) := (true, [([], []), ([], []), ([], []), ([2], [2]), ([], []), ([4], [4]), ([1, 3, 5], [1, 3, 5]), ([], []), ([7], [7]), ([6, 8], [6, 8]), ([], []), ([0, 9, 10, 9], [0, 9, 10]), ([11], [11]), ([12], [12]), ([12], [12]), ([13, 11, 0, 1, 2, 3, 4, 5, 6, 7, 8, 9, 10, 11, 12, 13], [13]), ([14, 15, 0, 1, 2, 3, 4, 5, 6, 7, 8, 9, 10, 11, 12, 13, 14, 15], [14])])
def fWrong.B10 : List Nat := [0, 0, 0, 4, 0, 16, 62, 0, 128, 510, 0, 2047, 4095, 8191, 8191, 16383, 65535]
theorem fWrong.tab10 : rtab .any (opsOf Tryd.f73 10) = fWrong.T10 := by kernel_rfl
theorem fWrong.bits10 : waitsOk fWrong.T10.2 fWrong.B10 = true := by kernel_rfl
open Classical in
set_option maxRecDepth 100000 in
set_option maxHeartbeats 8000000 in
theorem choose_step (ad0 : Addr) (c0 : Nat) (h : List S26) (A1 : Option Addr) (c1 : Nat) (s : List S61) (A2 : Option Addr) (c2 : Nat) (p : List S48) (b0 b1 : Int) (gs gc B : Nat) (hsm : small h s p = true) (hck : checkT h s p b0 b1 = 0) (hc0 : h.length ≤ c0) (hc1 : s.length ≤ c1) (hc2 : p.length ≤ c2) (many : Nat) (f : Nat)
  (l : List Int) (A : Option Addr) (c : Nat) (W : World) (hlm : l.length ≤ many) (hm8 : many ≤ h.length) (hlk : ∀ (i : Nat) (hi : i < l.length), 0 ≤ l[i] ∧ l[i] < (h.length : Int)) (hcl : l.length ≤ c) (hnil : A = none → l.length = 0 ∧ c = 0)
  (hB : B ≤ W.heap.size) (hL : Kd.F (Kd.int .i64) W (fun k => B ≤ k) A l.length l) (h0 : Kd.C k26 W (some ad0) h.length h) (h1 : Kd.C k61 W A1 s.length s) (h2 : Kd.C k48 W A2 p.length p) (hG : Glob W)
  (hgs : W.heap[gs]? = some (.cells #[.slice (some ad0) h.length c0, .slice A1 s.length c1, .slice A2 p.length c2, .int .i64 b0, .int .i64 b1] 28 (0, 0))) (hgc : W.heap[gc]? = some (.cells #[.func (.func 73) #[] #[.pointer (some ⟨gs, 0, none⟩), .pointer (some ⟨gc, 0, none⟩)]] 104 (0, 0)))
  (ih : ∀ (l' : List Int) (A' : Option Addr) (c' : Nat) (W' : World), Below W.heap.size W W' → l'.length ≤ many → (∀ (i : Nat) (hi : i < l'.length), 0 ≤ l'[i] ∧ l'[i] < (h.length : Int)) → l'.length = l.length + 1 → l'.length ≤ c' → A' ≠ none → Kd.F (Kd.int .i64) W' (fun k => B ≤ k) A' l'.length l' →
   Calls Tryd.prog 73 #[.slice A' l'.length c', .int .i64 (many : Int), .pointer (some ⟨gs, 0, none⟩), .pointer (some ⟨gc, 0, none⟩)] W' (ChPost B (chooseF (wrongP h s p b0 b1) h.length f l' many) W')) :
  Calls Tryd.prog 73 #[.slice A l.length c, .int .i64 (many : Int), .pointer (some ⟨gs, 0, none⟩), .pointer (some ⟨gc, 0, none⟩)] W (ChPost B (chooseF (wrongP h s p b0 b1) h.length (f + 1) l many) W) := by
 have hu77 := Tryd.underlying77
 have hu80 := Tryd.underlying80
 have hu28 := Tryd.underlying28
 have hu26 := Tryd.underlying26
 have D0 := zh h0
 have D1 := zh h1
 have D2 := zh h2
 have DL := zh hL
 have HGW := zh hG
 have HSM := zh hsm
 have GS := zh hgs
 have GC := zh hgc
 have HIH := zh ih
 have HLK := zh hlk
 have HNIL0 := zh hnil
 obtain ⟨F, hjm, hb0, hb01, hb1⟩ := fine_of hck
 have HF := zh F
 have hn8 := F.few
 have hm9 : many ≤ 8 := by omega
 obtain ⟨R, hR⟩ : ∃ R, chooseF (wrongP h s p b0 b1) h.length (f + 1) l many = R := ⟨_, rfl⟩
 rw [hR]
 rw [chooseF] at hR
 clear hL h0 h1 h2 hG hsm hgs hgc ih hlk hnil
 by_cases hlen : l.length = many
 ·have hle : ((l.length : Int) == (many : Int)) = true := by rw [hlen]; exact beq_self_eq_true _
  have HR : Aside0 (R = if wrongP h s p b0 b1 l = true then some l else none) := ⟨by rw [← hR, if_pos hlen]⟩
  have HOP := zh (opened_calls (some ad0) c0 h A1 c1 s A2 c2 p b0 b1 A c l W HSM.out D0.out hc0 D1.out hc1 D2.out hc2 (Kd.F_now DL.out) (fun k hk => ⟨(HLK.out k hk).1, by have := (HLK.out k hk).2; omega⟩))
  have HCA : Aside0 (∀ W' A3 c3, Below W.heap.size W W' → Kd.C k80 W' A3 (jsOf h s p b0 b1).length ((jsOf h s p b0 b1).map ofJ) → Calls Tryd.prog 71 #[.agg #[.slice (some ad0) h.length c0, .slice A1 s.length c1, .slice A2 p.length c2, .int .i64 b0, .int .i64 b1, .slice A3 (jsOf h s p b0 b1).length c3, .bool (lfOf l 0), .bool (lfOf l 1), .bool (lfOf l 2), .bool (lfOf l 3), .bool (lfOf l 4), .bool (lfOf l 5), .bool (lfOf l 6), .bool (lfOf l 7), .int .i64 b0, .int .i64 b1]] W' fun e w' => e = .returned (.bool (wrongP h s p b0 b1 l)) ∧ Below W'.heap.size W' w') := ⟨fun W' A3 c3 hW hj => by
   obtain ⟨g, hg⟩ := F.forest
   have h9 := can_sem ad0 c0 h (.slice A1 s.length c1) (.slice A2 p.length c2) b0 b1 (lfOf l) b0 b1 A3 c3 (jsOf h s p b0 b1) g W' hg F.joins (Kd.C_below D0.out hW) hj (HGW.out.below hW) F.few (fun x hx => ⟨(F.span x hx).1, (F.span x hx).2.1, (F.span x hx).2.2.1⟩)
   refine h9.mono (fun e w' h8 => ⟨h8.1.trans ?_, h8.2⟩)
   congr 2
   unfold wrongP
   cases ht : tunS h (jsOf h s p b0 b1) (lfOf l) (b0, b1) [] with
   | true => exact decide_eq_true ((tunS_iff F.joins).1 ht)
   | false => exact decide_eq_false (fun hn => by rw [(tunS_iff F.joins).2 hn] at ht; cases ht)⟩
  rw [hjm] at HOP
  unfold OpenedPost at HOP
  simp only [List.length_map] at HOP
  obtain ⟨z0, z1, z2, z3, z4⟩ := cells5 GS.out
  clear hR hck hjm F hlen hlm hm8
  go_enter Tryd.func73, Tryd.ntmps73
  go_wp2_with (first | (go_at_call 52; refine HOP.out.mono ?_; rintro e w2 ⟨A3, c3, rfl, hF, hb⟩; have HB2 := zh (below_alloc hb (.cells #[.slice (some ad0) h.length c0, .slice A1 s.length c1, .slice A2 p.length c2, .int .i64 b0, .int .i64 b1, .slice A3 (jsOf h s p b0 b1).length c3, .bool (lfOf l 0), .bool (lfOf l 1), .bool (lfOf l 2), .bool (lfOf l 3), .bool (lfOf l 4), .bool (lfOf l 5), .bool (lfOf l 6), .bool (lfOf l 7), .int .i64 b0, .int .i64 b1] 77)); have HC2 := zh (Kd.C_alloc (Kd.F_now hF) (.cells #[.slice (some ad0) h.length c0, .slice A1 s.length c1, .slice A2 p.length c2, .int .i64 b0, .int .i64 b1, .slice A3 (jsOf h s p b0 b1).length c3, .bool (lfOf l 0), .bool (lfOf l 1), .bool (lfOf l 2), .bool (lfOf l 3), .bool (lfOf l 4), .bool (lfOf l 5), .bool (lfOf l 6), .bool (lfOf l 7), .int .i64 b0, .int .i64 b1] 77)); clear hF hb) | (go_at_call 71; (with_reducible refine (HCA.out _ A3 c3 HB2.out HC2.out).mono ?_); rintro e w3 ⟨rfl, hb⟩; have HB3 := zh (HB2.out.trans (hb.mono HB2.out.size)); clear hb))
  go_ret2
  rw [HR.out]
  cases hP : wrongP h s p b0 b1 l with
  | true =>
   refine ⟨_, rfl, fun r hr => ?_, HB3.out⟩
   rw [if_pos rfl] at hr
   injection hr with hr
   subst hr
   exact ⟨A, c, rfl, hcl, Kd.F_below DL.out HB3.out, HNIL0.out⟩
  | false =>
   refine ⟨_, rfl, fun r hr => ?_, HB3.out⟩
   rw [if_neg (by decide)] at hr
   cases hr
 ·have hlt9 : l.length < many := by omega
  have hll : l.length ≤ 8 := by omega
  have hle : ((l.length : Int) == (many : Int)) = false := beq_eq_false_iff_ne.2 (fun e => hlen (by omega))
  rw [if_neg hlen] at hR
  obtain ⟨C, hC⟩ : ∃ C : Int → Option (List Int), (fun k => chooseF (wrongP h s p b0 b1) h.length f (l ++ [k]) many) = C := ⟨_, rfl⟩
  rw [hC] at hR
  obtain ⟨k0, hk0, hk0n⟩ : ∃ k0 : Nat, fromK l = (k0 : Int) ∧ k0 ≤ h.length := by
   unfold fromK
   by_cases hl0 : l = []
   ·rw [if_pos hl0]; exact ⟨0, rfl, Nat.zero_le _⟩
   ·rw [if_neg hl0]
    have hpos : l.length - 1 < l.length := by have := List.length_pos_iff.2 hl0; omega
    have h9 := HLK.out (l.length - 1) hpos
    have h8 : l.getD (l.length - 1) 0 = l[l.length - 1] := by simp [List.getD_eq_getElem?_getD, hpos]
    rw [h8]
    exact ⟨(l[l.length - 1] + 1).toNat, by omega, by omega⟩
  rw [hk0, Int.toNat_natCast] at hR
  have HR := zh hR
  have HK0 := zh hk0
  have HLL := zh hll
  have HIW : Aside0 (∀ (k : Nat), k < h.length → ∀ A' c' W', Below W.heap.size W W' → A' ≠ none → l.length + 1 ≤ c' → Kd.F (Kd.int .i64) W' (fun x => B ≤ x) A' (l.length + 1) (l ++ [(k : Int)]) → Calls Tryd.prog 73 #[.slice A' (l.length + 1) c', .int .i64 (many : Int), .pointer (some ⟨gs, 0, none⟩), .pointer (some ⟨gc, 0, none⟩)] W' (ChPost B (C (k : Int)) W')) := ⟨fun k hk A' c' W' hW hA hc hF9 => by
   have hl1 : (l ++ [(k : Int)]).length = l.length + 1 := by simp
   have h9 := HIH.out (l ++ [(k : Int)]) A' c' W' hW (by omega) (fun i hi => by
    rw [List.getElem_append]
    split
    ·exact HLK.out i _
    ·simp; omega) hl1 (by omega) hA (by rw [hl1]; exact hF9)
   rw [hl1, show chooseF (wrongP h s p b0 b1) h.length f (l ++ [(k : Int)]) many = C (k : Int) by rw [← hC]] at h9
   exact h9⟩
  clear hR hck hjm F hlen hlm hm8 hk0 HIH hlt9 hC
  obtain ⟨i3, hi3, hz3, hs3, hb3⟩ := info_parts info3
  have HI3 := zh hi3
  have HZ3 := zh hz3
  have HS3 := zh hs3
  have HB3 := zh hb3
  clear hi3 hz3 hs3 hb3
  go_enter Tryd.func73, Tryd.ntmps73
  go_upto_if 25 with (fail)
  go_cut [9] (fun u9 wc => u9 = .int .i64 (k0 : Int) ∧ wc = W)
  case first =>
   by_cases hl0 : l = []
   ·have hlz : (l.length : Int) = 0 := by rw [hl0]; rfl
    have hk00 : (k0 : Int) = 0 := by rw [← HK0.out]; unfold fromK; rw [if_pos hl0]
    clear hl0 hle
    go_wp2
    go_meet
    case rel => exact ⟨by rw [hk00], rfl⟩
   ·have hpos := List.length_pos_iff.2 hl0
    obtain ⟨ad, rfl, ca⟩ := C_int_at (Kd.F_now DL.out) (l.length - 1) (by omega)
    obtain ⟨q, hq⟩ : ∃ q, l.getD (l.length - 1) 0 = q := ⟨_, rfl⟩
    rw [hq] at ca
    have hkq : (k0 : Int) = q + 1 := by rw [← HK0.out]; unfold fromK; rw [if_neg hl0, hq]
    have hn0l : (l.length : Int) > 0 := by omega
    have hn0n : 0 < l.length := by omega
    have hn0m : ¬ (l.length = 0) := by omega
    have hwq : wrap64 (q + 1) = q + 1 := w64 (by omega) (by omega)
    have HKQ := zh hkq
    clear hl0 hq hkq hle hpos
    go_wp2
    go_meet
    case rel => exact ⟨by rw [HKQ.out, hwq], rfl⟩
  case rest =>
   obtain ⟨rfl, hw⟩ := hcut
   subst wc
   clear hle
   go_wp2
   go_loopw [10] (fun u10 wr => ∃ k : Nat, k ≤ h.length ∧ u10 = .int .i64 (k : Int) ∧ Aside0 (chooseRow C (h.length - k) (k : Int) = R) ∧ Aside0 (Below W.heap.size W wr)) (fun u10 _ => h.length - (intOf u10).toNat)
   case atStart => exact ⟨k0, hk0n, rfl, HR, ⟨Below.refl _ _⟩⟩
   case round =>
    obtain ⟨k, hk, rfl, HRK, HBr⟩ := hrel
    have z0 : wr.cell? ⟨gs, 0, none⟩ = some (.slice (some ad0) h.length c0) := (blk_cell (blk_below GS.out HBr.out) 0).trans rfl
    by_cases hkl : k < h.length
    ·have hkl' : (k : Int) < (h.length : Int) := by omega
     have HRS : Aside0 ((match C (k : Int) with | some l => some l | none => chooseRow C (h.length - (k + 1)) ((k : Int) + 1)) = R) := ⟨by have h9 := HRK.out; rw [show h.length - k = (h.length - (k + 1)) + 1 by omega, chooseRow] at h9; exact h9⟩
     go_upto_region 10 with (fail)
     have GC0 : Aside0 (wr.drew.heap[gc]? = some (.cells #[.func (.func 73) #[] #[.pointer (some ⟨gs, 0, none⟩), .pointer (some ⟨gc, 0, none⟩)]] 104 (0, 0))) := ⟨(blk_below GC.out HBr.out : wr.heap[gc]? = _)⟩
     have HBD := zh (below_drew1 HBr.out)
     have BL0 := zh (Below.refl wr.drew.heap.size wr.drew)
     have HNIL : Aside0 (A = none → l.length = 0 ∧ l.length = 0) := ⟨fun e => ⟨(HNIL0.out e).1, (HNIL0.out e).1⟩⟩
     have HLC : Aside0 (∀ W', Below wr.drew.heap.size wr.drew W' → ∀ b, A = some b → ∀ (j : Nat) u, (nums .i64 l)[j]? = some u → W'.cell? (b.add j) = some u) := ⟨fun W' hW b hb j u hu => by
      have hj : j < l.length := by have := (List.getElem?_eq_some_iff.1 hu).1; rw [nums_length] at this; exact this
      obtain ⟨ad, e, hc⟩ := C_int_at (Kd.C_below (Kd.C_below (Kd.F_now DL.out) HBD.out) hW) j hj
      rw [hb] at e
      injection e with e
      subst e
      rw [hc]
      unfold nums at hu
      rw [List.getElem?_map, List.getElem?_eq_getElem hj] at hu
      simp only [Option.map_some, Option.some.injEq] at hu
      rw [← hu]
      simp [List.getD_eq_getElem?_getD, hj]⟩
     have HIH : Aside0 (∀ A' c' W', Below wr.drew.heap.size wr.drew W' → A' ≠ none → l.length + 1 ≤ c' → Kd.F (Kd.int .i64) W' (fun x => B ≤ x) A' (l.length + 1) (l ++ [(k : Int)]) → Calls Tryd.prog 73 #[.slice A' (l.length + 1) c', .int .i64 (many : Int), .pointer (some ⟨gs, 0, none⟩), .pointer (some ⟨gc, 0, none⟩)] W' (ChPost B (C (k : Int)) W')) := ⟨fun A' c' W' hW => HIW.out k hkl A' c' W' (HBD.out.trans (hW.mono HBD.out.size))⟩
     have hBr := Nat.le_trans hB HBD.out.size
     clear z0
     refine start_ (n := 17) (S := fun w' => w'.cell? ⟨gc, 0, none⟩ = some (.func (.func 73) #[] #[.pointer (some ⟨gs, 0, none⟩), .pointer (some ⟨gc, 0, none⟩)])) (ds := []) (Array.replicate 17 false) zk rfl rfl ((blk_cell (blk_below GC0.out BL0.out) 0).trans rfl) (fun hHeld => ?_)
     refine with_tabW fWrong.tab10 fWrong.bits10 (fun HT_ HW_ => ?_)
     generalize wr.drew = v0 at GC0 HLC HIH BL0 HBD hBr hHeld ⊢
     refine zu 1 ?_
     refine zu 2 ?_
     refine zu 3 ?_
     refine zu 4 ?_
     refine zu 5 ?_
     refine zu 6 ?_
     refine zu 7 ?_
     refine zu 10 ?_
     refine zt 0 ?_
     refine zo 8 (fun K hK => ?_)
     refine value_ (v := .slice (some ⟨v0.heap.size, 0, none⟩) 1 1) (w1 := v0.alloc (.cells #[.int .i64 (k : Int)] 3)) (by rfl) rfl ?hr0 ?_
     (case hr0 => first | (go_simp; done) | (go_simp; rfl))
     have BL1 := zh (below_alloc BL0.out (.cells #[.int .i64 (k : Int)] 3))
     have N1 := zh (alloc_at v0 (.cells #[.int .i64 (k : Int)] 3) v0.heap.size rfl)
     generalize v0.alloc (.cells #[.int .i64 (k : Int)] 3) = v1 at BL1 N1 ⊢
     refine hK.out _ _ ((blk_cell (blk_below GC0.out BL1.out) 0).trans rfl) (fun hHeld => ?_)
     clear hK K
     refine zr 50 _ ?_
     refine zo 9 (fun K hK => ?_)
     refine step_append_grows rfl (.tmp 48) (.tmp 50) 29 rfl 3 _ (.int .i64 0) 1 8 Tryd.underlying29 HI3.out HZ3.out HS3.out HB3.out rfl (by decide) A l.length l.length (nums .i64 l) rfl (fun e => HNIL.out e) (by simp [nums]) (fun b hb j u hu => HLC.out _ BL1.out b hb j u hu) ⟨v0.heap.size, 0, none⟩ 1 1 [.int .i64 (k : Int)] rfl rfl (World.news_of_block N1.out) (fun u hu => by (obtain rfl := List.mem_singleton.1 hu); rfl) (by omega) (by have := HLL.out; simp only [maxLen]; omega) (by have := HLL.out; omega) ?_
     intro va v2 ho hg
     have HOW := zh ho
     have BL2 := zh (BL1.out.grown hg BL1.out.size (fun k hk => by cases hk))
     have hs01 := BL1.out.size
     clear ho hg
     refine hK.out _ _ ((blk_cell (blk_below GC0.out BL2.out) 0).trans rfl) (fun hHeld => ?_)
     clear hK K
     refine zr 51 _ ?_
     refine zo 11 (fun K hK => ?_)
     obtain ⟨g9, c9, hva, hc9, hg9, hF9⟩ := own_F HOW.out (by rw [List.length_append]; rfl) (by have := HLL.out; rw [List.length_append]; simp only [List.length_cons, List.length_nil]; omega)
     subst hva
     have HIC := zh (HIH.out (some ⟨g9, 0, none⟩) c9 v2 BL2.out (by simp) hc9 (Kd.F_mono hF9 (fun x hx => by obtain rfl := hx; omega)))
     clear hc9 hF9 hg9
     refine goesC_ Tryd.func73 zk rfl #[.slice (some ⟨g9, 0, none⟩) (l.length + 1) c9, .int .i64 (many : Int)] (by rfl) rfl rfl rfl dQ1 ?_
     refine HIC.out.mono ?_
     rintro e v3 ⟨vr, rfl, hr, hb⟩
     refine ⟨_, rfl, ?_⟩
     have BL3 := zh (BL2.out.trans (hb.mono BL2.out.size))
     have HRR := zh hr
     clear hb hr
     refine hK.out _ _ ((blk_cell (blk_below GC0.out BL3.out) 0).trans rfl) (fun hHeld => ?_)
     clear hK K
     refine zr 53 _ ?_
     refine zu 12 ?_
     refine zu 13 ?_
     refine zu 14 ?_
     refine zu 15 ?_
     refine zu 16 ?_
     refine zd ?_
     cases hCk : C (k : Int) with
     | none =>
      have HRN : Aside0 (chooseRow C (h.length - (k + 1)) (((k + 1 : Nat)) : Int) = R) := ⟨by have h9 := HRS.out; rw [hCk] at h9; exact h9⟩
      clear hCk
      simp only [Option.isSome_none]
      go_wp2
      go_roundw
      case rel => exact ⟨k + 1, by omega, by go_num, HRN, ⟨HBD.out.trans (BL3.out.mono HBD.out.size)⟩⟩
      case measure => simp [intOf]; omega
     | some r =>
      have HRN : Aside0 (R = some r) := ⟨by have h9 := HRS.out; rw [hCk] at h9; exact h9.symm⟩
      obtain ⟨A', c', rfl, hc', hF', hn'⟩ := HRR.out r hCk
      have HF' := zh hF'
      have HN' := zh hn'
      clear hCk hF' hn'
      simp only [Option.isSome_some]
      go_wp2
      go_ret2
      rw [HRN.out]
      exact ⟨_, rfl, fun r' hr' => by injection hr' with hr'; subst hr'; exact ⟨A', c', rfl, hc', HF'.out, HN'.out⟩, HBD.out.trans (BL3.out.mono HBD.out.size)⟩
    ·obtain rfl : k = h.length := by omega
     have hkl' : ¬ ((h.length : Nat) : Int) < (h.length : Int) := by omega
     have HRN : Aside0 (R = none) := ⟨by have h9 := HRK.out; rw [Nat.sub_self, chooseRow] at h9; exact h9.symm⟩
     go_wp2
     go_ret2
     rw [HRN.out]
     exact ⟨_, rfl, fun r hr => by (cases hr), HBr.out⟩
theorem choose_calls (ad0 : Addr) (c0 : Nat) (h : List S26) (A1 : Option Addr) (c1 : Nat) (s : List S61) (A2 : Option Addr) (c2 : Nat) (p : List S48) (b0 b1 : Int) (gs gc B : Nat) (hsm : small h s p = true) (hck : checkT h s p b0 b1 = 0) (hc0 : h.length ≤ c0) (hc1 : s.length ≤ c1) (hc2 : p.length ≤ c2) (many : Nat) (hm8 : many ≤ h.length) :
  ∀ (f : Nat) (l : List Int) (A : Option Addr) (c : Nat) (W : World), many - l.length < f → l.length ≤ many → (∀ (i : Nat) (hi : i < l.length), 0 ≤ l[i] ∧ l[i] < (h.length : Int)) → l.length ≤ c → (A = none → l.length = 0 ∧ c = 0) → B ≤ W.heap.size → Kd.F (Kd.int .i64) W (fun k => B ≤ k) A l.length l →
   Kd.C k26 W (some ad0) h.length h → Kd.C k61 W A1 s.length s → Kd.C k48 W A2 p.length p → Glob W → W.heap[gs]? = some (.cells #[.slice (some ad0) h.length c0, .slice A1 s.length c1, .slice A2 p.length c2, .int .i64 b0, .int .i64 b1] 28 (0, 0)) → W.heap[gc]? = some (.cells #[.func (.func 73) #[] #[.pointer (some ⟨gs, 0, none⟩), .pointer (some ⟨gc, 0, none⟩)]] 104 (0, 0)) →
   Calls Tryd.prog 73 #[.slice A l.length c, .int .i64 (many : Int), .pointer (some ⟨gs, 0, none⟩), .pointer (some ⟨gc, 0, none⟩)] W (ChPost B (chooseF (wrongP h s p b0 b1) h.length f l many) W) := by
 intro f
 induction f with
 | zero => intro l A c W hf; exact absurd hf (Nat.not_lt_zero _)
 | succ f ih =>
  intro l A c W hf hlm hlk hcl hnil hB hL h0 h1 h2 hG hgs hgc
  exact choose_step ad0 c0 h A1 c1 s A2 c2 p b0 b1 gs gc B hsm hck hc0 hc1 hc2 many f l A c W hlm hm8 hlk hcl hnil hB hL h0 h1 h2 hG hgs hgc
   (fun l' A' c' W' hW h3 h4 h5 h6 h7 h8 => ih l' A' c' W' (by omega) h3 h4 h6 (fun e => absurd e h7) (Nat.le_trans hB hW.size) h8 (Kd.C_below h0 hW) (Kd.C_below h1 hW) (Kd.C_below h2 hW) (hG.below hW) (blk_below hgs hW) (blk_below hgc hW))
set_option maxRecDepth 100000 in
set_option maxHeartbeats 8000000 in
theorem wrong_calls (A0 : Option Addr) (c0 : Nat) (h : List S26) (A1 : Option Addr) (c1 : Nat) (s : List S61) (A2 : Option Addr) (c2 : Nat) (p : List S48) (b0 b1 : Int) (w : World) (hsm : small h s p = true) (hG : Glob w)
  (h0 : Kd.C k26 w A0 h.length h) (hc0 : h.length ≤ c0) (h1 : Kd.C k61 w A1 s.length s) (hc1 : s.length ≤ c1) (h2 : Kd.C k48 w A2 p.length p) (hc2 : p.length ≤ c2) :
  Calls Tryd.prog 33 #[.agg #[.slice A0 h.length c0, .slice A1 s.length c1, .slice A2 p.length c2, .int .i64 b0, .int .i64 b1]] w fun e w' => ∃ v, e = .returned (.tuple #[v, .int .i64 (checkT h s p b0 b1)]) ∧ Kd.V (Kd.int .i64) 3 w' w.heap.size (fun k_ => w.heap.size ≤ k_) v (wrongT h s p b0 b1) ∧ Below w.heap.size w w' := by
 have hu77 := Tryd.underlying77
 have hu80 := Tryd.underlying80
 have hu28 := Tryd.underlying28
 have hu26 := Tryd.underlying26
 have HB0 := zh (below_alloc (Below.refl w.heap.size w) (.cells #[.slice A0 h.length c0, .slice A1 s.length c1, .slice A2 p.length c2, .int .i64 b0, .int .i64 b1] 28))
 have B0 := zh (alloc_at w (.cells #[.slice A0 h.length c0, .slice A1 s.length c1, .slice A2 p.length c2, .int .i64 b0, .int .i64 b1] 28) w.heap.size rfl)
 have D0 := zh h0
 have D1 := zh h1
 have D2 := zh h2
 have HGW := zh hG
 have HSM := zh hsm
 have HCK := zh (check_calls A0 c0 h A1 c1 s A2 c2 p b0 b1 _ hsm (Kd.C_below h0 HB0.out) hc0 (Kd.C_below h1 HB0.out) hc1 (Kd.C_below h2 HB0.out) hc2)
 clear h0 h1 h2 hG hsm
 obtain ⟨ck, hck⟩ : ∃ ck, checkT h s p b0 b1 = ck := ⟨_, rfl⟩
 rw [hck] at HCK
 by_cases hz : ck = 0
 ·obtain rfl := hz
  obtain ⟨F, _⟩ := fine_of hck
  obtain ⟨ad0, rfl⟩ : ∃ ad, A0 = some ad := by obtain ⟨ad, e, _⟩ := H_at D0.out 0 (by have := F.some; omega); exact ⟨ad, e⟩
  have hn8 := F.few
  obtain ⟨R, hR⟩ : ∃ R, wrongT h s p b0 b1 = R := ⟨_, rfl⟩
  obtain ⟨P, hP⟩ : ∃ P, wrongP h s p b0 b1 = P := ⟨_, rfl⟩
  have HR : Aside0 ((wrongGo P h.length (h.length + 1 - 0) 0).getD [] = R) := ⟨by rw [← hR]; unfold wrongT; rw [if_pos hck, hP]; rfl⟩
  rw [hR, hck]
  have HCH : Aside0 (∀ (many : Nat) (W : World), many ≤ h.length → Below w.heap.size w W → W.heap[w.heap.size]? = some (.cells #[.slice (some ad0) h.length c0, .slice A1 s.length c1, .slice A2 p.length c2, .int .i64 b0, .int .i64 b1] 28 (0, 0)) → ∀ gc, W.heap[gc]? = some (.cells #[.func (.func 73) #[] #[.pointer (some ⟨w.heap.size, 0, none⟩), .pointer (some ⟨gc, 0, none⟩)]] 104 (0, 0)) → Calls Tryd.prog 73 #[.slice none 0 0, .int .i64 (many : Int), .pointer (some ⟨w.heap.size, 0, none⟩), .pointer (some ⟨gc, 0, none⟩)] W (ChPost w.heap.size (chooseF P h.length (many + 1) [] many) W)) := ⟨fun many W hm hW hgs gc hgc => by
   have h9 := choose_calls ad0 c0 h A1 c1 s A2 c2 p b0 b1 w.heap.size gc w.heap.size HSM.out hck hc0 hc1 hc2 many hm (many + 1) [] none 0 W (by simp) (Nat.zero_le _) (fun i hi => absurd hi (Nat.not_lt_zero _)) (Nat.le_refl _) (fun _ => ⟨rfl, rfl⟩) hW.size (Kd.F_nil _ _ _) (Kd.C_below D0.out hW) (Kd.C_below D1.out hW) (Kd.C_below D2.out hW) (HGW.out.below hW) hgs hgc
   rw [hP] at h9
   exact h9⟩
  clear hR hP hck F
  have hst1 := fun (W' : World) (a : Addr) (g : Nat) (mo : Mode) => run_store Tryd.prog W' a (.func (.func 73) #[] #[.pointer (some ⟨w.heap.size, 0, none⟩), .pointer (some ⟨g, 0, none⟩)]) mo rfl
  go_enter Tryd.func33, Tryd.ntmps33
  go_wp2_with (go_at_call 18; refine HCK.out.mono ?_; rintro e w1 ⟨rfl, hb⟩; have HB1 := zh (HB0.out.trans (hb.mono (by simp))); have C1 := zh (blk_below B0.out hb); clear hb; obtain ⟨z0, z1, z2, z3, z4⟩ := cells5 C1.out; have C2 := zh (blk_alloc C1.out (.cells #[.func (.func 73) #[] #[.pointer (some ⟨w.heap.size, 0, none⟩), .pointer (some ⟨w1.heap.size, 0, none⟩)]] 104)); have y0 : (w1.alloc (.cells #[.func (.func 73) #[] #[.pointer (some ⟨w.heap.size, 0, none⟩), .pointer (some ⟨w1.heap.size, 0, none⟩)]] 104)).cell? ⟨w.heap.size, 0, none⟩ = some (.slice (some ad0) h.length c0) := vb C2 0)
  have hg1 := HB1.out.size
  have GC2 := zh (alloc_at w1 (.cells #[.func (.func 73) #[] #[.pointer (some ⟨w.heap.size, 0, none⟩), .pointer (some ⟨w1.heap.size, 0, none⟩)]] 104) w1.heap.size rfl)
  have HB2 := zh (below_alloc HB1.out (.cells #[.func (.func 73) #[] #[.pointer (some ⟨w.heap.size, 0, none⟩), .pointer (some ⟨w1.heap.size, 0, none⟩)]] 104))
  obtain ⟨W2, hW2⟩ : ∃ W2, w1.alloc (.cells #[.func (.func 73) #[] #[.pointer (some ⟨w.heap.size, 0, none⟩), .pointer (some ⟨w1.heap.size, 0, none⟩)]] 104) = W2 := ⟨_, rfl⟩
  simp only [hW2] at C2 GC2 HB2 ⊢
  clear hW2 y0 z0 z1 z2 z3 z4
  have hn9 : ((h.length : Nat) : Int) ≤ 8 := by omega
  go_loopw [19] (fun u19 wr => ∃ m : Nat, m ≤ h.length + 1 ∧ u19 = .int .i64 (m : Int) ∧ Aside0 ((wrongGo P h.length (h.length + 1 - m) m).getD [] = R) ∧ Aside0 (wr.heap[w.heap.size]? = some (.cells #[.slice (some ad0) h.length c0, .slice A1 s.length c1, .slice A2 p.length c2, .int .i64 b0, .int .i64 b1] 28 (0, 0))) ∧ Aside0 (wr.heap[w1.heap.size]? = some (.cells #[.func (.func 73) #[] #[.pointer (some ⟨w.heap.size, 0, none⟩), .pointer (some ⟨w1.heap.size, 0, none⟩)]] 104 (0, 0))) ∧ Aside0 (Below w.heap.size w wr)) (fun u19 _ => h.length + 1 - (intOf u19).toNat)
  case atStart => exact ⟨0, Nat.zero_le _, rfl, HR, C2, GC2, HB2⟩
  case round =>
   obtain ⟨m, hm, rfl, HRM, Cr, Gr, HBr⟩ := hrel
   by_cases hml : m < h.length + 1
   ·have hml' : (m : Int) < (h.length : Int) + 1 := by omega
    have HRS : Aside0 ((match chooseF P h.length (m + 1) [] m with | some l => some l | none => wrongGo P h.length (h.length + 1 - (m + 1)) (m + 1)).getD [] = R) := ⟨by have h9 := HRM.out; rw [show h.length + 1 - m = (h.length + 1 - (m + 1)) + 1 by omega, wrongGo] at h9; exact h9⟩
    have HCM := zh (HCH.out m wr (by omega) HBr.out Cr.out w1.heap.size Gr.out)
    have q0 : wr.cell? ⟨w1.heap.size, 0, none⟩ = some (.func (.func 73) #[] #[.pointer (some ⟨w.heap.size, 0, none⟩), .pointer (some ⟨w1.heap.size, 0, none⟩)]) := vb Gr 0
    obtain ⟨C, hC⟩ : ∃ C, chooseF P h.length (m + 1) [] m = C := ⟨_, rfl⟩
    rw [hC] at HCM HRS
    clear hC
    cases C with
    | none =>
     go_wp2_with (go_at_call 73; refine HCM.out.mono ?_; rintro e w3 ⟨v, rfl, hr, hb⟩; simp only [Option.isSome_none]; have HB3 := zh (HBr.out.trans (hb.mono HBr.out.size)); have C3 := zh (blk_below Cr.out hb); have G3 := zh (blk_below Gr.out hb); clear hr hb)
     go_roundw
     case rel => exact ⟨m + 1, by omega, by go_num, HRS, C3, G3, HB3⟩
     case measure => simp [intOf]; omega
    | some r =>
     have HRR : Aside0 (R = r) := ⟨HRS.out.symm⟩
     go_wp2_with (go_at_call 73; refine HCM.out.mono ?_; rintro e w3 ⟨v, rfl, hr, hb⟩; simp only [Option.isSome_some]; obtain ⟨A', c', rfl, hrc, hF, hN⟩ := hr r rfl; have HB3 := zh (HBr.out.trans (hb.mono HBr.out.size)); have HFR := zh hF; have HNR := zh hN; clear hr hb hF hN)
     go_ret2
     rw [HRR.out]
     exact ⟨_, rfl, Kd.V_mk (Nat.le_refl _) HFR.out, HB3.out⟩
   ·obtain rfl : m = h.length + 1 := by omega
    have hml' : ¬ (((h.length + 1 : Nat)) : Int) < (h.length : Int) + 1 := by omega
    have HRR : Aside0 (R = []) := ⟨by have h9 := HRM.out; rw [Nat.sub_self, wrongGo] at h9; exact h9.symm⟩
    go_wp2
    go_ret2
    rw [HRR.out]
    exact ⟨_, rfl, Kd.V_nil _ _ _ _ _, HBr.out⟩
 ·obtain rfl : ck = 10 := by rw [← hck]; exact checkT_ne (by rw [hck]; exact hz)
  have HW : Aside0 (wrongT h s p b0 b1 = []) := ⟨by unfold wrongT; rw [if_neg (by rw [hck]; decide)]⟩
  rw [HW.out, hck]
  clear hz hck
  go_enter Tryd.func33, Tryd.ntmps33
  go_wp2_with (go_at_call 18; refine HCK.out.mono ?_; rintro e w1 ⟨rfl, hb⟩; have HB1 := zh (HB0.out.trans (hb.mono (by simp))); clear hb)
  go_ret2
  exact ⟨_, rfl, Kd.V_nil _ _ _ _ _, HB1.out⟩
end Go.Proofs.YtgehkojccmkggaaDoor.K
end
section
namespace Go.Proofs.YtgehkojccmkggaaDoor.K
open Go.RowKit Go.Shelf Go.Proofs.YtgehkojccmkggaaDoorW.PrintWords Go.Proofs.YtgehkojccmkggaaDoorW.PrintLast Go.Proofs.YtgehkojccmkggaaDoorW.PrintMore Go.Proofs.YtgehkojccmkggaaDoor.H Tune
set_option linter.unusedVariables false
set_option linter.unusedSimpArgs false
attribute [local go_sem] Oper.semAt_some
attribute [local go_sem] max2_int min2_int max_two min_two
theorem ins_ {P : Program} {ops : Array Oper} {Q : Exit → Act → World → Prop} {α β : Type} [DecidableEq α] {kt : TypeId} {oi : Oper} {a : Act} {w : World} {K : Act → World → Prop} {m : Nat} {kv : List (α × β)} {t e : TypeId} (E : KeyEnc P kt α) (V : β → Value) (hw : Region.wanted oi (yielded ops a.tmps) = true) (hN : oi.dst = none) {mo x v : Operand} (hop : oi.op = Op.insert t mo x v) (ht : P.underlying t = some (.map kt e)) (hm : a.eval mo = .map (some m))
  (h : MapIs E V w m kv) (key : α) (b : β) (hx : a.eval x = E.enc key) (hv : a.eval v = V b)
  (hK : ∀ w', MapIs E V w' m (kvSet key b kv) → w.grownBy w' (some m) → K a w') : if Region.wanted oi (yielded ops a.tmps) = true then Oper.wp P oi a w K Q else K (a.put none undef) w := by
 obtain ⟨w', hrun, r1, r2⟩ := h.update ht key b
 refine skip_ (w1 := w') hw hN ?_ (hK w' r1 r2)
 simp [execOp, hop, hm, hx, hv, hrun, Result.andThen]
theorem kvSet_two {a b : Int} {x y : Int} (h : a ≠ b) : kvSet b y [(a, x)] = [(a, x), (b, y)] := kvSet_new (by simp [h.symm])
theorem okG_swap (k1 k2 : Nat) (x y : Int) (hk : k1 ≠ k2) : okG [((k2 : Int), y), ((k1 : Int), x)] = okG [((k1 : Int), x), ((k2 : Int), y)] := by
 funext z v
 unfold okG
 by_cases h1 : z = k1
 ·subst h1
  have h2 : ¬ ((z : Int) = (k2 : Int)) := by omega
  simp [h2]
 ·by_cases h2 : z = k2
  ·subst h2
   have h3 : ¬ ((z : Int) = (k1 : Int)) := by omega
   simp [h3]
  ·have h3 : ¬ ((z : Int) = (k1 : Int)) := by omega
   have h4 : ¬ ((z : Int) = (k2 : Int)) := by omega
   simp [h3, h4]
theorem tunb_calls (ad0 : Addr) (c0 : Nat) (hs : List S26) (vS vP : Value) (b0 b1 : Int) (A3 : Option Addr) (c3 : Nat) (js : List J) (m : Nat) (gl : List (Int × Int)) (W : World) (F : Fine hs js)
  (hH : Kd.C k26 W (some ad0) hs.length hs) (hA : Kd.C k80 W A3 js.length (js.map ofJ)) (hgo : MapIs E3 (Value.int .i64) W m gl) (hG : Glob W) :
  Calls Tryd.prog 63 #[.agg #[.slice (some ad0) hs.length c0, vS, vP, .int .i64 b0, .int .i64 b1, .slice A3 js.length c3, .bool false, .bool false, .bool false, .bool false, .bool false, .bool false, .bool false, .bool false, .int .i64 b0, .int .i64 b1], .map (some m)] W fun e w' => ∃ v, e = .returned (.tuple #[v, .bool (tunS hs js noLeft (b0, b1) gl)]) ∧ Below W.heap.size W w' := by
 refine (tun_sem ad0 c0 hs vS vP b0 b1 noLeft b0 b1 A3 c3 js (some m) gl W F hH hA (.inr ⟨m, rfl, hgo⟩) hG).mono ?_
 rintro e w' ⟨h1, h2, h3⟩
 have h4 := tunL_some F noLeft (b0, b1) gl
 cases ht : tunL hs js noLeft (b0, b1) gl with
 | none => rw [ht] at h4; rw [← h4]; exact ⟨_, h1 ht, h3⟩
 | some l => rw [ht] at h4; rw [← h4]; obtain ⟨g, hg, _⟩ := h2 l ht; exact ⟨_, hg, h3⟩
def apartStep (T : Int → Int → Bool) (p : Int) (st : (Int × Int) × Bool) (q : Int) : (Int × Int) × Bool :=
 if (st.2 && (decide (st.1.1 ≤ q - p) && decide (q - p ≤ st.1.2))) = true then st
 else if T p q = true then (if st.2 = true then ((if q - p < st.1.1 then q - p else st.1.1), (if st.1.2 < q - p then q - p else st.1.2)) else (q - p, q - p), true) else st
def apartF (h : List S26) (js : List J) (b : Int × Int) (k1 k2 : Nat) : Int × Int :=
 ((pitL h js b k1).foldl (fun st p => (pitL h js b k2).foldl (apartStep (fun p q => tunS h js noLeft b [((k1 : Int), p), ((k2 : Int), q)]) p) st) ((0, 0), false)).1
def apartE (h : List S26) (s : List S61) (p : List S48) (b0 b1 one other : Int) : Int := askedE h s p b0 b1 (inK h.length one && inK h.length other)
def apartT (h : List S26) (s : List S61) (p : List S48) (b0 b1 one other : Int) : Int × Int := if apartE h s p b0 b1 one other = 0 then (if one = other then (0, 0) else apartF h (jsOf h s p b0 b1) (b0, b1) one.toNat other.toNat) else (0, 0)
def fApart.T1 : Bool × List (List Nat × List Nat) := (true, [([], []), ([], []), ([], []), ([1, 2], [1, 2]), ([3, 3], [3]), ([4], [4]), ([4], [4]), ([5, 6, 4, 4], [4, 5, 6]), ([4, 7], [4, 7]), ([0, 8, 7], [0, 8]), ([9], [9]), ([10], [10]), ([10], [10]), ([], []), ([13, 11, 9, 0, 1, 2, 3, 4, 5, 6, 7, 8, 9, 10, 11, 13], [11, 13]), ([12, 14, 0, 1, 2, 3, 4, 5, 6, 7, 8, 9, 10, 11, 12, 13, 14], [12])])
def fApart.B1 : List Nat := [0, 0, 0, 6, 14, 30, 30, 126, 254, 511, 1023, 2047, 2047, 0, 12287, 32767]
theorem fApart.tab1 : rtab .any (opsOf Tryd.f27 1) = fApart.T1 := by kernel_rfl
theorem fApart.bits1 : waitsOk fApart.T1.2 fApart.B1 = true := by kernel_rfl
def fApart.T14 : Bool × List (List Nat × List Nat) := (true, [([], []), ([], []), ([], []), ([], []), ([1, 2, 3], [1, 2, 3]), ([], []), ([], []), ([1, 5, 6], [1, 5, 6]), ([1, 2, 3, 4, 5, 6, 7], [1]), ([0, 8], [0, 8]), ([9], [9]), ([10], [10]), ([10], [10]), ([11, 9, 0, 1, 2, 3, 4, 5, 6, 7, 8, 9, 10, 11], [11]), ([12, 13, 0, 1, 2, 3, 4, 5, 6, 7, 8, 9, 10, 11, 12, 13], [12])])
def fApart.B14 : List Nat := [0, 0, 0, 0, 14, 0, 0, 98, 254, 511, 1023, 2047, 2047, 4095, 16383]
theorem fApart.tab14 : rtab .any (opsOf Tryd.f27 14) = fApart.T14 := by kernel_rfl
theorem fApart.bits14 : waitsOk fApart.T14.2 fApart.B14 = true := by kernel_rfl
set_option maxRecDepth 100000 in
set_option maxHeartbeats 8000000 in
theorem apart_bad1 (A0 : Option Addr) (c0 : Nat) (h : List S26) (A1 : Option Addr) (c1 : Nat) (s : List S61) (A2 : Option Addr) (c2 : Nat) (p : List S48) (b0 b1 : Int) one other E (w : World) (hsm : small h s p = true) (hG : Glob w)
  (h0 : Kd.C k26 w A0 h.length h) (hc0 : h.length ≤ c0) (h1 : Kd.C k61 w A1 s.length s) (hc1 : s.length ≤ c1) (h2 : Kd.C k48 w A2 p.length p) (hc2 : p.length ≤ c2) (hi1 : inK h.length one = false) (hE : askedE h s p b0 b1 false = E) (hz : E ≠ 0) :
  Calls Tryd.prog 27 #[.agg #[.slice A0 h.length c0, .slice A1 s.length c1, .slice A2 p.length c2, .int .i64 b0, .int .i64 b1], .int .i64 one, .int .i64 other] w fun e w' => e = .returned (.tuple #[.agg #[.int .i64 0, .int .i64 0], .int .i64 E]) ∧ Below w.heap.size w w' := by
 have hu77 := Tryd.underlying77
 have hu80 := Tryd.underlying80
 have hu28 := Tryd.underlying28
 have hu26 := Tryd.underlying26
 have HB0 := zh (below_alloc (below_alloc (Below.refl w.heap.size w) (.cells #[.slice A0 h.length c0, .slice A1 s.length c1, .slice A2 p.length c2, .int .i64 b0, .int .i64 b1] 28)) (.cells #[.int .i64 0, .int .i64 0] 26))
 have B0 := zh (blk_alloc (alloc_at w (.cells #[.slice A0 h.length c0, .slice A1 s.length c1, .slice A2 p.length c2, .int .i64 b0, .int .i64 b1] 28) w.heap.size rfl) (.cells #[.int .i64 0, .int .i64 0] 26))
 have Z0 := zh (alloc_at (w.alloc (.cells #[.slice A0 h.length c0, .slice A1 s.length c1, .slice A2 p.length c2, .int .i64 b0, .int .i64 b1] 28)) (.cells #[.int .i64 0, .int .i64 0] 26) (w.heap.size + 1) (by simp))
 have HGW := zh hG
 have D0 := zh h0
 have D1 := zh h1
 have D2 := zh h2
 have HSM := zh hsm
 clear h0 h1 h2 hG hsm
 have hz1 : (E != 0) = true := bne_iff_ne.2 hz
 go_enter Tryd.func27, Tryd.ntmps27
 go_upto_region 1 with (fail)
 obtain ⟨W1, hW1⟩ : ∃ W1, (w.alloc (.cells #[.slice A0 h.length c0, .slice A1 s.length c1, .slice A2 p.length c2, .int .i64 b0, .int .i64 b1] 28)).alloc (.cells #[.int .i64 0, .int .i64 0] 26) = W1 := ⟨_, rfl⟩
 simp only [hW1] at HB0 B0 Z0 ⊢
 clear hW1
 have HBD := zh (below_drew1 HB0.out)
 replace B0 := zh (show W1.drew.heap[w.heap.size]? = _ from B0.out)
 replace Z0 := zh (show W1.drew.heap[w.heap.size + 1]? = _ from Z0.out)
 clear HB0
 have HAS : Aside0 (∀ W, Below W1.drew.heap.size W1.drew W → Calls Tryd.prog 62 #[.agg #[.slice A0 h.length c0, .slice A1 s.length c1, .slice A2 p.length c2, .int .i64 b0, .int .i64 b1], .bool false] W fun e w' => e = .returned (.tuple #[.agg #[.slice none 0 0, .slice none 0 0, .slice none 0 0, .int .i64 0, .int .i64 0, .slice none 0 0, .bool false, .bool false, .bool false, .bool false, .bool false, .bool false, .bool false, .bool false, .int .i64 0, .int .i64 0], .int .i64 E]) ∧ Below W.heap.size W w') := ⟨fun W hW => asked_bad A0 c0 h A1 c1 s A2 c2 p b0 b1 false W HSM.out (HGW.out.below (HBD.out.trans (hW.mono HBD.out.size))) (Kd.C_below (Kd.C_below D0.out HBD.out) hW) hc0 (Kd.C_below (Kd.C_below D1.out HBD.out) hW) hc1 (Kd.C_below (Kd.C_below D2.out HBD.out) hW) hc2 E hE hz⟩
 have HIK3 : Aside0 (∀ W, Below W1.drew.heap.size W1.drew W → Calls Tryd.prog 65 #[.agg #[.slice A0 h.length c0, .slice A1 s.length c1, .slice A2 p.length c2, .int .i64 b0, .int .i64 b1], .int .i64 one] W fun e w' => e = .returned (.bool false) ∧ Below W.heap.size W w') := ⟨fun W hW => by
  have h9 := isKey_calls A0 c0 h A1 c1 s A2 c2 p b0 b1 one W (small_h HSM.out) (Kd.C_below (Kd.C_below D0.out HBD.out) hW) hc0 (Kd.C_below (Kd.C_below D1.out HBD.out) hW) hc1 (Kd.C_below (Kd.C_below D2.out HBD.out) hW) hc2
  rw [hi1] at h9
  exact h9⟩
 clear hE hz hi1
 go_cut [9] (fun u9 wc => u9 = .int .i64 E ∧ Aside0 (wc.heap[w.heap.size + 1]? = some (.cells #[.int .i64 0, .int .i64 0] 26 (0, 0))) ∧ Aside0 (Below w.heap.size w wc))
 case first =>
  have BL0 := zh (Below.refl W1.drew.heap.size W1.drew)
  refine start_ (n := 16) (S := fun w' => w'.cell? ⟨w.heap.size, 0, none⟩ = some (.slice A0 h.length c0) ∧ w'.cell? ⟨w.heap.size, 1, none⟩ = some (.slice A1 s.length c1) ∧ w'.cell? ⟨w.heap.size, 2, none⟩ = some (.slice A2 p.length c2) ∧ w'.cell? ⟨w.heap.size, 3, none⟩ = some (.int .i64 b0) ∧ w'.cell? ⟨w.heap.size, 4, none⟩ = some (.int .i64 b1)) (ds := []) (Array.replicate 16 false) zk rfl rfl ⟨(blk_cell (blk_below B0.out BL0.out) 0).trans rfl, (blk_cell (blk_below B0.out BL0.out) 1).trans rfl, (blk_cell (blk_below B0.out BL0.out) 2).trans rfl, (blk_cell (blk_below B0.out BL0.out) 3).trans rfl, (blk_cell (blk_below B0.out BL0.out) 4).trans rfl⟩ (fun hHeld => ?_)
  refine with_tabW fApart.tab1 fApart.bits1 (fun HT_ HW_ => ?_)
  generalize W1.drew = v0 at B0 HBD HAS Z0 HIK3 BL0 hHeld ⊢
  refine zu 2 ?_
  refine zt 0 ?_
  refine zt 1 ?_
  refine two_ (i := 3) (j := 13) (Ni := some 23) (Nj := some 8) #[true, true, true, true, false, false, false, false, false, false, false, false, false, false, false, false] #[true, true, true, false, false, false, false, false, false, false, false, false, false, true, false, false] rfl rfl rfl rfl (two_of HT_.out zk) (by decide) (by decide) (fun K hK => ?_) (fun K hK => ?_)
  ·refine goes_ Tryd.func65 zk rfl #[.agg #[.slice A0 h.length c0, .slice A1 s.length c1, .slice A2 p.length c2, .int .i64 b0, .int .i64 b1], .int .i64 one] (by rfl) rfl rfl dQ1 ?_
   (with_reducible refine (HIK3.out v0 BL0.out).mono ?_)
   rintro e v1 ⟨rfl, hb⟩
   refine ⟨_, rfl, ?_⟩
   have BL1 := zh (BL0.out.trans (hb.mono BL0.out.size))
   clear hb
   refine hK.out _ _ (cells5 (blk_below B0.out BL1.out)) (fun hHeld => ?_)
   clear hK K
   refine zr 23 _ ?_
   refine zu 4 ?_
   refine zn 6 ?_
   refine take_ (i := 5) (N := some 25) (v := undef) (a' := ?_) #[true, true, true, true, true, true, true, false, false, false, false, false, false, false, false, false] rfl rfl (take_ofW HT_.out HW_.out zk) (fun _ _ _ h => h) (Or.inr ⟨by rfl, rfl⟩) hHeld ?_ ?_
   rotate_left
   ·simp only [Act.put, List.setIfInBounds_toArray, List.set_cons_zero, List.set_cons_succ, i64_w, i32_w]
    rfl
   refine zn 7 ?_
   refine zu 8 ?_
   refine two_ (i := 9) (j := 13) (Ni := some 29) (Nj := some 8) #[true, true, true, true, true, true, true, true, true, true, false, false, false, false, false, false] #[true, true, true, true, true, true, true, true, true, false, false, false, false, true, false, false] rfl rfl rfl rfl (two_of HT_.out zk) (by decide) (by decide) (fun K hK => ?_) (fun K hK => ?_)
   ·refine goes_ Tryd.func62 zk rfl #[.agg #[.slice A0 h.length c0, .slice A1 s.length c1, .slice A2 p.length c2, .int .i64 b0, .int .i64 b1], .bool false] (by rfl) rfl rfl dQ1 ?_
    (with_reducible refine (HAS.out v1 BL1.out).mono ?_)
    rintro e v2 ⟨rfl, hb⟩
    refine ⟨_, rfl, ?_⟩
    have BL2 := zh (BL1.out.trans (hb.mono BL1.out.size))
    have hs1_ := BL1.out.size
    clear hb
    refine hK.out _ _ (cells5 (blk_below B0.out BL2.out)) (fun hHeld => ?_)
    clear hK K
    refine zr 29 _ ?_
    refine zu 10 ?_
    refine zu 11 ?_
    refine zu 12 ?_
    refine zo 13 (fun K hK => ?_)
    refine value_ (v := .pointer (some ⟨v2.heap.size, 0, none⟩)) (w1 := v2.alloc (.cells #[.slice none 0 0, .slice none 0 0, .slice none 0 0, .int .i64 0, .int .i64 0, .slice none 0 0, .bool false, .bool false, .bool false, .bool false, .bool false, .bool false, .bool false, .bool false, .int .i64 0, .int .i64 0] 77)) (by rfl) rfl ?hr2 ?_
    (case hr2 => first | (go_simp; done) | (go_simp; rfl))
    generalize hv_ : v2.alloc (.cells #[.slice none 0 0, .slice none 0 0, .slice none 0 0, .int .i64 0, .int .i64 0, .slice none 0 0, .bool false, .bool false, .bool false, .bool false, .bool false, .bool false, .bool false, .bool false, .int .i64 0, .int .i64 0] 77) = v3
    have BL3 := zh (al_below hv_ BL2.out)
    have G13_3 := zh (al_at hv_)
    have hs2 := BL2.out.size
    clear hv_
    refine hK.out _ _ (cells5 (blk_below B0.out BL3.out)) (fun hHeld => ?_)
    clear hK K
    refine zr 8 _ ?_
    refine zp 14 (fun K hK => ?_)
    obtain ⟨c0_, c1_, c2_, c3_, c4_, c5_, c6_, c7_, c8_, c9_, c10_, c11_, c12_, c13_, c14_, c15_⟩ := cells16 G13_3.out
    obtain ⟨d0_, d1_, d2_, d3_, d4_, d5_, d6_, d7_, d8_, d9_, d10_, d11_, d12_, d13_, d14_, d15_⟩ := froz16 G13_3.out
    refine skip_ (w1 := stZ v3 v2.heap.size) (by rfl) rfl ?hs3_ ?_
    (case hs3_ => unfold stZ st16; first | (go_simp; done) | (go_simp; rfl))
    clear c0_ d0_ c1_ d1_ c2_ d2_ c3_ d3_ c4_ d4_ c5_ d5_ c6_ d6_ c7_ d7_ c8_ d8_ c9_ d9_ c10_ d10_ c11_ d11_ c12_ d12_ c13_ d13_ c14_ d14_ c15_ d15_
    have hs3 := BL3.out.size
    generalize hv_ : stZ v3 v2.heap.size = v4
    have BL4 := zh (st_below hv_ BL3.out dQ5)
    have G13_4 := zh (st_set hv_ G13_3.out)
    clear hv_
    refine hK.out _ _ (cells5 (blk_below B0.out BL4.out)) (fun hHeld => ?_)
    clear hK K
    refine zu 15 ?_
    refine zd ?_
    go_wp2_with (fail)
    go_meet
    case rel => exact ⟨rfl, ⟨blk_below Z0.out BL4.out⟩, ⟨HBD.out.trans (BL4.out.mono HBD.out.size)⟩⟩
   ·refine value_ (v := .pointer (some ⟨v1.heap.size, 0, none⟩)) (w1 := v1.alloc (.cells #[.slice none 0 0, .slice none 0 0, .slice none 0 0, .int .i64 0, .int .i64 0, .slice none 0 0, .bool false, .bool false, .bool false, .bool false, .bool false, .bool false, .bool false, .bool false, .int .i64 0, .int .i64 0] 77)) (by rfl) rfl ?hr1 ?_
    (case hr1 => first | (go_simp; done) | (go_simp; rfl))
    generalize hv_ : v1.alloc (.cells #[.slice none 0 0, .slice none 0 0, .slice none 0 0, .int .i64 0, .int .i64 0, .slice none 0 0, .bool false, .bool false, .bool false, .bool false, .bool false, .bool false, .bool false, .bool false, .int .i64 0, .int .i64 0] 77) = v2
    have BL2 := zh (al_below hv_ BL1.out)
    have G13_2 := zh (al_at hv_)
    have hs1 := BL1.out.size
    clear hv_
    refine hK.out _ _ (cells5 (blk_below B0.out BL2.out)) (fun hHeld => ?_)
    clear hK K
    refine zr 8 _ ?_
    refine zo 9 (fun K hK => ?_)
    refine goes_ Tryd.func62 zk rfl #[.agg #[.slice A0 h.length c0, .slice A1 s.length c1, .slice A2 p.length c2, .int .i64 b0, .int .i64 b1], .bool false] (by rfl) rfl rfl dQ1 ?_
    (with_reducible refine (HAS.out v2 BL2.out).mono ?_)
    rintro e v3 ⟨rfl, hb⟩
    refine ⟨_, rfl, ?_⟩
    have BL3 := zh (BL2.out.trans (hb.mono BL2.out.size))
    have G13_3 := zh (blk_below G13_2.out hb)
    have hs2_ := BL2.out.size
    have hga := blk_lt G13_2.out
    clear hb
    refine hK.out _ _ (cells5 (blk_below B0.out BL3.out)) (fun hHeld => ?_)
    clear hK K
    refine zr 29 _ ?_
    refine zu 10 ?_
    refine zu 11 ?_
    refine zu 12 ?_
    refine zp 14 (fun K hK => ?_)
    obtain ⟨c0_, c1_, c2_, c3_, c4_, c5_, c6_, c7_, c8_, c9_, c10_, c11_, c12_, c13_, c14_, c15_⟩ := cells16 G13_3.out
    obtain ⟨d0_, d1_, d2_, d3_, d4_, d5_, d6_, d7_, d8_, d9_, d10_, d11_, d12_, d13_, d14_, d15_⟩ := froz16 G13_3.out
    refine skip_ (w1 := stZ v3 v1.heap.size) (by rfl) rfl ?hs3_ ?_
    (case hs3_ => unfold stZ st16; first | (go_simp; done) | (go_simp; rfl))
    clear c0_ d0_ c1_ d1_ c2_ d2_ c3_ d3_ c4_ d4_ c5_ d5_ c6_ d6_ c7_ d7_ c8_ d8_ c9_ d9_ c10_ d10_ c11_ d11_ c12_ d12_ c13_ d13_ c14_ d14_ c15_ d15_
    have hs3 := BL3.out.size
    generalize hv_ : stZ v3 v1.heap.size = v4
    have BL4 := zh (st_below hv_ BL3.out dQ3)
    have G13_4 := zh (st_set hv_ G13_3.out)
    clear hv_
    refine hK.out _ _ (cells5 (blk_below B0.out BL4.out)) (fun hHeld => ?_)
    clear hK K
    refine zu 15 ?_
    refine zd ?_
    go_wp2_with (fail)
    go_meet
    case rel => exact ⟨rfl, ⟨blk_below Z0.out BL4.out⟩, ⟨HBD.out.trans (BL4.out.mono HBD.out.size)⟩⟩
  ·refine value_ (v := .pointer (some ⟨v0.heap.size, 0, none⟩)) (w1 := v0.alloc (.cells #[.slice none 0 0, .slice none 0 0, .slice none 0 0, .int .i64 0, .int .i64 0, .slice none 0 0, .bool false, .bool false, .bool false, .bool false, .bool false, .bool false, .bool false, .bool false, .int .i64 0, .int .i64 0] 77)) (by rfl) rfl ?hr0 ?_
   (case hr0 => first | (go_simp; done) | (go_simp; rfl))
   generalize hv_ : v0.alloc (.cells #[.slice none 0 0, .slice none 0 0, .slice none 0 0, .int .i64 0, .int .i64 0, .slice none 0 0, .bool false, .bool false, .bool false, .bool false, .bool false, .bool false, .bool false, .bool false, .int .i64 0, .int .i64 0] 77) = v1
   have BL1 := zh (al_below hv_ BL0.out)
   have G13_1 := zh (al_at hv_)
   have hs0 := BL0.out.size
   clear hv_
   refine hK.out _ _ (cells5 (blk_below B0.out BL1.out)) (fun hHeld => ?_)
   clear hK K
   refine zr 8 _ ?_
   refine zo 3 (fun K hK => ?_)
   refine goes_ Tryd.func65 zk rfl #[.agg #[.slice A0 h.length c0, .slice A1 s.length c1, .slice A2 p.length c2, .int .i64 b0, .int .i64 b1], .int .i64 one] (by rfl) rfl rfl dQ1 ?_
   (with_reducible refine (HIK3.out v1 BL1.out).mono ?_)
   rintro e v2 ⟨rfl, hb⟩
   refine ⟨_, rfl, ?_⟩
   have BL2 := zh (BL1.out.trans (hb.mono BL1.out.size))
   have G13_2 := zh (blk_below G13_1.out hb)
   clear hb
   refine hK.out _ _ (cells5 (blk_below B0.out BL2.out)) (fun hHeld => ?_)
   clear hK K
   refine zr 23 _ ?_
   refine zu 4 ?_
   refine zn 6 ?_
   refine take_ (i := 5) (N := some 25) (v := undef) (a' := ?_) #[true, true, true, true, true, true, true, false, false, false, false, false, false, true, false, false] rfl rfl (take_ofW HT_.out HW_.out zk) (fun _ _ _ h => h) (Or.inr ⟨by rfl, rfl⟩) hHeld ?_ ?_
   rotate_left
   ·simp only [Act.put, List.setIfInBounds_toArray, List.set_cons_zero, List.set_cons_succ, i64_w, i32_w]
    rfl
   refine zn 7 ?_
   refine zu 8 ?_
   refine zo 9 (fun K hK => ?_)
   refine goes_ Tryd.func62 zk rfl #[.agg #[.slice A0 h.length c0, .slice A1 s.length c1, .slice A2 p.length c2, .int .i64 b0, .int .i64 b1], .bool false] (by rfl) rfl rfl dQ1 ?_
   (with_reducible refine (HAS.out v2 BL2.out).mono ?_)
   rintro e v3 ⟨rfl, hb⟩
   refine ⟨_, rfl, ?_⟩
   have BL3 := zh (BL2.out.trans (hb.mono BL2.out.size))
   have G13_3 := zh (blk_below G13_2.out hb)
   have hs2_ := BL2.out.size
   have hga := blk_lt G13_2.out
   clear hb
   refine hK.out _ _ (cells5 (blk_below B0.out BL3.out)) (fun hHeld => ?_)
   clear hK K
   refine zr 29 _ ?_
   refine zu 10 ?_
   refine zu 11 ?_
   refine zu 12 ?_
   refine zp 14 (fun K hK => ?_)
   obtain ⟨c0_, c1_, c2_, c3_, c4_, c5_, c6_, c7_, c8_, c9_, c10_, c11_, c12_, c13_, c14_, c15_⟩ := cells16 G13_3.out
   obtain ⟨d0_, d1_, d2_, d3_, d4_, d5_, d6_, d7_, d8_, d9_, d10_, d11_, d12_, d13_, d14_, d15_⟩ := froz16 G13_3.out
   refine skip_ (w1 := stZ v3 v0.heap.size) (by rfl) rfl ?hs3_ ?_
   (case hs3_ => unfold stZ st16; first | (go_simp; done) | (go_simp; rfl))
   clear c0_ d0_ c1_ d1_ c2_ d2_ c3_ d3_ c4_ d4_ c5_ d5_ c6_ d6_ c7_ d7_ c8_ d8_ c9_ d9_ c10_ d10_ c11_ d11_ c12_ d12_ c13_ d13_ c14_ d14_ c15_ d15_
   have hs3 := BL3.out.size
   generalize hv_ : stZ v3 v0.heap.size = v4
   have BL4 := zh (st_below hv_ BL3.out dQ4)
   have G13_4 := zh (st_set hv_ G13_3.out)
   clear hv_
   refine hK.out _ _ (cells5 (blk_below B0.out BL4.out)) (fun hHeld => ?_)
   clear hK K
   refine zu 15 ?_
   refine zd ?_
   go_wp2_with (fail)
   go_meet
   case rel => exact ⟨rfl, ⟨blk_below Z0.out BL4.out⟩, ⟨HBD.out.trans (BL4.out.mono HBD.out.size)⟩⟩
 case rest =>
  obtain ⟨rfl, Zc, HBc⟩ := hcut
  obtain ⟨z0, z1⟩ := cells2 Zc.out
  obtain ⟨f0, f1⟩ := froz2 Zc.out
  go_wp2
  exact bodyPost_ret (results_ct rfl _ _ (w.heap.size + 1) 26 #[.int .i64 0, .int .i64 0] (0, 0) _ rfl (set2 Zc.out _ _) Tryd.underlying26 rfl zk) rfl ⟨rfl, (HBc.out.setCell dQ2 _).setCell dQ2 _⟩
set_option maxRecDepth 100000 in
set_option maxHeartbeats 8000000 in
theorem apart_bad2 (A0 : Option Addr) (c0 : Nat) (h : List S26) (A1 : Option Addr) (c1 : Nat) (s : List S61) (A2 : Option Addr) (c2 : Nat) (p : List S48) (b0 b1 : Int) one other E (w : World) (hsm : small h s p = true) (hG : Glob w)
  (h0 : Kd.C k26 w A0 h.length h) (hc0 : h.length ≤ c0) (h1 : Kd.C k61 w A1 s.length s) (hc1 : s.length ≤ c1) (h2 : Kd.C k48 w A2 p.length p) (hc2 : p.length ≤ c2) (r : Bool) (hi1 : inK h.length one = true) (hi2 : inK h.length other = r) (hE : askedE h s p b0 b1 r = E) (hz : E ≠ 0) :
  Calls Tryd.prog 27 #[.agg #[.slice A0 h.length c0, .slice A1 s.length c1, .slice A2 p.length c2, .int .i64 b0, .int .i64 b1], .int .i64 one, .int .i64 other] w fun e w' => e = .returned (.tuple #[.agg #[.int .i64 0, .int .i64 0], .int .i64 E]) ∧ Below w.heap.size w w' := by
 have hu77 := Tryd.underlying77
 have hu80 := Tryd.underlying80
 have hu28 := Tryd.underlying28
 have hu26 := Tryd.underlying26
 have HB0 := zh (below_alloc (below_alloc (Below.refl w.heap.size w) (.cells #[.slice A0 h.length c0, .slice A1 s.length c1, .slice A2 p.length c2, .int .i64 b0, .int .i64 b1] 28)) (.cells #[.int .i64 0, .int .i64 0] 26))
 have B0 := zh (blk_alloc (alloc_at w (.cells #[.slice A0 h.length c0, .slice A1 s.length c1, .slice A2 p.length c2, .int .i64 b0, .int .i64 b1] 28) w.heap.size rfl) (.cells #[.int .i64 0, .int .i64 0] 26))
 have Z0 := zh (alloc_at (w.alloc (.cells #[.slice A0 h.length c0, .slice A1 s.length c1, .slice A2 p.length c2, .int .i64 b0, .int .i64 b1] 28)) (.cells #[.int .i64 0, .int .i64 0] 26) (w.heap.size + 1) (by simp))
 have HGW := zh hG
 have D0 := zh h0
 have D1 := zh h1
 have D2 := zh h2
 have HSM := zh hsm
 clear h0 h1 h2 hG hsm
 have hz1 : (E != 0) = true := bne_iff_ne.2 hz
 go_enter Tryd.func27, Tryd.ntmps27
 go_upto_region 1 with (fail)
 obtain ⟨W1, hW1⟩ : ∃ W1, (w.alloc (.cells #[.slice A0 h.length c0, .slice A1 s.length c1, .slice A2 p.length c2, .int .i64 b0, .int .i64 b1] 28)).alloc (.cells #[.int .i64 0, .int .i64 0] 26) = W1 := ⟨_, rfl⟩
 simp only [hW1] at HB0 B0 Z0 ⊢
 clear hW1
 have HBD := zh (below_drew1 HB0.out)
 replace B0 := zh (show W1.drew.heap[w.heap.size]? = _ from B0.out)
 replace Z0 := zh (show W1.drew.heap[w.heap.size + 1]? = _ from Z0.out)
 clear HB0
 have HAS : Aside0 (∀ W, Below W1.drew.heap.size W1.drew W → Calls Tryd.prog 62 #[.agg #[.slice A0 h.length c0, .slice A1 s.length c1, .slice A2 p.length c2, .int .i64 b0, .int .i64 b1], .bool r] W fun e w' => e = .returned (.tuple #[.agg #[.slice none 0 0, .slice none 0 0, .slice none 0 0, .int .i64 0, .int .i64 0, .slice none 0 0, .bool false, .bool false, .bool false, .bool false, .bool false, .bool false, .bool false, .bool false, .int .i64 0, .int .i64 0], .int .i64 E]) ∧ Below W.heap.size W w') := ⟨fun W hW => asked_bad A0 c0 h A1 c1 s A2 c2 p b0 b1 r W HSM.out (HGW.out.below (HBD.out.trans (hW.mono HBD.out.size))) (Kd.C_below (Kd.C_below D0.out HBD.out) hW) hc0 (Kd.C_below (Kd.C_below D1.out HBD.out) hW) hc1 (Kd.C_below (Kd.C_below D2.out HBD.out) hW) hc2 E hE hz⟩
 have HIK3 : Aside0 (∀ W, Below W1.drew.heap.size W1.drew W → Calls Tryd.prog 65 #[.agg #[.slice A0 h.length c0, .slice A1 s.length c1, .slice A2 p.length c2, .int .i64 b0, .int .i64 b1], .int .i64 one] W fun e w' => e = .returned (.bool true) ∧ Below W.heap.size W w') := ⟨fun W hW => by
  have h9 := isKey_calls A0 c0 h A1 c1 s A2 c2 p b0 b1 one W (small_h HSM.out) (Kd.C_below (Kd.C_below D0.out HBD.out) hW) hc0 (Kd.C_below (Kd.C_below D1.out HBD.out) hW) hc1 (Kd.C_below (Kd.C_below D2.out HBD.out) hW) hc2
  rw [hi1] at h9
  exact h9⟩
 have HIK7 : Aside0 (∀ W, Below W1.drew.heap.size W1.drew W → Calls Tryd.prog 65 #[.agg #[.slice A0 h.length c0, .slice A1 s.length c1, .slice A2 p.length c2, .int .i64 b0, .int .i64 b1], .int .i64 other] W fun e w' => e = .returned (.bool r) ∧ Below W.heap.size W w') := ⟨fun W hW => by
  have h9 := isKey_calls A0 c0 h A1 c1 s A2 c2 p b0 b1 other W (small_h HSM.out) (Kd.C_below (Kd.C_below D0.out HBD.out) hW) hc0 (Kd.C_below (Kd.C_below D1.out HBD.out) hW) hc1 (Kd.C_below (Kd.C_below D2.out HBD.out) hW) hc2
  rw [hi2] at h9
  exact h9⟩
 clear hE hz hi1 hi2
 go_cut [9] (fun u9 wc => u9 = .int .i64 E ∧ Aside0 (wc.heap[w.heap.size + 1]? = some (.cells #[.int .i64 0, .int .i64 0] 26 (0, 0))) ∧ Aside0 (Below w.heap.size w wc))
 case first =>
  have BL0 := zh (Below.refl W1.drew.heap.size W1.drew)
  refine start_ (n := 16) (S := fun w' => w'.cell? ⟨w.heap.size, 0, none⟩ = some (.slice A0 h.length c0) ∧ w'.cell? ⟨w.heap.size, 1, none⟩ = some (.slice A1 s.length c1) ∧ w'.cell? ⟨w.heap.size, 2, none⟩ = some (.slice A2 p.length c2) ∧ w'.cell? ⟨w.heap.size, 3, none⟩ = some (.int .i64 b0) ∧ w'.cell? ⟨w.heap.size, 4, none⟩ = some (.int .i64 b1)) (ds := []) (Array.replicate 16 false) zk rfl rfl ⟨(blk_cell (blk_below B0.out BL0.out) 0).trans rfl, (blk_cell (blk_below B0.out BL0.out) 1).trans rfl, (blk_cell (blk_below B0.out BL0.out) 2).trans rfl, (blk_cell (blk_below B0.out BL0.out) 3).trans rfl, (blk_cell (blk_below B0.out BL0.out) 4).trans rfl⟩ (fun hHeld => ?_)
  refine with_tabW fApart.tab1 fApart.bits1 (fun HT_ HW_ => ?_)
  generalize W1.drew = v0 at B0 HBD HAS Z0 HIK3 HIK7 BL0 hHeld ⊢
  refine zu 2 ?_
  refine zt 0 ?_
  refine zt 1 ?_
  refine two_ (i := 3) (j := 13) (Ni := some 23) (Nj := some 8) #[true, true, true, true, false, false, false, false, false, false, false, false, false, false, false, false] #[true, true, true, false, false, false, false, false, false, false, false, false, false, true, false, false] rfl rfl rfl rfl (two_of HT_.out zk) (by decide) (by decide) (fun K hK => ?_) (fun K hK => ?_)
  ·refine goes_ Tryd.func65 zk rfl #[.agg #[.slice A0 h.length c0, .slice A1 s.length c1, .slice A2 p.length c2, .int .i64 b0, .int .i64 b1], .int .i64 one] (by rfl) rfl rfl dQ1 ?_
   (with_reducible refine (HIK3.out v0 BL0.out).mono ?_)
   rintro e v1 ⟨rfl, hb⟩
   refine ⟨_, rfl, ?_⟩
   have BL1 := zh (BL0.out.trans (hb.mono BL0.out.size))
   clear hb
   refine hK.out _ _ (cells5 (blk_below B0.out BL1.out)) (fun hHeld => ?_)
   clear hK K
   refine zr 23 _ ?_
   refine zu 4 ?_
   refine zu 6 ?_
   refine zt 5 ?_
   refine two_ (i := 7) (j := 13) (Ni := some 27) (Nj := some 8) #[true, true, true, true, true, true, true, true, false, false, false, false, false, false, false, false] #[true, true, true, true, true, true, true, false, false, false, false, false, false, true, false, false] rfl rfl rfl rfl (two_of HT_.out zk) (by decide) (by decide) (fun K hK => ?_) (fun K hK => ?_)
   ·refine goes_ Tryd.func65 zk rfl #[.agg #[.slice A0 h.length c0, .slice A1 s.length c1, .slice A2 p.length c2, .int .i64 b0, .int .i64 b1], .int .i64 other] (by rfl) rfl rfl dQ1 ?_
    (with_reducible refine (HIK7.out v1 BL1.out).mono ?_)
    rintro e v2 ⟨rfl, hb⟩
    refine ⟨_, rfl, ?_⟩
    have BL2 := zh (BL1.out.trans (hb.mono BL1.out.size))
    clear hb
    refine hK.out _ _ (cells5 (blk_below B0.out BL2.out)) (fun hHeld => ?_)
    clear hK K
    refine zr 27 _ ?_
    refine zu 8 ?_
    refine two_ (i := 9) (j := 13) (Ni := some 29) (Nj := some 8) #[true, true, true, true, true, true, true, true, true, true, false, false, false, false, false, false] #[true, true, true, true, true, true, true, true, true, false, false, false, false, true, false, false] rfl rfl rfl rfl (two_of HT_.out zk) (by decide) (by decide) (fun K hK => ?_) (fun K hK => ?_)
    ·refine goes_ Tryd.func62 zk rfl #[.agg #[.slice A0 h.length c0, .slice A1 s.length c1, .slice A2 p.length c2, .int .i64 b0, .int .i64 b1], .bool r] (by rfl) rfl rfl dQ1 ?_
     (with_reducible refine (HAS.out v2 BL2.out).mono ?_)
     rintro e v3 ⟨rfl, hb⟩
     refine ⟨_, rfl, ?_⟩
     have BL3 := zh (BL2.out.trans (hb.mono BL2.out.size))
     have hs2_ := BL2.out.size
     clear hb
     refine hK.out _ _ (cells5 (blk_below B0.out BL3.out)) (fun hHeld => ?_)
     clear hK K
     refine zr 29 _ ?_
     refine zu 10 ?_
     refine zu 11 ?_
     refine zu 12 ?_
     refine zo 13 (fun K hK => ?_)
     refine value_ (v := .pointer (some ⟨v3.heap.size, 0, none⟩)) (w1 := v3.alloc (.cells #[.slice none 0 0, .slice none 0 0, .slice none 0 0, .int .i64 0, .int .i64 0, .slice none 0 0, .bool false, .bool false, .bool false, .bool false, .bool false, .bool false, .bool false, .bool false, .int .i64 0, .int .i64 0] 77)) (by rfl) rfl ?hr3 ?_
     (case hr3 => first | (go_simp; done) | (go_simp; rfl))
     generalize hv_ : v3.alloc (.cells #[.slice none 0 0, .slice none 0 0, .slice none 0 0, .int .i64 0, .int .i64 0, .slice none 0 0, .bool false, .bool false, .bool false, .bool false, .bool false, .bool false, .bool false, .bool false, .int .i64 0, .int .i64 0] 77) = v4
     have BL4 := zh (al_below hv_ BL3.out)
     have G13_4 := zh (al_at hv_)
     have hs3 := BL3.out.size
     clear hv_
     refine hK.out _ _ (cells5 (blk_below B0.out BL4.out)) (fun hHeld => ?_)
     clear hK K
     refine zr 8 _ ?_
     refine zp 14 (fun K hK => ?_)
     obtain ⟨c0_, c1_, c2_, c3_, c4_, c5_, c6_, c7_, c8_, c9_, c10_, c11_, c12_, c13_, c14_, c15_⟩ := cells16 G13_4.out
     obtain ⟨d0_, d1_, d2_, d3_, d4_, d5_, d6_, d7_, d8_, d9_, d10_, d11_, d12_, d13_, d14_, d15_⟩ := froz16 G13_4.out
     refine skip_ (w1 := stZ v4 v3.heap.size) (by rfl) rfl ?hs4_ ?_
     (case hs4_ => unfold stZ st16; first | (go_simp; done) | (go_simp; rfl))
     clear c0_ d0_ c1_ d1_ c2_ d2_ c3_ d3_ c4_ d4_ c5_ d5_ c6_ d6_ c7_ d7_ c8_ d8_ c9_ d9_ c10_ d10_ c11_ d11_ c12_ d12_ c13_ d13_ c14_ d14_ c15_ d15_
     have hs4 := BL4.out.size
     generalize hv_ : stZ v4 v3.heap.size = v5
     have BL5 := zh (st_below hv_ BL4.out (by show v0.heap.size ≤ v3.heap.size; omega))
     have G13_5 := zh (st_set hv_ G13_4.out)
     clear hv_
     refine hK.out _ _ (cells5 (blk_below B0.out BL5.out)) (fun hHeld => ?_)
     clear hK K
     refine zu 15 ?_
     refine zd ?_
     go_wp2_with (fail)
     go_meet
     case rel => exact ⟨rfl, ⟨blk_below Z0.out BL5.out⟩, ⟨HBD.out.trans (BL5.out.mono HBD.out.size)⟩⟩
    ·refine value_ (v := .pointer (some ⟨v2.heap.size, 0, none⟩)) (w1 := v2.alloc (.cells #[.slice none 0 0, .slice none 0 0, .slice none 0 0, .int .i64 0, .int .i64 0, .slice none 0 0, .bool false, .bool false, .bool false, .bool false, .bool false, .bool false, .bool false, .bool false, .int .i64 0, .int .i64 0] 77)) (by rfl) rfl ?hr2 ?_
     (case hr2 => first | (go_simp; done) | (go_simp; rfl))
     generalize hv_ : v2.alloc (.cells #[.slice none 0 0, .slice none 0 0, .slice none 0 0, .int .i64 0, .int .i64 0, .slice none 0 0, .bool false, .bool false, .bool false, .bool false, .bool false, .bool false, .bool false, .bool false, .int .i64 0, .int .i64 0] 77) = v3
     have BL3 := zh (al_below hv_ BL2.out)
     have G13_3 := zh (al_at hv_)
     have hs2 := BL2.out.size
     clear hv_
     refine hK.out _ _ (cells5 (blk_below B0.out BL3.out)) (fun hHeld => ?_)
     clear hK K
     refine zr 8 _ ?_
     refine zo 9 (fun K hK => ?_)
     refine goes_ Tryd.func62 zk rfl #[.agg #[.slice A0 h.length c0, .slice A1 s.length c1, .slice A2 p.length c2, .int .i64 b0, .int .i64 b1], .bool r] (by rfl) rfl rfl dQ1 ?_
     (with_reducible refine (HAS.out v3 BL3.out).mono ?_)
     rintro e v4 ⟨rfl, hb⟩
     refine ⟨_, rfl, ?_⟩
     have BL4 := zh (BL3.out.trans (hb.mono BL3.out.size))
     have G13_4 := zh (blk_below G13_3.out hb)
     have hs3_ := BL3.out.size
     have hga := blk_lt G13_3.out
     clear hb
     refine hK.out _ _ (cells5 (blk_below B0.out BL4.out)) (fun hHeld => ?_)
     clear hK K
     refine zr 29 _ ?_
     refine zu 10 ?_
     refine zu 11 ?_
     refine zu 12 ?_
     refine zp 14 (fun K hK => ?_)
     obtain ⟨c0_, c1_, c2_, c3_, c4_, c5_, c6_, c7_, c8_, c9_, c10_, c11_, c12_, c13_, c14_, c15_⟩ := cells16 G13_4.out
     obtain ⟨d0_, d1_, d2_, d3_, d4_, d5_, d6_, d7_, d8_, d9_, d10_, d11_, d12_, d13_, d14_, d15_⟩ := froz16 G13_4.out
     refine skip_ (w1 := stZ v4 v2.heap.size) (by rfl) rfl ?hs4_ ?_
     (case hs4_ => unfold stZ st16; first | (go_simp; done) | (go_simp; rfl))
     clear c0_ d0_ c1_ d1_ c2_ d2_ c3_ d3_ c4_ d4_ c5_ d5_ c6_ d6_ c7_ d7_ c8_ d8_ c9_ d9_ c10_ d10_ c11_ d11_ c12_ d12_ c13_ d13_ c14_ d14_ c15_ d15_
     have hs4 := BL4.out.size
     generalize hv_ : stZ v4 v2.heap.size = v5
     have BL5 := zh (st_below hv_ BL4.out dQ5)
     have G13_5 := zh (st_set hv_ G13_4.out)
     clear hv_
     refine hK.out _ _ (cells5 (blk_below B0.out BL5.out)) (fun hHeld => ?_)
     clear hK K
     refine zu 15 ?_
     refine zd ?_
     go_wp2_with (fail)
     go_meet
     case rel => exact ⟨rfl, ⟨blk_below Z0.out BL5.out⟩, ⟨HBD.out.trans (BL5.out.mono HBD.out.size)⟩⟩
   ·refine value_ (v := .pointer (some ⟨v1.heap.size, 0, none⟩)) (w1 := v1.alloc (.cells #[.slice none 0 0, .slice none 0 0, .slice none 0 0, .int .i64 0, .int .i64 0, .slice none 0 0, .bool false, .bool false, .bool false, .bool false, .bool false, .bool false, .bool false, .bool false, .int .i64 0, .int .i64 0] 77)) (by rfl) rfl ?hr1 ?_
    (case hr1 => first | (go_simp; done) | (go_simp; rfl))
    generalize hv_ : v1.alloc (.cells #[.slice none 0 0, .slice none 0 0, .slice none 0 0, .int .i64 0, .int .i64 0, .slice none 0 0, .bool false, .bool false, .bool false, .bool false, .bool false, .bool false, .bool false, .bool false, .int .i64 0, .int .i64 0] 77) = v2
    have BL2 := zh (al_below hv_ BL1.out)
    have G13_2 := zh (al_at hv_)
    have hs1 := BL1.out.size
    clear hv_
    refine hK.out _ _ (cells5 (blk_below B0.out BL2.out)) (fun hHeld => ?_)
    clear hK K
    refine zr 8 _ ?_
    refine zo 7 (fun K hK => ?_)
    refine goes_ Tryd.func65 zk rfl #[.agg #[.slice A0 h.length c0, .slice A1 s.length c1, .slice A2 p.length c2, .int .i64 b0, .int .i64 b1], .int .i64 other] (by rfl) rfl rfl dQ1 ?_
    (with_reducible refine (HIK7.out v2 BL2.out).mono ?_)
    rintro e v3 ⟨rfl, hb⟩
    refine ⟨_, rfl, ?_⟩
    have BL3 := zh (BL2.out.trans (hb.mono BL2.out.size))
    have G13_3 := zh (blk_below G13_2.out hb)
    clear hb
    refine hK.out _ _ (cells5 (blk_below B0.out BL3.out)) (fun hHeld => ?_)
    clear hK K
    refine zr 27 _ ?_
    refine zu 8 ?_
    refine zo 9 (fun K hK => ?_)
    refine goes_ Tryd.func62 zk rfl #[.agg #[.slice A0 h.length c0, .slice A1 s.length c1, .slice A2 p.length c2, .int .i64 b0, .int .i64 b1], .bool r] (by rfl) rfl rfl dQ1 ?_
    (with_reducible refine (HAS.out v3 BL3.out).mono ?_)
    rintro e v4 ⟨rfl, hb⟩
    refine ⟨_, rfl, ?_⟩
    have BL4 := zh (BL3.out.trans (hb.mono BL3.out.size))
    have G13_4 := zh (blk_below G13_3.out hb)
    have hs3_ := BL3.out.size
    have hga := blk_lt G13_3.out
    clear hb
    refine hK.out _ _ (cells5 (blk_below B0.out BL4.out)) (fun hHeld => ?_)
    clear hK K
    refine zr 29 _ ?_
    refine zu 10 ?_
    refine zu 11 ?_
    refine zu 12 ?_
    refine zp 14 (fun K hK => ?_)
    obtain ⟨c0_, c1_, c2_, c3_, c4_, c5_, c6_, c7_, c8_, c9_, c10_, c11_, c12_, c13_, c14_, c15_⟩ := cells16 G13_4.out
    obtain ⟨d0_, d1_, d2_, d3_, d4_, d5_, d6_, d7_, d8_, d9_, d10_, d11_, d12_, d13_, d14_, d15_⟩ := froz16 G13_4.out
    refine skip_ (w1 := stZ v4 v1.heap.size) (by rfl) rfl ?hs4_ ?_
    (case hs4_ => unfold stZ st16; first | (go_simp; done) | (go_simp; rfl))
    clear c0_ d0_ c1_ d1_ c2_ d2_ c3_ d3_ c4_ d4_ c5_ d5_ c6_ d6_ c7_ d7_ c8_ d8_ c9_ d9_ c10_ d10_ c11_ d11_ c12_ d12_ c13_ d13_ c14_ d14_ c15_ d15_
    have hs4 := BL4.out.size
    generalize hv_ : stZ v4 v1.heap.size = v5
    have BL5 := zh (st_below hv_ BL4.out dQ3)
    have G13_5 := zh (st_set hv_ G13_4.out)
    clear hv_
    refine hK.out _ _ (cells5 (blk_below B0.out BL5.out)) (fun hHeld => ?_)
    clear hK K
    refine zu 15 ?_
    refine zd ?_
    go_wp2_with (fail)
    go_meet
    case rel => exact ⟨rfl, ⟨blk_below Z0.out BL5.out⟩, ⟨HBD.out.trans (BL5.out.mono HBD.out.size)⟩⟩
  ·refine value_ (v := .pointer (some ⟨v0.heap.size, 0, none⟩)) (w1 := v0.alloc (.cells #[.slice none 0 0, .slice none 0 0, .slice none 0 0, .int .i64 0, .int .i64 0, .slice none 0 0, .bool false, .bool false, .bool false, .bool false, .bool false, .bool false, .bool false, .bool false, .int .i64 0, .int .i64 0] 77)) (by rfl) rfl ?hr0 ?_
   (case hr0 => first | (go_simp; done) | (go_simp; rfl))
   generalize hv_ : v0.alloc (.cells #[.slice none 0 0, .slice none 0 0, .slice none 0 0, .int .i64 0, .int .i64 0, .slice none 0 0, .bool false, .bool false, .bool false, .bool false, .bool false, .bool false, .bool false, .bool false, .int .i64 0, .int .i64 0] 77) = v1
   have BL1 := zh (al_below hv_ BL0.out)
   have G13_1 := zh (al_at hv_)
   have hs0 := BL0.out.size
   clear hv_
   refine hK.out _ _ (cells5 (blk_below B0.out BL1.out)) (fun hHeld => ?_)
   clear hK K
   refine zr 8 _ ?_
   refine zo 3 (fun K hK => ?_)
   refine goes_ Tryd.func65 zk rfl #[.agg #[.slice A0 h.length c0, .slice A1 s.length c1, .slice A2 p.length c2, .int .i64 b0, .int .i64 b1], .int .i64 one] (by rfl) rfl rfl dQ1 ?_
   (with_reducible refine (HIK3.out v1 BL1.out).mono ?_)
   rintro e v2 ⟨rfl, hb⟩
   refine ⟨_, rfl, ?_⟩
   have BL2 := zh (BL1.out.trans (hb.mono BL1.out.size))
   have G13_2 := zh (blk_below G13_1.out hb)
   clear hb
   refine hK.out _ _ (cells5 (blk_below B0.out BL2.out)) (fun hHeld => ?_)
   clear hK K
   refine zr 23 _ ?_
   refine zu 4 ?_
   refine zu 6 ?_
   refine zt 5 ?_
   refine zo 7 (fun K hK => ?_)
   refine goes_ Tryd.func65 zk rfl #[.agg #[.slice A0 h.length c0, .slice A1 s.length c1, .slice A2 p.length c2, .int .i64 b0, .int .i64 b1], .int .i64 other] (by rfl) rfl rfl dQ1 ?_
   (with_reducible refine (HIK7.out v2 BL2.out).mono ?_)
   rintro e v3 ⟨rfl, hb⟩
   refine ⟨_, rfl, ?_⟩
   have BL3 := zh (BL2.out.trans (hb.mono BL2.out.size))
   have G13_3 := zh (blk_below G13_2.out hb)
   clear hb
   refine hK.out _ _ (cells5 (blk_below B0.out BL3.out)) (fun hHeld => ?_)
   clear hK K
   refine zr 27 _ ?_
   refine zu 8 ?_
   refine zo 9 (fun K hK => ?_)
   refine goes_ Tryd.func62 zk rfl #[.agg #[.slice A0 h.length c0, .slice A1 s.length c1, .slice A2 p.length c2, .int .i64 b0, .int .i64 b1], .bool r] (by rfl) rfl rfl dQ1 ?_
   (with_reducible refine (HAS.out v3 BL3.out).mono ?_)
   rintro e v4 ⟨rfl, hb⟩
   refine ⟨_, rfl, ?_⟩
   have BL4 := zh (BL3.out.trans (hb.mono BL3.out.size))
   have G13_4 := zh (blk_below G13_3.out hb)
   have hs3_ := BL3.out.size
   have hga := blk_lt G13_3.out
   clear hb
   refine hK.out _ _ (cells5 (blk_below B0.out BL4.out)) (fun hHeld => ?_)
   clear hK K
   refine zr 29 _ ?_
   refine zu 10 ?_
   refine zu 11 ?_
   refine zu 12 ?_
   refine zp 14 (fun K hK => ?_)
   obtain ⟨c0_, c1_, c2_, c3_, c4_, c5_, c6_, c7_, c8_, c9_, c10_, c11_, c12_, c13_, c14_, c15_⟩ := cells16 G13_4.out
   obtain ⟨d0_, d1_, d2_, d3_, d4_, d5_, d6_, d7_, d8_, d9_, d10_, d11_, d12_, d13_, d14_, d15_⟩ := froz16 G13_4.out
   refine skip_ (w1 := stZ v4 v0.heap.size) (by rfl) rfl ?hs4_ ?_
   (case hs4_ => unfold stZ st16; first | (go_simp; done) | (go_simp; rfl))
   clear c0_ d0_ c1_ d1_ c2_ d2_ c3_ d3_ c4_ d4_ c5_ d5_ c6_ d6_ c7_ d7_ c8_ d8_ c9_ d9_ c10_ d10_ c11_ d11_ c12_ d12_ c13_ d13_ c14_ d14_ c15_ d15_
   have hs4 := BL4.out.size
   generalize hv_ : stZ v4 v0.heap.size = v5
   have BL5 := zh (st_below hv_ BL4.out dQ4)
   have G13_5 := zh (st_set hv_ G13_4.out)
   clear hv_
   refine hK.out _ _ (cells5 (blk_below B0.out BL5.out)) (fun hHeld => ?_)
   clear hK K
   refine zu 15 ?_
   refine zd ?_
   go_wp2_with (fail)
   go_meet
   case rel => exact ⟨rfl, ⟨blk_below Z0.out BL5.out⟩, ⟨HBD.out.trans (BL5.out.mono HBD.out.size)⟩⟩
 case rest =>
  obtain ⟨rfl, Zc, HBc⟩ := hcut
  obtain ⟨z0, z1⟩ := cells2 Zc.out
  obtain ⟨f0, f1⟩ := froz2 Zc.out
  go_wp2
  exact bodyPost_ret (results_ct rfl _ _ (w.heap.size + 1) 26 #[.int .i64 0, .int .i64 0] (0, 0) _ rfl (set2 Zc.out _ _) Tryd.underlying26 rfl zk) rfl ⟨rfl, (HBc.out.setCell dQ2 _).setCell dQ2 _⟩
set_option maxRecDepth 100000 in
set_option maxHeartbeats 8000000 in
theorem apart_same (A0 : Option Addr) (c0 : Nat) (h : List S26) (A1 : Option Addr) (c1 : Nat) (s : List S61) (A2 : Option Addr) (c2 : Nat) (p : List S48) (b0 b1 : Int) (w : World) (hsm : small h s p = true) (hG : Glob w)
  (h0 : Kd.C k26 w A0 h.length h) (hc0 : h.length ≤ c0) (h1 : Kd.C k61 w A1 s.length s) (hc1 : s.length ≤ c1) (h2 : Kd.C k48 w A2 p.length p) (hc2 : p.length ≤ c2) (k1 k2 : Nat) (hi1 : inK h.length (k1 : Int) = true) (hi2 : inK h.length (k2 : Int) = true) (hE : askedE h s p b0 b1 true = 0) (hkk : (k1 : Int) = (k2 : Int)) :
  Calls Tryd.prog 27 #[.agg #[.slice A0 h.length c0, .slice A1 s.length c1, .slice A2 p.length c2, .int .i64 b0, .int .i64 b1], .int .i64 (k1 : Int), .int .i64 (k2 : Int)] w fun e w' => e = .returned (.tuple #[.agg #[.int .i64 0, .int .i64 0], .int .i64 0]) ∧ Below w.heap.size w w' := by
 have hu77 := Tryd.underlying77
 have hu80 := Tryd.underlying80
 have hu28 := Tryd.underlying28
 have hu26 := Tryd.underlying26
 have HB0 := zh (below_alloc (below_alloc (Below.refl w.heap.size w) (.cells #[.slice A0 h.length c0, .slice A1 s.length c1, .slice A2 p.length c2, .int .i64 b0, .int .i64 b1] 28)) (.cells #[.int .i64 0, .int .i64 0] 26))
 have B0 := zh (blk_alloc (alloc_at w (.cells #[.slice A0 h.length c0, .slice A1 s.length c1, .slice A2 p.length c2, .int .i64 b0, .int .i64 b1] 28) w.heap.size rfl) (.cells #[.int .i64 0, .int .i64 0] 26))
 have Z0 := zh (alloc_at (w.alloc (.cells #[.slice A0 h.length c0, .slice A1 s.length c1, .slice A2 p.length c2, .int .i64 b0, .int .i64 b1] 28)) (.cells #[.int .i64 0, .int .i64 0] 26) (w.heap.size + 1) (by simp))
 have HGW := zh hG
 have D0 := zh h0
 have D1 := zh h1
 have D2 := zh h2
 have HSM := zh hsm
 clear h0 h1 h2 hG hsm
 obtain ⟨hck, _, hT⟩ := askedE_ok hE
 have HF := zh (fine_of hck).1
 obtain ⟨ad0, rfl⟩ : ∃ ad, A0 = some ad := by obtain ⟨ad, e, _⟩ := H_at D0.out 0 (by have := HF.out.some; omega); exact ⟨ad, e⟩
 have hk1 : ((k1 : Int) == (k2 : Int)) = true := beq_iff_eq.2 hkk
 clear hkk
 go_enter Tryd.func27, Tryd.ntmps27
 go_upto_region 1 with (fail)
 obtain ⟨W1, hW1⟩ : ∃ W1, (w.alloc (.cells #[.slice (some ad0) h.length c0, .slice A1 s.length c1, .slice A2 p.length c2, .int .i64 b0, .int .i64 b1] 28)).alloc (.cells #[.int .i64 0, .int .i64 0] 26) = W1 := ⟨_, rfl⟩
 simp only [hW1] at HB0 B0 Z0 ⊢
 clear hW1
 have HBD := zh (below_drew1 HB0.out)
 replace B0 := zh (show W1.drew.heap[w.heap.size]? = _ from B0.out)
 replace Z0 := zh (show W1.drew.heap[w.heap.size + 1]? = _ from Z0.out)
 clear HB0
 have HAS : Aside0 (∀ W, Below W1.drew.heap.size W1.drew W → Calls Tryd.prog 62 #[.agg #[.slice (some ad0) h.length c0, .slice A1 s.length c1, .slice A2 p.length c2, .int .i64 b0, .int .i64 b1], .bool true] W fun e w' => ∃ A3 c3, e = .returned (.tuple #[.agg #[.slice (some ad0) h.length c0, .slice A1 s.length c1, .slice A2 p.length c2, .int .i64 b0, .int .i64 b1, .slice A3 (jsOf h s p b0 b1).length c3, .bool false, .bool false, .bool false, .bool false, .bool false, .bool false, .bool false, .bool false, .int .i64 b0, .int .i64 b1], .int .i64 0]) ∧ Kd.F k80 w' (fun k => W.heap.size ≤ k) A3 (jsOf h s p b0 b1).length ((jsOf h s p b0 b1).map ofJ) ∧ Below W.heap.size W w') := ⟨fun W hW => asked_good (some ad0) c0 h A1 c1 s A2 c2 p b0 b1 true W HSM.out (HGW.out.below (HBD.out.trans (hW.mono HBD.out.size))) (Kd.C_below (Kd.C_below D0.out HBD.out) hW) hc0 (Kd.C_below (Kd.C_below D1.out HBD.out) hW) hc1 (Kd.C_below (Kd.C_below D2.out HBD.out) hW) hc2 hE⟩
 have HIK3 : Aside0 (∀ W, Below W1.drew.heap.size W1.drew W → Calls Tryd.prog 65 #[.agg #[.slice (some ad0) h.length c0, .slice A1 s.length c1, .slice A2 p.length c2, .int .i64 b0, .int .i64 b1], .int .i64 (k1 : Int)] W fun e w' => e = .returned (.bool true) ∧ Below W.heap.size W w') := ⟨fun W hW => by
  have h9 := isKey_calls (some ad0) c0 h A1 c1 s A2 c2 p b0 b1 (k1 : Int) W (small_h HSM.out) (Kd.C_below (Kd.C_below D0.out HBD.out) hW) hc0 (Kd.C_below (Kd.C_below D1.out HBD.out) hW) hc1 (Kd.C_below (Kd.C_below D2.out HBD.out) hW) hc2
  rw [hi1] at h9
  exact h9⟩
 have HIK7 : Aside0 (∀ W, Below W1.drew.heap.size W1.drew W → Calls Tryd.prog 65 #[.agg #[.slice (some ad0) h.length c0, .slice A1 s.length c1, .slice A2 p.length c2, .int .i64 b0, .int .i64 b1], .int .i64 (k2 : Int)] W fun e w' => e = .returned (.bool true) ∧ Below W.heap.size W w') := ⟨fun W hW => by
  have h9 := isKey_calls (some ad0) c0 h A1 c1 s A2 c2 p b0 b1 (k2 : Int) W (small_h HSM.out) (Kd.C_below (Kd.C_below D0.out HBD.out) hW) hc0 (Kd.C_below (Kd.C_below D1.out HBD.out) hW) hc1 (Kd.C_below (Kd.C_below D2.out HBD.out) hW) hc2
  rw [hi2] at h9
  exact h9⟩
 clear hE hck hT hi1 hi2
 go_cut [8, 9] (fun u8 u9 wc => ∃ g A3 c3, u8 = .pointer (some ⟨g, 0, none⟩) ∧ u9 = .int .i64 0 ∧ Aside0 (wc.heap[g]? = some (.cells #[.slice (some ad0) h.length c0, .slice A1 s.length c1, .slice A2 p.length c2, .int .i64 b0, .int .i64 b1, .slice A3 (jsOf h s p b0 b1).length c3, .bool false, .bool false, .bool false, .bool false, .bool false, .bool false, .bool false, .bool false, .int .i64 b0, .int .i64 b1] 77 (0, 0))) ∧ Aside0 (Kd.F k80 wc (fun _ => True) A3 (jsOf h s p b0 b1).length ((jsOf h s p b0 b1).map ofJ)) ∧ Aside0 (wc.heap[w.heap.size + 1]? = some (.cells #[.int .i64 0, .int .i64 0] 26 (0, 0))) ∧ Aside0 (Below w.heap.size w wc))
 case first =>
  have BL0 := zh (Below.refl W1.drew.heap.size W1.drew)
  refine start_ (n := 16) (S := fun w' => w'.cell? ⟨w.heap.size, 0, none⟩ = some (.slice (some ad0) h.length c0) ∧ w'.cell? ⟨w.heap.size, 1, none⟩ = some (.slice A1 s.length c1) ∧ w'.cell? ⟨w.heap.size, 2, none⟩ = some (.slice A2 p.length c2) ∧ w'.cell? ⟨w.heap.size, 3, none⟩ = some (.int .i64 b0) ∧ w'.cell? ⟨w.heap.size, 4, none⟩ = some (.int .i64 b1)) (ds := []) (Array.replicate 16 false) zk rfl rfl ⟨(blk_cell (blk_below B0.out BL0.out) 0).trans rfl, (blk_cell (blk_below B0.out BL0.out) 1).trans rfl, (blk_cell (blk_below B0.out BL0.out) 2).trans rfl, (blk_cell (blk_below B0.out BL0.out) 3).trans rfl, (blk_cell (blk_below B0.out BL0.out) 4).trans rfl⟩ (fun hHeld => ?_)
  refine with_tabW fApart.tab1 fApart.bits1 (fun HT_ HW_ => ?_)
  generalize W1.drew = v0 at B0 HBD HAS Z0 HIK3 HIK7 BL0 hHeld ⊢
  refine zu 2 ?_
  refine zt 0 ?_
  refine zt 1 ?_
  refine two_ (i := 3) (j := 13) (Ni := some 23) (Nj := some 8) #[true, true, true, true, false, false, false, false, false, false, false, false, false, false, false, false] #[true, true, true, false, false, false, false, false, false, false, false, false, false, true, false, false] rfl rfl rfl rfl (two_of HT_.out zk) (by decide) (by decide) (fun K hK => ?_) (fun K hK => ?_)
  ·refine goes_ Tryd.func65 zk rfl #[.agg #[.slice (some ad0) h.length c0, .slice A1 s.length c1, .slice A2 p.length c2, .int .i64 b0, .int .i64 b1], .int .i64 (k1 : Int)] (by rfl) rfl rfl dQ1 ?_
   (with_reducible refine (HIK3.out v0 BL0.out).mono ?_)
   rintro e v1 ⟨rfl, hb⟩
   refine ⟨_, rfl, ?_⟩
   have BL1 := zh (BL0.out.trans (hb.mono BL0.out.size))
   clear hb
   refine hK.out _ _ (cells5 (blk_below B0.out BL1.out)) (fun hHeld => ?_)
   clear hK K
   refine zr 23 _ ?_
   refine zu 4 ?_
   refine zu 6 ?_
   refine zt 5 ?_
   refine two_ (i := 7) (j := 13) (Ni := some 27) (Nj := some 8) #[true, true, true, true, true, true, true, true, false, false, false, false, false, false, false, false] #[true, true, true, true, true, true, true, false, false, false, false, false, false, true, false, false] rfl rfl rfl rfl (two_of HT_.out zk) (by decide) (by decide) (fun K hK => ?_) (fun K hK => ?_)
   ·refine goes_ Tryd.func65 zk rfl #[.agg #[.slice (some ad0) h.length c0, .slice A1 s.length c1, .slice A2 p.length c2, .int .i64 b0, .int .i64 b1], .int .i64 (k2 : Int)] (by rfl) rfl rfl dQ1 ?_
    (with_reducible refine (HIK7.out v1 BL1.out).mono ?_)
    rintro e v2 ⟨rfl, hb⟩
    refine ⟨_, rfl, ?_⟩
    have BL2 := zh (BL1.out.trans (hb.mono BL1.out.size))
    clear hb
    refine hK.out _ _ (cells5 (blk_below B0.out BL2.out)) (fun hHeld => ?_)
    clear hK K
    refine zr 27 _ ?_
    refine zu 8 ?_
    refine two_ (i := 9) (j := 13) (Ni := some 29) (Nj := some 8) #[true, true, true, true, true, true, true, true, true, true, false, false, false, false, false, false] #[true, true, true, true, true, true, true, true, true, false, false, false, false, true, false, false] rfl rfl rfl rfl (two_of HT_.out zk) (by decide) (by decide) (fun K hK => ?_) (fun K hK => ?_)
    ·refine goes_ Tryd.func62 zk rfl #[.agg #[.slice (some ad0) h.length c0, .slice A1 s.length c1, .slice A2 p.length c2, .int .i64 b0, .int .i64 b1], .bool true] (by rfl) rfl rfl dQ1 ?_
     (with_reducible refine (HAS.out v2 BL2.out).mono ?_)
     rintro e v3 ⟨A3, c3, rfl, hF, hb⟩
     refine ⟨_, rfl, ?_⟩
     have BL3 := zh (BL2.out.trans (hb.mono BL2.out.size))
     have hs2_ := BL2.out.size
     have HF3 := zh (Kd.F_bound hF)
     clear hF hb
     refine hK.out _ _ (cells5 (blk_below B0.out BL3.out)) (fun hHeld => ?_)
     clear hK K
     refine zr 29 _ ?_
     refine zu 10 ?_
     refine zu 11 ?_
     refine zu 12 ?_
     refine zo 13 (fun K hK => ?_)
     refine value_ (v := .pointer (some ⟨v3.heap.size, 0, none⟩)) (w1 := v3.alloc (.cells #[.slice none 0 0, .slice none 0 0, .slice none 0 0, .int .i64 0, .int .i64 0, .slice none 0 0, .bool false, .bool false, .bool false, .bool false, .bool false, .bool false, .bool false, .bool false, .int .i64 0, .int .i64 0] 77)) (by rfl) rfl ?hr3 ?_
     (case hr3 => first | (go_simp; done) | (go_simp; rfl))
     generalize hv_ : v3.alloc (.cells #[.slice none 0 0, .slice none 0 0, .slice none 0 0, .int .i64 0, .int .i64 0, .slice none 0 0, .bool false, .bool false, .bool false, .bool false, .bool false, .bool false, .bool false, .bool false, .int .i64 0, .int .i64 0] 77) = v4
     have BL4 := zh (al_below hv_ BL3.out)
     have G13_4 := zh (al_at hv_)
     have hs3 := BL3.out.size
     have HF4 := zh (al_F hv_ HF3.out)
     clear hv_
     refine hK.out _ _ (cells5 (blk_below B0.out BL4.out)) (fun hHeld => ?_)
     clear hK K
     refine zr 8 _ ?_
     refine zp 14 (fun K hK => ?_)
     obtain ⟨c0_, c1_, c2_, c3_, c4_, c5_, c6_, c7_, c8_, c9_, c10_, c11_, c12_, c13_, c14_, c15_⟩ := cells16 G13_4.out
     obtain ⟨d0_, d1_, d2_, d3_, d4_, d5_, d6_, d7_, d8_, d9_, d10_, d11_, d12_, d13_, d14_, d15_⟩ := froz16 G13_4.out
     refine skip_ (w1 := stS v4 v3.heap.size (some ad0) h.length c0 A1 s.length c1 A2 p.length c2 b0 b1 A3 (jsOf h s p b0 b1).length c3) (by rfl) rfl ?hs4_ ?_
     (case hs4_ => unfold stS st16; first | (go_simp; done) | (go_simp; rfl))
     clear c0_ d0_ c1_ d1_ c2_ d2_ c3_ d3_ c4_ d4_ c5_ d5_ c6_ d6_ c7_ d7_ c8_ d8_ c9_ d9_ c10_ d10_ c11_ d11_ c12_ d12_ c13_ d13_ c14_ d14_ c15_ d15_
     have hs4 := BL4.out.size
     generalize hv_ : stS v4 v3.heap.size (some ad0) h.length c0 A1 s.length c1 A2 p.length c2 b0 b1 A3 (jsOf h s p b0 b1).length c3 = v5
     have BL5 := zh (st_below hv_ BL4.out (by show v0.heap.size ≤ v3.heap.size; omega))
     have G13_5 := zh (st_set hv_ G13_4.out)
     have HF5 := zh (st_F hv_ HF4.out (fun k_ hk_ => by show k_ ≠ v3.heap.size; have h1_ := hk_.1; have h2_ := hk_.2; omega))
     clear hv_
     refine hK.out _ _ (cells5 (blk_below B0.out BL5.out)) (fun hHeld => ?_)
     clear hK K
     refine zu 15 ?_
     refine zd ?_
     go_wp2_with (fail)
     go_meet
     case rel => exact ⟨_, A3, c3, rfl, rfl, G13_5, ⟨Kd.F_mono HF5.out (fun _ _ => trivial)⟩, ⟨blk_below Z0.out BL5.out⟩, ⟨HBD.out.trans (BL5.out.mono HBD.out.size)⟩⟩
    ·refine value_ (v := .pointer (some ⟨v2.heap.size, 0, none⟩)) (w1 := v2.alloc (.cells #[.slice none 0 0, .slice none 0 0, .slice none 0 0, .int .i64 0, .int .i64 0, .slice none 0 0, .bool false, .bool false, .bool false, .bool false, .bool false, .bool false, .bool false, .bool false, .int .i64 0, .int .i64 0] 77)) (by rfl) rfl ?hr2 ?_
     (case hr2 => first | (go_simp; done) | (go_simp; rfl))
     generalize hv_ : v2.alloc (.cells #[.slice none 0 0, .slice none 0 0, .slice none 0 0, .int .i64 0, .int .i64 0, .slice none 0 0, .bool false, .bool false, .bool false, .bool false, .bool false, .bool false, .bool false, .bool false, .int .i64 0, .int .i64 0] 77) = v3
     have BL3 := zh (al_below hv_ BL2.out)
     have G13_3 := zh (al_at hv_)
     have hs2 := BL2.out.size
     clear hv_
     refine hK.out _ _ (cells5 (blk_below B0.out BL3.out)) (fun hHeld => ?_)
     clear hK K
     refine zr 8 _ ?_
     refine zo 9 (fun K hK => ?_)
     refine goes_ Tryd.func62 zk rfl #[.agg #[.slice (some ad0) h.length c0, .slice A1 s.length c1, .slice A2 p.length c2, .int .i64 b0, .int .i64 b1], .bool true] (by rfl) rfl rfl dQ1 ?_
     (with_reducible refine (HAS.out v3 BL3.out).mono ?_)
     rintro e v4 ⟨A3, c3, rfl, hF, hb⟩
     refine ⟨_, rfl, ?_⟩
     have BL4 := zh (BL3.out.trans (hb.mono BL3.out.size))
     have G13_4 := zh (blk_below G13_3.out hb)
     have hs3_ := BL3.out.size
     have hga := blk_lt G13_3.out
     have HF4 := zh (Kd.F_bound hF)
     clear hF hb
     refine hK.out _ _ (cells5 (blk_below B0.out BL4.out)) (fun hHeld => ?_)
     clear hK K
     refine zr 29 _ ?_
     refine zu 10 ?_
     refine zu 11 ?_
     refine zu 12 ?_
     refine zp 14 (fun K hK => ?_)
     obtain ⟨c0_, c1_, c2_, c3_, c4_, c5_, c6_, c7_, c8_, c9_, c10_, c11_, c12_, c13_, c14_, c15_⟩ := cells16 G13_4.out
     obtain ⟨d0_, d1_, d2_, d3_, d4_, d5_, d6_, d7_, d8_, d9_, d10_, d11_, d12_, d13_, d14_, d15_⟩ := froz16 G13_4.out
     refine skip_ (w1 := stS v4 v2.heap.size (some ad0) h.length c0 A1 s.length c1 A2 p.length c2 b0 b1 A3 (jsOf h s p b0 b1).length c3) (by rfl) rfl ?hs4_ ?_
     (case hs4_ => unfold stS st16; first | (go_simp; done) | (go_simp; rfl))
     clear c0_ d0_ c1_ d1_ c2_ d2_ c3_ d3_ c4_ d4_ c5_ d5_ c6_ d6_ c7_ d7_ c8_ d8_ c9_ d9_ c10_ d10_ c11_ d11_ c12_ d12_ c13_ d13_ c14_ d14_ c15_ d15_
     have hs4 := BL4.out.size
     generalize hv_ : stS v4 v2.heap.size (some ad0) h.length c0 A1 s.length c1 A2 p.length c2 b0 b1 A3 (jsOf h s p b0 b1).length c3 = v5
     have BL5 := zh (st_below hv_ BL4.out dQ5)
     have G13_5 := zh (st_set hv_ G13_4.out)
     have HF5 := zh (st_F hv_ HF4.out (fun k_ hk_ => by show k_ ≠ v2.heap.size; have h1_ := hk_.1; have h2_ := hk_.2; omega))
     clear hv_
     refine hK.out _ _ (cells5 (blk_below B0.out BL5.out)) (fun hHeld => ?_)
     clear hK K
     refine zu 15 ?_
     refine zd ?_
     go_wp2_with (fail)
     go_meet
     case rel => exact ⟨_, A3, c3, rfl, rfl, G13_5, ⟨Kd.F_mono HF5.out (fun _ _ => trivial)⟩, ⟨blk_below Z0.out BL5.out⟩, ⟨HBD.out.trans (BL5.out.mono HBD.out.size)⟩⟩
   ·refine value_ (v := .pointer (some ⟨v1.heap.size, 0, none⟩)) (w1 := v1.alloc (.cells #[.slice none 0 0, .slice none 0 0, .slice none 0 0, .int .i64 0, .int .i64 0, .slice none 0 0, .bool false, .bool false, .bool false, .bool false, .bool false, .bool false, .bool false, .bool false, .int .i64 0, .int .i64 0] 77)) (by rfl) rfl ?hr1 ?_
    (case hr1 => first | (go_simp; done) | (go_simp; rfl))
    generalize hv_ : v1.alloc (.cells #[.slice none 0 0, .slice none 0 0, .slice none 0 0, .int .i64 0, .int .i64 0, .slice none 0 0, .bool false, .bool false, .bool false, .bool false, .bool false, .bool false, .bool false, .bool false, .int .i64 0, .int .i64 0] 77) = v2
    have BL2 := zh (al_below hv_ BL1.out)
    have G13_2 := zh (al_at hv_)
    have hs1 := BL1.out.size
    clear hv_
    refine hK.out _ _ (cells5 (blk_below B0.out BL2.out)) (fun hHeld => ?_)
    clear hK K
    refine zr 8 _ ?_
    refine zo 7 (fun K hK => ?_)
    refine goes_ Tryd.func65 zk rfl #[.agg #[.slice (some ad0) h.length c0, .slice A1 s.length c1, .slice A2 p.length c2, .int .i64 b0, .int .i64 b1], .int .i64 (k2 : Int)] (by rfl) rfl rfl dQ1 ?_
    (with_reducible refine (HIK7.out v2 BL2.out).mono ?_)
    rintro e v3 ⟨rfl, hb⟩
    refine ⟨_, rfl, ?_⟩
    have BL3 := zh (BL2.out.trans (hb.mono BL2.out.size))
    have G13_3 := zh (blk_below G13_2.out hb)
    clear hb
    refine hK.out _ _ (cells5 (blk_below B0.out BL3.out)) (fun hHeld => ?_)
    clear hK K
    refine zr 27 _ ?_
    refine zu 8 ?_
    refine zo 9 (fun K hK => ?_)
    refine goes_ Tryd.func62 zk rfl #[.agg #[.slice (some ad0) h.length c0, .slice A1 s.length c1, .slice A2 p.length c2, .int .i64 b0, .int .i64 b1], .bool true] (by rfl) rfl rfl dQ1 ?_
    (with_reducible refine (HAS.out v3 BL3.out).mono ?_)
    rintro e v4 ⟨A3, c3, rfl, hF, hb⟩
    refine ⟨_, rfl, ?_⟩
    have BL4 := zh (BL3.out.trans (hb.mono BL3.out.size))
    have G13_4 := zh (blk_below G13_3.out hb)
    have hs3_ := BL3.out.size
    have hga := blk_lt G13_3.out
    have HF4 := zh (Kd.F_bound hF)
    clear hF hb
    refine hK.out _ _ (cells5 (blk_below B0.out BL4.out)) (fun hHeld => ?_)
    clear hK K
    refine zr 29 _ ?_
    refine zu 10 ?_
    refine zu 11 ?_
    refine zu 12 ?_
    refine zp 14 (fun K hK => ?_)
    obtain ⟨c0_, c1_, c2_, c3_, c4_, c5_, c6_, c7_, c8_, c9_, c10_, c11_, c12_, c13_, c14_, c15_⟩ := cells16 G13_4.out
    obtain ⟨d0_, d1_, d2_, d3_, d4_, d5_, d6_, d7_, d8_, d9_, d10_, d11_, d12_, d13_, d14_, d15_⟩ := froz16 G13_4.out
    refine skip_ (w1 := stS v4 v1.heap.size (some ad0) h.length c0 A1 s.length c1 A2 p.length c2 b0 b1 A3 (jsOf h s p b0 b1).length c3) (by rfl) rfl ?hs4_ ?_
    (case hs4_ => unfold stS st16; first | (go_simp; done) | (go_simp; rfl))
    clear c0_ d0_ c1_ d1_ c2_ d2_ c3_ d3_ c4_ d4_ c5_ d5_ c6_ d6_ c7_ d7_ c8_ d8_ c9_ d9_ c10_ d10_ c11_ d11_ c12_ d12_ c13_ d13_ c14_ d14_ c15_ d15_
    have hs4 := BL4.out.size
    generalize hv_ : stS v4 v1.heap.size (some ad0) h.length c0 A1 s.length c1 A2 p.length c2 b0 b1 A3 (jsOf h s p b0 b1).length c3 = v5
    have BL5 := zh (st_below hv_ BL4.out dQ3)
    have G13_5 := zh (st_set hv_ G13_4.out)
    have HF5 := zh (st_F hv_ HF4.out (fun k_ hk_ => by show k_ ≠ v1.heap.size; have h1_ := hk_.1; have h2_ := hk_.2; omega))
    clear hv_
    refine hK.out _ _ (cells5 (blk_below B0.out BL5.out)) (fun hHeld => ?_)
    clear hK K
    refine zu 15 ?_
    refine zd ?_
    go_wp2_with (fail)
    go_meet
    case rel => exact ⟨_, A3, c3, rfl, rfl, G13_5, ⟨Kd.F_mono HF5.out (fun _ _ => trivial)⟩, ⟨blk_below Z0.out BL5.out⟩, ⟨HBD.out.trans (BL5.out.mono HBD.out.size)⟩⟩
  ·refine value_ (v := .pointer (some ⟨v0.heap.size, 0, none⟩)) (w1 := v0.alloc (.cells #[.slice none 0 0, .slice none 0 0, .slice none 0 0, .int .i64 0, .int .i64 0, .slice none 0 0, .bool false, .bool false, .bool false, .bool false, .bool false, .bool false, .bool false, .bool false, .int .i64 0, .int .i64 0] 77)) (by rfl) rfl ?hr0 ?_
   (case hr0 => first | (go_simp; done) | (go_simp; rfl))
   generalize hv_ : v0.alloc (.cells #[.slice none 0 0, .slice none 0 0, .slice none 0 0, .int .i64 0, .int .i64 0, .slice none 0 0, .bool false, .bool false, .bool false, .bool false, .bool false, .bool false, .bool false, .bool false, .int .i64 0, .int .i64 0] 77) = v1
   have BL1 := zh (al_below hv_ BL0.out)
   have G13_1 := zh (al_at hv_)
   have hs0 := BL0.out.size
   clear hv_
   refine hK.out _ _ (cells5 (blk_below B0.out BL1.out)) (fun hHeld => ?_)
   clear hK K
   refine zr 8 _ ?_
   refine zo 3 (fun K hK => ?_)
   refine goes_ Tryd.func65 zk rfl #[.agg #[.slice (some ad0) h.length c0, .slice A1 s.length c1, .slice A2 p.length c2, .int .i64 b0, .int .i64 b1], .int .i64 (k1 : Int)] (by rfl) rfl rfl dQ1 ?_
   (with_reducible refine (HIK3.out v1 BL1.out).mono ?_)
   rintro e v2 ⟨rfl, hb⟩
   refine ⟨_, rfl, ?_⟩
   have BL2 := zh (BL1.out.trans (hb.mono BL1.out.size))
   have G13_2 := zh (blk_below G13_1.out hb)
   clear hb
   refine hK.out _ _ (cells5 (blk_below B0.out BL2.out)) (fun hHeld => ?_)
   clear hK K
   refine zr 23 _ ?_
   refine zu 4 ?_
   refine zu 6 ?_
   refine zt 5 ?_
   refine zo 7 (fun K hK => ?_)
   refine goes_ Tryd.func65 zk rfl #[.agg #[.slice (some ad0) h.length c0, .slice A1 s.length c1, .slice A2 p.length c2, .int .i64 b0, .int .i64 b1], .int .i64 (k2 : Int)] (by rfl) rfl rfl dQ1 ?_
   (with_reducible refine (HIK7.out v2 BL2.out).mono ?_)
   rintro e v3 ⟨rfl, hb⟩
   refine ⟨_, rfl, ?_⟩
   have BL3 := zh (BL2.out.trans (hb.mono BL2.out.size))
   have G13_3 := zh (blk_below G13_2.out hb)
   clear hb
   refine hK.out _ _ (cells5 (blk_below B0.out BL3.out)) (fun hHeld => ?_)
   clear hK K
   refine zr 27 _ ?_
   refine zu 8 ?_
   refine zo 9 (fun K hK => ?_)
   refine goes_ Tryd.func62 zk rfl #[.agg #[.slice (some ad0) h.length c0, .slice A1 s.length c1, .slice A2 p.length c2, .int .i64 b0, .int .i64 b1], .bool true] (by rfl) rfl rfl dQ1 ?_
   (with_reducible refine (HAS.out v3 BL3.out).mono ?_)
   rintro e v4 ⟨A3, c3, rfl, hF, hb⟩
   refine ⟨_, rfl, ?_⟩
   have BL4 := zh (BL3.out.trans (hb.mono BL3.out.size))
   have G13_4 := zh (blk_below G13_3.out hb)
   have hs3_ := BL3.out.size
   have hga := blk_lt G13_3.out
   have HF4 := zh (Kd.F_bound hF)
   clear hF hb
   refine hK.out _ _ (cells5 (blk_below B0.out BL4.out)) (fun hHeld => ?_)
   clear hK K
   refine zr 29 _ ?_
   refine zu 10 ?_
   refine zu 11 ?_
   refine zu 12 ?_
   refine zp 14 (fun K hK => ?_)
   obtain ⟨c0_, c1_, c2_, c3_, c4_, c5_, c6_, c7_, c8_, c9_, c10_, c11_, c12_, c13_, c14_, c15_⟩ := cells16 G13_4.out
   obtain ⟨d0_, d1_, d2_, d3_, d4_, d5_, d6_, d7_, d8_, d9_, d10_, d11_, d12_, d13_, d14_, d15_⟩ := froz16 G13_4.out
   refine skip_ (w1 := stS v4 v0.heap.size (some ad0) h.length c0 A1 s.length c1 A2 p.length c2 b0 b1 A3 (jsOf h s p b0 b1).length c3) (by rfl) rfl ?hs4_ ?_
   (case hs4_ => unfold stS st16; first | (go_simp; done) | (go_simp; rfl))
   clear c0_ d0_ c1_ d1_ c2_ d2_ c3_ d3_ c4_ d4_ c5_ d5_ c6_ d6_ c7_ d7_ c8_ d8_ c9_ d9_ c10_ d10_ c11_ d11_ c12_ d12_ c13_ d13_ c14_ d14_ c15_ d15_
   have hs4 := BL4.out.size
   generalize hv_ : stS v4 v0.heap.size (some ad0) h.length c0 A1 s.length c1 A2 p.length c2 b0 b1 A3 (jsOf h s p b0 b1).length c3 = v5
   have BL5 := zh (st_below hv_ BL4.out dQ4)
   have G13_5 := zh (st_set hv_ G13_4.out)
   have HF5 := zh (st_F hv_ HF4.out (fun k_ hk_ => by show k_ ≠ v0.heap.size; have h1_ := hk_.1; have h2_ := hk_.2; omega))
   clear hv_
   refine hK.out _ _ (cells5 (blk_below B0.out BL5.out)) (fun hHeld => ?_)
   clear hK K
   refine zu 15 ?_
   refine zd ?_
   go_wp2_with (fail)
   go_meet
   case rel => exact ⟨_, A3, c3, rfl, rfl, G13_5, ⟨Kd.F_mono HF5.out (fun _ _ => trivial)⟩, ⟨blk_below Z0.out BL5.out⟩, ⟨HBD.out.trans (BL5.out.mono HBD.out.size)⟩⟩
 case rest =>
  obtain ⟨g, A3, c3, rfl, rfl, GX, HF3, Zc, HBc⟩ := hcut
  have HC3 := zh (Kd.F_now HF3.out)
  obtain ⟨z0, z1⟩ := cells2 Zc.out
  obtain ⟨f0, f1⟩ := froz2 Zc.out
  go_wp2
  exact bodyPost_ret (results_ct rfl _ _ (w.heap.size + 1) 26 #[.int .i64 0, .int .i64 0] (0, 0) _ rfl (set2 Zc.out _ _) Tryd.underlying26 rfl zk) rfl ⟨rfl, (HBc.out.setCell dQ2 _).setCell dQ2 _⟩
end Go.Proofs.YtgehkojccmkggaaDoor.K
end
