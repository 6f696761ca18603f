/- Texts of this seat, joined (pruned by a program of this session to what the claim comes to). -/
import Derived.Deep.Slices
import Derived.LaidMore
import Derived.OpenShut
import Derived.ProofKit
import Derived.Stop.Joined
import Derived.WalkSpells
import Derived.Test.YtagkfkdoibnhfaaDoorRows
import Derived.Test.YtagkfkdoibnhfaaDoorZB1
import Derived.Test.YtagkfkdoibnhfaaDoorZB2
import Derived.Test.YtagkfkdoibnhfaaDoorZB3
section
namespace Go.Proofs.YtagkfkdoibnhfaaDoor.K
open Go.RowKit Go.Shelf Go.Proofs.YtagkfkdoibnhfaaDoorW.PrintWords Go.Proofs.YtagkfkdoibnhfaaDoorW.PrintLast Go.Proofs.YtagkfkdoibnhfaaDoorW.PrintMore Go.Proofs.YtagkfkdoibnhfaaDoor.H
set_option linter.unusedVariables false
set_option linter.unusedSimpArgs false
attribute [local go_sem] Oper.semAt_some
theorem eqA84 (d : Nat) (w : World) (x0 y0 : Int) (x1 y1 : Int) : (Op.equalIn (d + 2) 84 (.agg #[.int .i64 x0, .int .i64 x1]) (.agg #[.int .i64 y0, .int .i64 y1])).run Tryd.prog w = .ok (x0 == y0 && (x1 == y1)) w := by
 obtain ⟨i, hi, _⟩ := info_parts info3
 have c_ : Tryd.prog.cellsOf 3 = 1 := by kernel_rfl
 have hu := Tryd.underlying3
 rw [run_equalIn_array w (d + 1) _ _ Tryd.underlying84 hi, c_, ← Bool.and_true (x1 == y1)]
 exact eqI_cons (a := .int .i64 x0) (b := .int .i64 y0) (by go_simp) (by go_simp) (by go_simp) (eqI_cons (a := .int .i64 x1) (b := .int .i64 y1) (by go_simp) (by go_simp) (by go_simp) eqI_nil)
attribute [local go_sem high] eqA84
def fillL : List Value → List Nat → List Value → List Value
 | l, i :: is, v :: vs => fillL (l.set i v) is vs
 | l, [], _ => l
 | l, _ :: _, [] => l
theorem fillL_self (l : List Value) : ∀ slots : List Nat, fillL l slots (slots.map fun i => l.getD i undef) = l
 | [] => rfl
 | i :: is => by
  have e : l.set i (l.getD i undef) = l := by
   by_cases h : i < l.length
   ·rw [List.getD_eq_getElem?_getD, List.getElem?_eq_getElem h]
    simp
   ·rw [List.set_eq_of_length_le (by omega)]
  show fillL (l.set i (l.getD i undef)) is (is.map fun i => l.getD i undef) = l
  rw [e]
  exact fillL_self l is
def LoopEnd (base : List Value) (slots : List Nat) (rel : List Value → List Deferred → World → Prop) (mu : Act → World → Nat) (b : Nat) (a' : Act) (w' : World) : Prop :=
 (∃ vs' ds', a' = { tmps := (fillL base slots vs').toArray, defers := ds' } ∧ rel vs' ds' w') ∧ mu a' w' < b
theorem LoopEnd.mk {base A : List Value} {slots : List Nat} {ds : List Deferred} {w' : World} {rel : List Value → List Deferred → World → Prop} {mu : Act → World → Nat} {b : Nat} (hA : fillL base slots (slots.map fun i => A.getD i undef) = A) (h : rel (slots.map fun i => A.getD i undef) ds w') (hm : mu { tmps := A.toArray, defers := ds } w' < b) :
  LoopEnd base slots rel mu b { tmps := A.toArray, defers := ds } w' := ⟨⟨_, ds, by rw [hA], h⟩, hm⟩
theorem wpIn_loopd {F : Fence} {n : Nat} {P : Program} {c : Code} {Q : Exit → Act → World → Prop} {base : List Value} {ds0 : List Deferred} {w0 : World} (slots : List Nat) (rel : List Value → List Deferred → World → Prop) (mu : Act → World → Nat)
  (h0 : rel (slots.map fun i => base.getD i undef) ds0 w0)
  (hr : ∀ vs ds w, rel vs ds w → c.wpIn F n P (Exit.then (LoopEnd base slots rel mu (mu { tmps := (fillL base slots vs).toArray, defers := ds } w)) Q) { tmps := (fillL base slots vs).toArray, defers := ds } w) :
  (Code.loop c).wpIn F n P Q { tmps := base.toArray, defers := ds0 } w0 := by
 refine wpIn_loop (fun a w => ∃ vs ds, a = { tmps := (fillL base slots vs).toArray, defers := ds } ∧ rel vs ds w) mu ⟨_, ds0, by rw [fillL_self], h0⟩ ?_
 rintro a w ⟨vs, ds, rfl, h⟩
 exact hr vs ds w h
theorem irange_nodup (lo hi : Int) : (irange lo hi).Nodup := by
 unfold irange
 exact List.pairwise_map.2 (List.nodup_range.imp (fun h e => h (by omega)))
theorem pairs_nodup (m : Int) : (pairsOf m).Nodup := by
 unfold pairsOf
 refine List.pairwise_flatMap.2 ⟨fun a _ => List.pairwise_map.2 ((irange_nodup _ _).imp (fun h e => h (by injection e))), (irange_nodup _ _).imp (fun h x hx y hy e => ?_)⟩
 obtain ⟨b, _, rfl⟩ := List.mem_map.1 hx
 obtain ⟨b', _, rfl⟩ := List.mem_map.1 hy
 exact h (by injection e)
theorem choices_nodup (T O : Int) (R : List S66) (hs : List S60) (p : Int) : (choices T O R hs p).Nodup := (pairs_nodup _).filter _
def wonTo (T O : Int) (R : List S66) (hs : List S60) (k : Nat) : List Int := (List.range k).flatMap fun i : Nat => match choices T O R hs (i : Int) with | [] => [0, 0] | p :: _ => [p.1, p.2]
theorem wonTo_succ (T O : Int) (R : List S66) (hs : List S60) (k : Nat) : wonTo T O R hs (k + 1) = wonTo T O R hs k ++ (match choices T O R hs (k : Int) with | [] => [0, 0] | p :: _ => [p.1, p.2]) := by
 unfold wonTo
 rw [List.range_succ, List.flatMap_append]
 simp
theorem wonTo_len (T O : Int) (R : List S66) (hs : List S60) : ∀ k, (wonTo T O R hs k).length = 2 * k
 | 0 => rfl
 | k + 1 => by
  rw [wonTo_succ, List.length_append, wonTo_len T O R hs k]
  split <;> rfl
theorem wonTo_all (T O L : Int) (R : List S66) (hs : List S60) (n : Nat) (h : L / 2 = (n : Int)) : wonTo T O R hs n = wonOf T O L R hs := by
 unfold wonTo wonOf irange
 rw [h, show ((n : Int) - 1 + 1 - 0).toNat = n from by omega, List.flatMap_map]
 simp
 rfl
theorem several_all (T O L : Int) (R : List S66) (hs : List S60) (n : Nat) (h : L / 2 = (n : Int)) : (irange 0 (L / 2 - 1)).any (severalAt T O R hs) = (List.range n).any fun i : Nat => severalAt T O R hs (i : Int) := by
 unfold irange
 rw [h, show ((n : Int) - 1 + 1 - 0).toNat = n from by omega, List.any_map]
 congr 1
 funext i
 simp
def headP (pre : List (Int × Int)) : Int × Int := match pre with | [] => (0, 0) | p :: _ => p
theorem KM.own {T : Int} {R : List S66} {m n : Nat} {X Y : World} (hM : Memo T R X m) (hk : KM T R m n X Y) {α : Type} {d : Kd α} {e base : Nat} {ok : Nat → Prop} {v : Value} {xs : List α} (h : d.R e X base ok v xs) : d.R e Y base ok v xs :=
 Kd.R_mono (Kd.R_move (Kd.R_bound h) (fun k hk_ => by
  obtain ⟨_, _, hl, q, _, cells, hc⟩ := hk_
  rw [hc]
  exact hk.cells hc (by rintro rfl; exact hM.no_cells hc))) (fun _ h => h.1)
theorem KR.own {T : Int} {R : List S66} {m : Nat} {S : Nat → Prop} {X Y : World} (hM : Memo T R X m) (hk : KR T R m S X Y) {α : Type} {d : Kd α} {e base : Nat} {ok : Nat → Prop} {v : Value} {xs : List α} (hS : ∀ i, ok i → i < X.heap.size → (∃ cells q, (q ∈ e :: d.E) ∧ X.heap[i]? = some (.cells cells q (0, 0))) → S i) (h : d.R e X base ok v xs) : d.R e Y base ok v xs :=
 Kd.R_mono (Kd.R_move (Kd.R_bound h) (fun k hk_ => by
  obtain ⟨h1, _, hl, q, hq, cells, hc⟩ := hk_
  exact hk.block k (hS k h1 hl ⟨cells, q, hq, hc⟩) hl (by rintro rfl; exact hM.no_cells hc))) (fun _ h => h.1)
theorem below_km {T : Int} {R : List S66} {m lo : Nat} {w X Y : World} (hb : Below w.heap.size w X) (hk : KM T R m lo X Y) (hm : w.heap.size ≤ m) (hlo : w.heap.size ≤ lo) : Below w.heap.size w Y :=
 ⟨hk.os.trans hb.os, hk.tape.trans hb.tape, hk.output.trans hb.output, Nat.le_trans hb.size hk.size, fun i hi => by
  have e := hb.block i hi
  obtain ⟨o, ho⟩ : ∃ o, w.heap[i]? = some o := ⟨_, Array.getElem?_eq_getElem hi⟩
  rw [ho] at e ⊢
  exact hk.block i o e (by omega) (.inl (by omega))⟩
set_option maxRecDepth 100000 in
set_option maxHeartbeats 4000000 in
theorem won_bad (T O L : Int) (A : Option Addr) (R : List S66) (c : Nat) (A1 : Option Addr) (c1 : Nat) (hs : List S60) (w : World) (hR : Kd.C k66 w A R.length R) (hc : R.length ≤ c) (hl : Kd.C k60 w A1 hs.length hs) (hG : Glob w) (he : askedErr T O L R hs true ≠ 0) :
  Calls Tryd.prog 26 #[.agg #[.int .i64 T, .int .i64 O, .int .i64 L, .slice A R.length c], .slice A1 hs.length c1] w (PartPost [] (askedErr T O L R hs true) w) := by
 have hu24 := Tryd.underlying24
 have hu92 := Tryd.underlying92
 have HB0 := zh (below_alloc (below_alloc (below_alloc (Below.refl w.heap.size w) (.cells #[.int .i64 T, .int .i64 O, .int .i64 L, .slice A R.length c] 24)) (.cells #[.slice none 0 0] 25)) (.cells #[.int .i64 0] 26))
 have HR := zh (Kd.C_below hR HB0.out)
 have HL := zh (Kd.C_below hl HB0.out)
 have HG := zh (hG.below HB0.out)
 have HE := zh he
 have Y1 := zh (blk_alloc (alloc_at (w.alloc (.cells #[.int .i64 T, .int .i64 O, .int .i64 L, .slice A R.length c] 24)) (.cells #[.slice none 0 0] 25) (w.heap.size + 1) (by simp)) (.cells #[.int .i64 0] 26))
 have Y2 := zh (alloc_at ((w.alloc (.cells #[.int .i64 T, .int .i64 O, .int .i64 L, .slice A R.length c] 24)).alloc (.cells #[.slice none 0 0] 25)) (.cells #[.int .i64 0] 26) (w.heap.size + 1 + 1) (by simp))
 have hx' : (askedErr T O L R hs true == 0) = false := beq_eq_false_iff_ne.2 he
 have hx'' : (askedErr T O L R hs true != 0) = true := bne_iff_ne.2 he
 clear hR hl hG he
 go_enter Tryd.func26, Tryd.ntmps26
 go_wp2_with (first | (go_at_call 68; (with_reducible refine (asked_always_calls T O L A R c A1 c1 hs _ HR.out hc HL.out HG.out).mono ?_); rintro e w1 hp; obtain ⟨rfl, hb1⟩ := hp.1 HE.out; have HB1 := zh (HB0.out.trans (hb1.mono (by simp <;> omega))); have Z1 := zh (blk_alloc ((hb1.block _ (by simp <;> omega)).trans Y1.out) (.cells #[.int .i64 0, .int .i64 0, .int .i64 0, .slice none 0 0, .map none, .slice none 0 0] 92)); have Z2 := zh (blk_alloc ((hb1.block _ (by simp <;> omega)).trans Y2.out) (.cells #[.int .i64 0, .int .i64 0, .int .i64 0, .slice none 0 0, .map none, .slice none 0 0] 92)); clear hp hb1; have y4 := blk_cell Z1.out 0; have y5 := blk_cell Z2.out 0; have x4 := blk_frozen Z1.out 0; have x5 := blk_frozen Z2.out 0))
 have F1 := zh (blk_far (blk_put (cs' := #[.slice none 0 0]) Z1.out 0 (.slice none 0 0) rfl) (p := ⟨w.heap.size + 1 + 1, 0, none⟩) (by show w.heap.size + 1 ≠ w.heap.size + 1 + 1; omega) (.int .i64 (askedErr T O L R hs true)))
 have F2 := zh (blk_put (cs' := #[.int .i64 (askedErr T O L R hs true)]) (blk_far Z2.out (p := ⟨w.heap.size + 1, 0, none⟩) (by show w.heap.size + 1 + 1 ≠ w.heap.size + 1; omega) (.slice none 0 0)) 0 (.int .i64 (askedErr T O L R hs true)) rfl)
 have HBf := zh (below_set (g := w.heap.size + 1 + 1) (j := 0) (v := .int .i64 (askedErr T O L R hs true)) (below_set (g := w.heap.size + 1) (j := 0) (v := .slice none 0 0) (below_alloc HB1.out (.cells #[.int .i64 0, .int .i64 0, .int .i64 0, .slice none 0 0, .map none, .slice none 0 0] 92)) (by omega)) (by omega))
 obtain ⟨wf, hwf⟩ : ∃ wf, ((w1.alloc (.cells #[.int .i64 0, .int .i64 0, .int .i64 0, .slice none 0 0, .map none, .slice none 0 0] 92)).setCell ⟨w.heap.size + 1, 0, none⟩ (.slice none 0 0)).setCell ⟨w.heap.size + 1 + 1, 0, none⟩ (.int .i64 (askedErr T O L R hs true)) = wf := ⟨_, rfl⟩
 simp only [hwf] at F1 F2 HBf ⊢
 clear hwf y4 y5 x4 x5
 have q1 : wf.cell? ⟨w.heap.size + 1, 0, none⟩ = some (.slice none 0 0) := vb F1 0
 have q2 : wf.cell? ⟨w.heap.size + 1 + 1, 0, none⟩ = some (.int .i64 (askedErr T O L R hs true)) := vb F2 0
 refine bodyPost_ret (v := .tuple #[.slice none 0 0, .int .i64 (askedErr T O L R hs true)]) (by simp [results, Tryd.results26, go_sem, q1, q2]) rfl ?_
 exact ⟨_, rfl, Kd.V_nil _ _ _ _ _, HBf.out⟩
def wonL (T O L : Int) (R : List S66) (hs : List S60) : List Int := if (irange 0 (L / 2 - 1)).any (severalAt T O R hs) = true then [] else wonOf T O L R hs
def wonE (T O L : Int) (R : List S66) (hs : List S60) : Int := if (irange 0 (L / 2 - 1)).any (severalAt T O R hs) = true then 63 else 0
set_option maxRecDepth 100000 in
set_option maxHeartbeats 8000000 in
theorem won_ok (T O L : Int) (A : Option Addr) (R : List S66) (c : Nat) (A1 : Option Addr) (c1 : Nat) (hs : List S60) (w : World) (hR : Kd.C k66 w A R.length R) (hc : R.length ≤ c) (hl : Kd.C k60 w A1 hs.length hs) (hG : Glob w) (he : askedErr T O L R hs true = 0) :
  Calls Tryd.prog 26 #[.agg #[.int .i64 T, .int .i64 O, .int .i64 L, .slice A R.length c], .slice A1 hs.length c1] w (PartPost (wonL T O L R hs) (wonE T O L R hs) w) := by
 have hu24 := Tryd.underlying24
 have hu78 := Tryd.underlying78
 have hu84 := Tryd.underlying84
 have hu92 := Tryd.underlying92
 have HB0 := zh (below_alloc (below_alloc (below_alloc (Below.refl w.heap.size w) (.cells #[.int .i64 T, .int .i64 O, .int .i64 L, .slice A R.length c] 24)) (.cells #[.slice none 0 0] 25)) (.cells #[.int .i64 0] 26))
 have HR := zh (Kd.C_below hR HB0.out)
 have HL := zh (Kd.C_below hl HB0.out)
 have HG := zh (hG.below HB0.out)
 have HL0 := zh hl
 have HR0 := zh hR
 have HG0 := zh hG
 have HE := zh he
 have Y1 := zh (blk_alloc (alloc_at (w.alloc (.cells #[.int .i64 T, .int .i64 O, .int .i64 L, .slice A R.length c] 24)) (.cells #[.slice none 0 0] 25) (w.heap.size + 1) (by simp)) (.cells #[.int .i64 0] 26))
 have Y2 := zh (alloc_at ((w.alloc (.cells #[.int .i64 T, .int .i64 O, .int .i64 L, .slice A R.length c] 24)).alloc (.cells #[.slice none 0 0] 25)) (.cells #[.int .i64 0] 26) (w.heap.size + 1 + 1) (by simp))
 obtain ⟨hOK, hOH⟩ : okScale T O L R = true ∧ okHeard L R hs = true := by
  unfold askedErr at he
  split at he
  ·split at he
   ·exact ⟨by assumption, by assumption⟩
   ·omega
  ·omega
 have HOH := zh hOH
 obtain ⟨t1, t2, t3, t4, t5, t6, _, _, t9, _⟩ := okScale_regs hOK
 have mr := mul_range t1 t2 t3 t4
 obtain ⟨N, hN⟩ : ∃ N : Nat, T * O = (N : Int) := Int.eq_ofNat_of_zero_le (by omega)
 have hN' : N ≤ 100 := by omega
 obtain ⟨n, hn⟩ : ∃ n : Nat, L / 2 = (n : Int) := Int.eq_ofNat_of_zero_le (by omega)
 have n8 : n ≤ 8 := by omega
 have n1 : 1 ≤ n := by omega
 have HSA := zh (several_all T O L R hs n hn)
 have HWA := zh (wonTo_all T O L R hs n hn)
 clear hR hl hG he hOK hOH t1 t2 t3 t4 t9
 refine (callsIn_wide (n := 9)).1 ?_
 refine callsIn_of_wp_marks Tryd.func26 rfl trivial ?_ rfl
 simp only [Tryd.ntmps26, List.size_toArray, List.length_cons, List.length_nil, Nat.reduceAdd, Nat.reduceSub, Array.replicate_succ, Array.replicate_zero, List.push_toArray, List.append_toArray, List.nil_append, List.cons_append]
 gi_wp2_with (refine ⟨trivial, ?_⟩; gi_at_call 68; refine (callsIn_wide.2 (asked_always_calls T O L A R c A1 c1 hs _ HR.out hc HL.out HG.out)).mono ?_; rintro e w1 hq; obtain ⟨_, _, _, _, m, rfl, hx⟩ := hq.2 HE.out; have X1 := zh (hx.elder HB0.out HR0.out HG0.out); have hw3 : w.heap.size + 3 ≤ w1.heap.size := (by have := hx.base.size; simpa using this); have Z1 := zh (blk_alloc ((hx.base.block _ (by simp)).trans Y1.out) (.cells #[.int .i64 T, .int .i64 O, .int .i64 L, .slice A R.length c, .map (some m), .slice A1 hs.length c1] 92)); have Z2 := zh (blk_alloc ((hx.base.block _ (by simp)).trans Y2.out) (.cells #[.int .i64 T, .int .i64 O, .int .i64 L, .slice A R.length c, .map (some m), .slice A1 hs.length c1] 92)); have B0 := zh (alloc_at w1 (.cells #[.int .i64 T, .int .i64 O, .int .i64 L, .slice A R.length c, .map (some m), .slice A1 hs.length c1] 92) w1.heap.size rfl); clear hq hx; have q2 : (w1.alloc (.cells #[.int .i64 T, .int .i64 O, .int .i64 L, .slice A R.length c, .map (some m), .slice A1 hs.length c1] 92)).cell? ⟨w1.heap.size, 2, none⟩ = some (.int .i64 L) := vb B0 2)
 rw [hn]
 have hmw1 := X1.out.memo.lt
 have hw1s := X1.out.base.size
 have X2 := zh (X1.out.below (below_alloc (Below.refl w1.heap.size w1) (.cells #[.int .i64 T, .int .i64 O, .int .i64 L, .slice A R.length c, .map (some m), .slice A1 hs.length c1] 92)))
 have hw2s : (w1.alloc (.cells #[.int .i64 T, .int .i64 O, .int .i64 L, .slice A R.length c, .map (some m), .slice A1 hs.length c1] 92)).heap.size = w1.heap.size + 1 := by simp
 obtain ⟨w2, hw2e⟩ : ∃ w2, w1.alloc (.cells #[.int .i64 T, .int .i64 O, .int .i64 L, .slice A R.length c, .map (some m), .slice A1 hs.length c1] 92) = w2 := ⟨_, rfl⟩
 simp only [hw2e] at Z1 Z2 B0 X2 hw2s ⊢
 clear hw2e q2
 have hb1m : w.heap.size + 1 ≠ m := by rintro e; exact X2.out.memo.no_cells (e ▸ Z1.out)
 have hb2m : w.heap.size + 1 + 1 ≠ m := by rintro e; exact X2.out.memo.no_cells (e ▸ Z2.out)
 have hb1l := blk_lt Z1.out
 have hb2l := blk_lt Z2.out
 have hw1m : w1.heap.size ≠ m := by omega
 have hmlo : m < w2.heap.size := by omega
 refine wpIn_loopd [8, 9, 10, 11, 27, 28, 29, 30, 31, 32, 41, 42, 43, 44, 45, 46, 47, 48] (fun vs ds wr => ∃ (k : Nat) (kz : Int) (u8 u9 u10 u11 u28 u29 u30 u31 u32 u41 u42 u43 u44 u45 u46 u47 u48 : Value), vs = [u8, u9, u10, u11, .int .i64 kz, u28, u29, u30, u31, u32, u41, u42, u43, u44, u45, u46, u47, u48] ∧ kz = (k : Int) ∧ k ≤ n ∧ Aside0 (Kd.R (Kd.int .i64) 3 wr w.heap.size (fun k_ => w.heap.size ≤ k_) u8 (wonTo T O R hs k)) ∧ Aside0 (∀ i : Nat, i < k → severalAt T O R hs (i : Int) = false) ∧ Aside0 (Marks w2.heap.size ds wr) ∧ Aside0 (Ctx w wr T A R m) ∧ Aside0 (wr.heap[w1.heap.size]? = some (.cells #[.int .i64 T, .int .i64 O, .int .i64 L, .slice A R.length c, .map (some m), .slice A1 hs.length c1] 92 (0, 0))) ∧ Aside0 (Boxed wr (w.heap.size + 1) 25 (.slice none 0 0)) ∧ Aside0 (Boxed wr (w.heap.size + 1 + 1) 26 (.int .i64 0)) ∧ w2.heap.size ≤ wr.heap.size) (fun a' _ => n - (intOf (a'.tmps.getD 27 undef)).toNat) ?atStart ?round
 case atStart => exact ⟨0, 0, _, _, _, _, _, _, _, _, _, _, _, _, _, _, _, _, _, rfl, rfl, Nat.zero_le _, ⟨Kd.R_nil _ _ _ _ _⟩, ⟨fun i hi => absurd hi (by omega)⟩, ⟨trivial⟩, X2, B0, Z1, Z2, Nat.le_refl _⟩
 case round =>
  rintro vs ds wr ⟨k, _, u8, u9, u10, u11, u28, u29, u30, u31, u32, u41, u42, u43, u44, u45, u46, u47, u48, rfl, rfl, hk, HO, HSV, HM, XC, Br, Z1r, Z2r, hwr⟩
  simp only [fillL, List.set_cons_zero, List.set_cons_succ]
  obtain ⟨wo, hwo⟩ : ∃ wo, wo = wr := ⟨_, rfl⟩
  subst hwo
  by_cases hlt : k < n
  ·have hlt' : (k : Int) < (n : Int) := by omega
   have hwol := HM.out
   clear hwol
   have z0 := cell_a2 ((blk_cell Br.out 0).trans (show _ = some (Value.int .i64 T) from rfl)) (.cells #[.int .i64 0, .int .i64 0] 84) (.cells #[.bool false] 4)
   have z1 := cell_a2 ((blk_cell Br.out 1).trans (show _ = some (Value.int .i64 O) from rfl)) (.cells #[.int .i64 0, .int .i64 0] 84) (.cells #[.bool false] 4)
   have z2 := cell_a2 ((blk_cell Br.out 2).trans (show _ = some (Value.int .i64 L) from rfl)) (.cells #[.int .i64 0, .int .i64 0] 84) (.cells #[.bool false] 4)
   have z3 := cell_a2 ((blk_cell Br.out 3).trans (show _ = some (Value.slice A R.length c) from rfl)) (.cells #[.int .i64 0, .int .i64 0] 84) (.cells #[.bool false] 4)
   have z4 := cell_a2 ((blk_cell Br.out 4).trans (show _ = some (Value.map (some m)) from rfl)) (.cells #[.int .i64 0, .int .i64 0] 84) (.cells #[.bool false] 4)
   have z5 := cell_a2 ((blk_cell Br.out 5).trans (show _ = some (Value.slice A1 hs.length c1) from rfl)) (.cells #[.int .i64 0, .int .i64 0] 84) (.cells #[.bool false] 4)
   gi_wp2_with (refine ⟨trivial, ?_⟩; gi_at_call 64; refine (callsIn_any _ (fits_calls T O L A R.length c m A1 hs.length c1 (k : Int) _)).mono ?_; rintro e w' ⟨rfl, rfl⟩)
   clear z0 z1 z2 z3 z4 z5
   have KA := zh (((((KB.refl T R m wo).trans (KB.alloc T R m wo (.cells #[.int .i64 0, .int .i64 0] 84))).trans (KB.alloc T R m (wo.alloc (.cells #[.int .i64 0, .int .i64 0] 84)) (.cells #[.bool false] 4))).trans (KB.alloc T R m ((wo.alloc (.cells #[.int .i64 0, .int .i64 0] 84)).alloc (.cells #[.bool false] 4)) (.cells #[.int .i64 T, .int .i64 O, .int .i64 L, .slice A R.length c, .map (some m), .slice A1 hs.length c1] 92))).trans (KB.alloc T R m (((wo.alloc (.cells #[.int .i64 0, .int .i64 0] 84)).alloc (.cells #[.bool false] 4)).alloc (.cells #[.int .i64 T, .int .i64 O, .int .i64 L, .slice A R.length c, .map (some m), .slice A1 hs.length c1] 92)) (.cells #[.int .i64 (k : Int)] 3)))
   have G0 := zh (blk_alloc (blk_alloc (blk_alloc (alloc_at wo (.cells #[.int .i64 0, .int .i64 0] 84) (wo.heap.size) (by simp)) (.cells #[.bool false] 4)) (.cells #[.int .i64 T, .int .i64 O, .int .i64 L, .slice A R.length c, .map (some m), .slice A1 hs.length c1] 92)) (.cells #[.int .i64 (k : Int)] 3))
   have G1 := zh (blk_alloc (blk_alloc (alloc_at (wo.alloc (.cells #[.int .i64 0, .int .i64 0] 84)) (.cells #[.bool false] 4) (wo.heap.size + 1) (by simp)) (.cells #[.int .i64 T, .int .i64 O, .int .i64 L, .slice A R.length c, .map (some m), .slice A1 hs.length c1] 92)) (.cells #[.int .i64 (k : Int)] 3))
   have G2 := zh (blk_alloc (alloc_at ((wo.alloc (.cells #[.int .i64 0, .int .i64 0] 84)).alloc (.cells #[.bool false] 4)) (.cells #[.int .i64 T, .int .i64 O, .int .i64 L, .slice A R.length c, .map (some m), .slice A1 hs.length c1] 92) (wo.heap.size + 1 + 1) (by simp)) (.cells #[.int .i64 (k : Int)] 3))
   have G3 := zh (alloc_at (((wo.alloc (.cells #[.int .i64 0, .int .i64 0] 84)).alloc (.cells #[.bool false] 4)).alloc (.cells #[.int .i64 T, .int .i64 O, .int .i64 L, .slice A R.length c, .map (some m), .slice A1 hs.length c1] 92)) (.cells #[.int .i64 (k : Int)] 3) (wo.heap.size + 1 + 1 + 1) (by simp))
   have hsz : ((((wo.alloc (.cells #[.int .i64 0, .int .i64 0] 84)).alloc (.cells #[.bool false] 4)).alloc (.cells #[.int .i64 T, .int .i64 O, .int .i64 L, .slice A R.length c, .map (some m), .slice A1 hs.length c1] 92)).alloc (.cells #[.int .i64 (k : Int)] 3)).heap.size = wo.heap.size + 4 := by simp
   obtain ⟨W0, hW0⟩ : ∃ W0, ((((wo.alloc (.cells #[.int .i64 0, .int .i64 0] 84)).alloc (.cells #[.bool false] 4)).alloc (.cells #[.int .i64 T, .int .i64 O, .int .i64 L, .slice A R.length c, .map (some m), .slice A1 hs.length c1] 92)).alloc (.cells #[.int .i64 (k : Int)] 3)) = W0 := ⟨_, rfl⟩
   simp only [hW0] at KA G0 G1 G2 G3 hsz ⊢
   clear hW0
   have X0 := zh (KA.out.ctx XC.out)
   have B92x := zh (KA.out.at Br.out hw1m)
   have Z10 := zh (KA.out.box Z1r.out hb1m)
   have Z20 := zh (KA.out.box Z2r.out hb2m)
   refine wpIn_range (n := 9) (by omega) (gf := 85) (lb := #[.pointer (some ⟨wo.heap.size + 1 + 1, 0, none⟩), .pointer (some ⟨wo.heap.size + 1 + 1 + 1, 0, none⟩)]) rfl (enters_of Tryd.func85 zk rfl)
    (fits_seq T O L A R c m A1 c1 hs k N (wo.heap.size + 1 + 1) (wo.heap.size + 1 + 1 + 1) (fun i => i < W0.heap.size ∧ i ≠ wo.heap.size ∧ i ≠ wo.heap.size + 1 ∧ i ≠ w.heap.size + 1 ∧ i ≠ w.heap.size + 1 + 1) w W0 X0.out HL0.out HOH.out t5 t6 (by omega) G2.out G3.out ⟨by omega, by omega, by omega, by omega, by omega⟩ ⟨by omega, by omega, by omega, by omega, by omega⟩ (fun i hi => ⟨by omega, by omega, by omega, by omega, by omega⟩) (fun i hi => hi.1) hN hN') (fun i hi => hi.1) (by omega) (fun _ => rfl)
    (fun pre Wx => KR T R m (fun i => i < W0.heap.size ∧ i ≠ wo.heap.size ∧ i ≠ wo.heap.size + 1 ∧ i ≠ w.heap.size + 1 ∧ i ≠ w.heap.size + 1 + 1) W0 Wx ∧ pre.length ≤ 1 ∧ Wx.heap[wo.heap.size]? = some (.cells #[.int .i64 (headP pre).1, .int .i64 (headP pre).2] 84 (0, 0)) ∧ Boxed Wx (wo.heap.size + 1) 4 (.bool (!pre.isEmpty)) ∧ Boxed Wx (w.heap.size + 1) 25 (.slice none 0 0) ∧ Boxed Wx (w.heap.size + 1 + 1) 26 (.int .i64 0))
    (fun c pre Wx => c = .ret ∧ 2 ≤ pre.length ∧ KR T R m (fun i => i < W0.heap.size ∧ i ≠ wo.heap.size ∧ i ≠ wo.heap.size + 1 ∧ i ≠ w.heap.size + 1 ∧ i ≠ w.heap.size + 1 + 1) W0 Wx ∧ Boxed Wx (w.heap.size + 1) 25 (.slice none 0 0) ∧ Boxed Wx (w.heap.size + 1 + 1) 26 (.int .i64 63))
    (fun s X Y h hk => ⟨h.1.weak hk (fun i hi _ => hi.1), h.2.1, hk.cells h.2.2.1 (by omega), hk.box h.2.2.2.1 (by omega), hk.box h.2.2.2.2.1 hb1m, hk.box h.2.2.2.2.2 hb2m⟩)
    (fun c s X Y h hk => ⟨h.1, h.2.1, h.2.2.1.weak hk (fun i hi _ => hi.1), hk.box h.2.2.2.1 hb1m, hk.box h.2.2.2.2 hb2m⟩)
    ⟨KR.refl _ _ _ _ _, Nat.zero_le _, G0.out, G1.out, Z10.out, Z20.out⟩
    (AxBox m W0.heap.size (fun x => #[.int .i64 x.1, .int .i64 x.2]) 84 ?Fr)
    (fun x a' X Y h hk => h.keep hk)
    ?assign ?body ?done ?stop
   case assign =>
    rintro l2 pre x Wx K hI hK
    dsimp only [encP]
    gi_wp2
    refine hK _ _ ((KeepsOthers.alloc _ _).from _) ((KB.alloc T R m Wx _).round _) ⟨hI.1.step (KB.alloc T R m Wx _), hI.2.1, (KB.alloc T R m Wx _).at hI.2.2.1 (by omega), (KB.alloc T R m Wx _).box hI.2.2.2.1 (by omega), (KB.alloc T R m Wx _).box hI.2.2.2.2.1 hb1m, (KB.alloc T R m Wx _).box hI.2.2.2.2.2 hb2m⟩ ⟨Wx.heap.size, by have := hI.1.size; omega, heap_alloc_new Wx _, hI.1.size, ?_⟩
    generalize Wx.heap.size = gg
    rfl
   case body =>
    rintro l2 pre ⟨xa, xb⟩ a' Wx hl2 hok hpre ⟨hK1, hlen, h0, h1, hz1, hz2⟩ ⟨gp, hgm, hgp, hgl, rfl⟩
    dsimp only at hgp ⊢
    have HKx := zh hK1
    have HGx := zh hgp
    have H0x := zh h0
    have H1x := zh h1
    have HZ1 := zh hz1
    have HZ2 := zh hz2
    have hWxs := hK1.size
    have p0 : Wx.cell? ⟨gp, 0, none⟩ = some (.int .i64 xa) := (blk_cell hgp 0).trans rfl
    have p1 : Wx.cell? ⟨gp, 1, none⟩ = some (.int .i64 xb) := (blk_cell hgp 1).trans rfl
    cases pre with
    | nil =>
     have q0 : Wx.cell? ⟨wo.heap.size, 0, none⟩ = some (.int .i64 0) := (blk_cell h0 0).trans rfl
     have q1 : Wx.cell? ⟨wo.heap.size, 1, none⟩ = some (.int .i64 0) := (blk_cell h0 1).trans rfl
     have f0 := blk_frozen h0 0
     have f1 := blk_frozen h0 1
     have s0 : Wx.cell? ⟨wo.heap.size + 1, 0, none⟩ = some (.bool false) := (blk_cell h1 0).trans rfl
     have s1 := blk_frozen h1 0
     clear hK1 hgp h0 h1 hz1 hz2
     gi_wp2
     exact ⟨(((KeepsFrom.refl _ _).trans ((KeepsOthers.setCell _ _ _).from _)).trans ((KeepsOthers.setCell _ _ _).from _)).trans ((KeepsOthers.setCell _ _ _).from _), ((((KR.refl T R m _ Wx).set (.inl (by rintro (h | h); exact h.2.1 rfl; omega)) (by omega) 0 (.int .i64 xa)).set (.inl (by rintro (h | h); exact h.2.1 rfl; omega)) (by omega) 1 (.int .i64 xb)).set (.inl (by rintro (h | h); exact h.2.2.1 rfl; omega)) (by omega) 0 (.bool true)), (((HKx.out.set (.inl (fun h => h.2.1 rfl)) (by omega) 0 (.int .i64 xa)).set (.inl (fun h => h.2.1 rfl)) (by omega) 1 (.int .i64 xb)).set (.inl (fun h => h.2.2.1 rfl)) (by omega) 0 (.bool true)), by simp, (blk_far (blk_put (cs' := #[.int .i64 xa, .int .i64 xb]) (blk_put (cs' := #[.int .i64 xa, .int .i64 0]) H0x.out 0 (.int .i64 xa) rfl) 1 (.int .i64 xb) rfl) (p := ⟨wo.heap.size + 1, 0, none⟩) (by show _ ≠ wo.heap.size + 1; omega) (.bool true)), (Boxed.set (.bool true) (blk_far (blk_far H1x.out (p := ⟨wo.heap.size, 0, none⟩) dQ14 (.int .i64 xa)) (p := ⟨wo.heap.size, 1, none⟩) dQ14 (.int .i64 xb))), (blk_far (blk_far (blk_far HZ1.out (p := ⟨wo.heap.size, 0, none⟩) dQ14 (.int .i64 xa)) (p := ⟨wo.heap.size, 1, none⟩) dQ14 (.int .i64 xb)) (p := ⟨wo.heap.size + 1, 0, none⟩) (by show _ ≠ wo.heap.size + 1; omega) (.bool true)), (blk_far (blk_far (blk_far HZ2.out (p := ⟨wo.heap.size, 0, none⟩) dQ14 (.int .i64 xa)) (p := ⟨wo.heap.size, 1, none⟩) dQ14 (.int .i64 xb)) (p := ⟨wo.heap.size + 1, 0, none⟩) (by show _ ≠ wo.heap.size + 1; omega) (.bool true))⟩
    | cons q t =>
     obtain rfl : t = [] := by
      simp only [List.length_cons] at hlen
      exact List.length_eq_zero_iff.1 (by omega)
     obtain ⟨qa, qb⟩ := q
     have q0 : Wx.cell? ⟨wo.heap.size, 0, none⟩ = some (.int .i64 qa) := (blk_cell h0 0).trans rfl
     have q1 : Wx.cell? ⟨wo.heap.size, 1, none⟩ = some (.int .i64 qb) := (blk_cell h0 1).trans rfl
     have f0 := blk_frozen h0 0
     have f1 := blk_frozen h0 1
     have s0 : Wx.cell? ⟨wo.heap.size + 1, 0, none⟩ = some (.bool true) := (blk_cell h1 0).trans rfl
     have s1 := blk_frozen h1 0
     have r0 : Wx.cell? ⟨w.heap.size + 1, 0, none⟩ = some (.slice none 0 0) := (blk_cell hz1 0).trans rfl
     have r1 : Wx.cell? ⟨w.heap.size + 1 + 1, 0, none⟩ = some (.int .i64 0) := (blk_cell hz2 0).trans rfl
     have r2 := blk_frozen hz1 0
     have r3 := blk_frozen hz2 0
     have hne : ¬ (xa = qa ∧ xb = qb) := by
      rintro ⟨rfl, rfl⟩
      have h2 := (hpre.sublist.nodup (choices_nodup T O R hs (k : Int)))
      simp at h2
     have hneb : (xa == qa && (xb == qb)) = false := by
      rw [Bool.eq_false_iff]
      intro h_
      rw [Bool.and_eq_true, beq_iff_eq, beq_iff_eq] at h_
      exact hne h_
     clear hK1 hgp h0 h1 hz1 hz2
     gi_wp2
     exact ⟨((KeepsFrom.refl _ _).trans ((KeepsOthers.setCell _ _ _).from _)).trans ((KeepsOthers.setCell _ _ _).from _), (((KR.refl T R m _ Wx).set (.inl (by rintro (h | h); exact h.2.2.2.1 rfl; omega)) (by omega) 0 (.slice none 0 0)).set (.inl (by rintro (h | h); exact h.2.2.2.2 rfl; omega)) (by omega) 0 (.int .i64 63)), rfl, by simp, ((HKx.out.set (.inl (fun h => h.2.2.2.1 rfl)) (by omega) 0 (.slice none 0 0)).set (.inl (fun h => h.2.2.2.2 rfl)) (by omega) 0 (.int .i64 63)), (blk_far (Boxed.set (.slice none 0 0) HZ1.out) (p := ⟨w.heap.size + 1 + 1, 0, none⟩) (by show _ ≠ w.heap.size + 1 + 1; omega) (.int .i64 63)), (Boxed.set (.int .i64 63) (blk_far HZ2.out (p := ⟨w.heap.size + 1, 0, none⟩) (by show _ ≠ w.heap.size + 1; omega) (.slice none 0 0)))⟩
   case done =>
    rintro D Wx hD ⟨hK1, hlen, h0, h1, hz1, hz2⟩ hKd
    rename_i hk15
    have HD := zh hKd
    have HKx := zh hK1
    have HZ1 := zh hz1
    have HZ2 := zh hz2
    have XX := zh (hK1.ctx X0.out (fun i hi => ⟨by omega, by omega, by omega, by omega, by omega⟩))
    have HOx := zh (hK1.own X0.out.memo (fun i _ hi_ hq_ => by
     obtain ⟨cells, q, hq, hc⟩ := hq_
     have hne : ∀ (j : Nat) (cs : Array Value) (t : TypeId), W0.heap[j]? = some (.cells cs t (0, 0)) → t ≠ 3 → i ≠ j := by
      rintro j cs t hj ht rfl
      rw [hj] at hc
      cases hc
      simp [Kd.int, Kd.scalar] at hq
      exact ht hq
     exact ⟨hi_, hne _ _ _ G0.out (by decide), hne _ _ _ G1.out (by decide), hne _ _ _ Z10.out (by decide), hne _ _ _ Z20.out (by decide)⟩) (R_kept XC.out.memo KA.out.kp HO.out))
    have HSVk := zh (show severalAt T O R hs (k : Int) = false by have hns : ¬ 1 < (choices T O R hs (k : Int)).length := Nat.not_lt.2 hlen; unfold severalAt; exact decide_eq_false hns)
    have HWS := zh (show wonTo T O R hs (k + 1) = wonTo T O R hs k ++ [(headP (choices T O R hs (k : Int))).1, (headP (choices T O R hs (k : Int))).2] by rw [wonTo_succ]; cases choices T O R hs (k : Int) <;> rfl)
    have hwl := wonTo_len T O R hs k
    have H0x := zh h0
    have hmark : ∀ D', w2.heap.size ≤ D' → wo.heap[D']? = some (.deferred (some [])) → Wx.heap[D']? = some (.deferred (some [])) := fun D' h1 h2 => by
     have h3 := blk_lt h2
     exact HKx.out.at (KA.out.at h2 (by omega)) ⟨by omega, by omega, by omega, by omega, by omega⟩ (by omega)
    have hfresh : ∀ e ∈ ds, e ≠ ({ target := .collected D, args := #[] } : Deferred) := fun e he hed => by
     obtain ⟨D', rfl, h1, h2⟩ := HM.out.mem he
     have h3 := blk_lt h2
     injection hed with h4 _
     injection h4 with h5
     omega
    have HMx := zh (show Marks w2.heap.size ({ target := .collected D, args := #[] } :: ds) Wx from ⟨⟨D, rfl, by omega, HD.out, hfresh⟩, HM.out.keep (fun D' h1 h2 _ => hmark D' h1 h2)⟩)
    have Brx := zh (HKx.out.at B92x.out ⟨by omega, by omega, by omega, by omega, by omega⟩ hw1m)
    have hWxs := hK1.size
    clear hK1 hz1 hz2 hKd hlen hmark hfresh h1 h0
    generalize headP (choices T O R hs (k : Int)) = hp at H0x HWS
    obtain ⟨ha, hb⟩ := hp
    dsimp only at H0x HWS ⊢
    have q0 : Wx.cell? ⟨wo.heap.size, 0, none⟩ = some (.int .i64 ha) := vb H0x 0
    have q1 : Wx.cell? ⟨wo.heap.size, 1, none⟩ = some (.int .i64 hb) := vb H0x 1
    refine hk15 _ _ (wpIn_wide.2 ?_)
    go_wp2_with (first | ((with_reducible refine gate_builtin (b := .append) (xs := #[.tmp 41, .tmp 46]) rfl ?_); refine Kd.R_append_rows (Kd.int .i64) (w0 := w) w.heap.size rfl (.tmp 41) (.tmp 46) 25 3 (.int .i64 0) 8 rfl Tryd.underlying25 info3 rfl (by decide) (by omega) u8 (wonTo T O R hs k) [ha, hb] (some ⟨Wx.heap.size, 0, none⟩) 2 2 (fun k_ => w.heap.size ≤ k_) (fun _ => False) rfl rfl (Kd.R_alloc HOx.out _) (Kd.R_reads' (R_lit_new (w := Wx.alloc (.cells #[.int .i64 ha, .int .i64 hb] 3)) (base := 0) (g := Wx.heap.size) (xs := [ha, hb]) rfl (alloc_at Wx _ Wx.heap.size rfl) (Nat.zero_le _) (by simp [maxLen]) rfl)).2.2 (fun _ _ h => h) (fun _ h => h.elim) (fun k_ hk_ => Nat.le_trans (by have := XX.out.base.size; simp; omega) hk_) (below_alloc XX.out.base _) (by have := XX.out.base.size; simp; omega) (by omega) ?_; intro v6 w6 hO6 hB6 hg6 hat; have HO6 := zh hO6; have HB6 := zh hB6; have HG6 := zh hg6; clear hO6 hB6 hg6 hat))
    have h84 := blk_lt H0x.out
    have HA1 := Kd.R_ne HOx.out HZ1.out (by decide)
    have HA2 := Kd.R_ne HOx.out HZ2.out (by decide)
    have HA3 := Kd.R_ne HOx.out Brx.out (by decide)
    have HAm := fun e_ : some m = u8.ownBlock => ((R_nomap XX.out.memo HOx.out).1 m e_.symm).2 rfl
    have hmx := XX.out.memo.lt
    have hz1l := HZ1.out.lt
    have hz2l := HZ2.out.lt
    have hbrl := blk_lt Brx.out
    have hsz6 := HG6.out.size
    have HAL := zh (fun (i : Nat) (hi : i < Wx.heap.size) => Below.heap_alloc Wx (.cells #[.int .i64 ha, .int .i64 hb] 3) i hi)
    have hal : (Wx.alloc (.cells #[.int .i64 ha, .int .i64 hb] 3)).heap.size = Wx.heap.size + 1 := by simp
    gi_wp2
    refine LoopEnd.mk ?hA ?rel (by simp [intOf]; omega)
    case hA => kernel_rfl
    case rel =>
     exact ⟨k + 1, (k : Int) + 1, v6, _, _, _, _, _, _, _, _, _, _, _, _, _, _, _, _, rfl, by omega, by omega, ⟨by rw [HWS.out]; exact HO6.out⟩, ⟨fun i hi => by rcases Nat.lt_succ_iff_lt_or_eq.1 hi with h | rfl; exact HSV.out i h; exact HSVk.out⟩,
     ⟨HMx.out.keep (fun D' h1 h2 _ => (HG6.out.block D' (by have := blk_lt h2; omega) (R_not h2 rfl HOx.out)).trans ((HAL.out D' (blk_lt h2)).trans h2))⟩,
     ⟨{ XX.out with base := HB6.out, memo := (XX.out.memo.alloc _).move (HG6.out.block m (by omega) HAm) }⟩,
     ⟨(HG6.out.block _ (by omega) HA3).trans ((HAL.out _ hbrl).trans Brx.out)⟩, ⟨(HG6.out.block _ (by omega) HA1).trans ((HAL.out _ hz1l).trans HZ1.out)⟩, ⟨(HG6.out.block _ (by omega) HA2).trans ((HAL.out _ hz2l).trans HZ2.out)⟩, by omega⟩
   case stop =>
    rintro D c pre Wx hD hpre ⟨rfl, hlen, hK1, hz1, hz2⟩ hKd
    have HD := zh hKd
    have HKx := zh hK1
    have HZ1 := zh hz1
    have HZ2 := zh hz2
    have HSVk := zh (show severalAt T O R hs (k : Int) = true from decide_eq_true (Nat.lt_of_lt_of_le hlen hpre.length_le))
    have hmark : ∀ D', w2.heap.size ≤ D' → wo.heap[D']? = some (.deferred (some [])) → Wx.heap[D']? = some (.deferred (some [])) := fun D' h1 h2 => by
     have h3 := blk_lt h2
     exact HKx.out.at (KA.out.at h2 (by omega)) ⟨by omega, by omega, by omega, by omega, by omega⟩ (by omega)
    have hfresh : ∀ e ∈ ds, e ≠ ({ target := .collected D, args := #[] } : Deferred) := fun e he hed => by
     obtain ⟨D', rfl, h1, h2⟩ := HM.out.mem he
     have h3 := blk_lt h2
     injection hed with h4 _
     injection h4 with h5
     omega
    clear hK1 hz1 hz2 hKd hlen hpre
    gi_wp2
    refine leave_marks (T := T) (R := R) hmlo ({ target := .collected D, args := #[] } :: ds) _ ⟨⟨D, rfl, by omega, HD.out, hfresh⟩, HM.out.keep (fun D' h1 h2 _ => hmark D' h1 h2)⟩ (fun w' hkm => ?_)
    have q1 := (hkm.box HZ1.out hb1m).cell
    have q2 := (hkm.box HZ2.out hb2m).cell
    refine ⟨.tuple #[.slice none 0 0, .int .i64 63], by simp [results, Tryd.results26, go_sem, q1, q2], ?_⟩
    have hany : ((List.range n).any fun i : Nat => severalAt T O R hs (i : Int)) = true := List.any_eq_true.2 ⟨k, List.mem_range.2 hlt, HSVk.out⟩
    have e1 : wonL T O L R hs = [] := by unfold wonL; rw [HSA.out, if_pos hany]
    have e2 : wonE T O L R hs = 63 := by unfold wonE; rw [HSA.out, if_pos hany]
    rw [e1, e2]
    have hb := (((HKx.out.ctx X0.out (fun i hi => ⟨by omega, by omega, by omega, by omega, by omega⟩))).base)
    exact ⟨_, rfl, Kd.V_nil _ _ _ _ _, below_km hb hkm X1.out.hm (by omega)⟩
  ·obtain rfl : k = n := by omega
   have hlt' : ¬ (k : Int) < (k : Int) := by omega
   have hwl := wonTo_len T O R hs k
   have hany : ¬ ((List.range k).any fun i : Nat => severalAt T O R hs (i : Int)) = true := by
    intro h
    obtain ⟨i, hi, h2⟩ := List.any_eq_true.1 h
    rw [HSV.out i (List.mem_range.1 hi)] at h2
    cases h2
   have e1 : wonL T O L R hs = wonTo T O R hs k := by unfold wonL; rw [HSA.out, if_neg hany, HWA.out]
   have e2 : wonE T O L R hs = 0 := by unfold wonE; rw [HSA.out, if_neg hany]
   have E1 := zh e1
   have E2 := zh e2
   have hO := HO.out
   clear HO hany e1 e2
   generalize wonTo T O R hs k = l at hO hwl E1
   have hne' : 0 < l.length := by omega
   obtain ⟨gg, cap, rfl, hg1, hg2, cells, hg3⟩ := Kd.R_form hO hne'
   have HO2 := zh hO
   have hcp : ((l.length : Nat) : Int) ≤ (cap : Int) := by have := (Kd.R_reads' hO).2.1; omega
   have h00 : (0 : Int) ≤ (l.length : Int) := by omega
   have hle : (l.length : Int) ≤ (l.length : Int) := by omega
   have htn : ((l.length : Int)).toNat = l.length := by omega
   have y1 : wo.cell? ⟨w.heap.size + 1, 0, none⟩ = some (.slice none 0 0) := vb Z1r 0
   have y2 : wo.cell? ⟨w.heap.size + 1 + 1, 0, none⟩ = some (.int .i64 0) := vb Z2r 0
   have x1 := blk_frozen Z1r.out 0
   have x2 := blk_frozen Z2r.out 0
   clear hO hg3 hwl
   gi_wp2
   have F1 := zh (blk_far (Boxed.set (.slice (some ⟨gg, 0, none⟩) l.length l.length) Z1r.out) (p := ⟨w.heap.size + 1 + 1, 0, none⟩) (by show w.heap.size + 1 ≠ w.heap.size + 1 + 1; omega) (.int .i64 0))
   have F2 := zh (Boxed.set (.int .i64 0) (blk_far Z2r.out (p := ⟨w.heap.size + 1, 0, none⟩) (by show w.heap.size + 1 + 1 ≠ w.heap.size + 1; omega) (.slice (some ⟨gg, 0, none⟩) l.length l.length)))
   have HOz := zh (Kd.R_far (Kd.R_types (Kd.R_far (Kd.R_types HO2.out Z1r.out (by decide)) (p := ⟨w.heap.size + 1, 0, none⟩) (fun k_ h_ => h_.2) (.slice (some ⟨gg, 0, none⟩) l.length l.length)) (blk_far Z2r.out (p := ⟨w.heap.size + 1, 0, none⟩) (by show w.heap.size + 1 + 1 ≠ w.heap.size + 1; omega) (.slice (some ⟨gg, 0, none⟩) l.length l.length)) (by decide)) (p := ⟨w.heap.size + 1 + 1, 0, none⟩) (fun k_ h_ => h_.2) (.int .i64 0))
   have HBz := zh (below_set (g := w.heap.size + 1 + 1) (j := 0) (v := .int .i64 0) (below_set (g := w.heap.size + 1) (j := 0) (v := .slice (some ⟨gg, 0, none⟩) l.length l.length) XC.out.base (by omega)) (by omega))
   have HMz := zh (Memo.move_set (g := w.heap.size + 1 + 1) (j := 0) (v := .int .i64 0) (Memo.move_set (g := w.heap.size + 1) (j := 0) (v := .slice (some ⟨gg, 0, none⟩) l.length l.length) XC.out.memo (by omega)) (by omega))
   have HKz := zh (HM.out.keep (W' := (wo.setCell ⟨w.heap.size + 1, 0, none⟩ (.slice (some ⟨gg, 0, none⟩) l.length l.length)).setCell ⟨w.heap.size + 1 + 1, 0, none⟩ (.int .i64 0)) (fun D' h1 h2 _ => (Below.heap_setCell _ ⟨w.heap.size + 1 + 1, 0, none⟩ _ D' (by show D' ≠ w.heap.size + 1 + 1; omega)).trans ((Below.heap_setCell _ ⟨w.heap.size + 1, 0, none⟩ _ D' (by show D' ≠ w.heap.size + 1; omega)).trans h2)))
   generalize (wo.setCell ⟨w.heap.size + 1, 0, none⟩ (.slice (some ⟨gg, 0, none⟩) l.length l.length)).setCell ⟨w.heap.size + 1 + 1, 0, none⟩ (.int .i64 0) = Wz at F1 F2 HOz HBz HMz HKz ⊢
   clear y1 y2 x1 x2
   refine leave_marks (T := T) (R := R) hmlo ds _ HKz.out (fun w' hkm => ?_)
   have q1 := (hkm.box F1.out hb1m).cell
   have q2 := (hkm.box F2.out hb2m).cell
   refine ⟨.tuple #[.slice (some ⟨gg, 0, none⟩) l.length l.length, .int .i64 0], by simp [results, Tryd.results26, go_sem, q1, q2], ?_⟩
   rw [E1.out, E2.out]
   exact ⟨_, rfl, Kd.V_mk (Nat.le_refl _) (Kd.R_F (Kd.R_mono (hkm.own HMz.out HOz.out) (fun _ h => h.1.1))), below_km HBz.out hkm X1.out.hm (by omega)⟩
end Go.Proofs.YtagkfkdoibnhfaaDoor.K
end
section
namespace Go.Proofs.YtagkfkdoibnhfaaDoor.K
open Go.RowKit Go.Shelf Go.Proofs.YtagkfkdoibnhfaaDoorW.PrintWords Go.Proofs.YtagkfkdoibnhfaaDoorW.PrintLast Go.Proofs.YtagkfkdoibnhfaaDoorW.PrintMore Go.Proofs.YtagkfkdoibnhfaaDoor.H
set_option linter.unusedVariables false
set_option linter.unusedSimpArgs false
def sameAt (T : Int) (R : List S66) (r : Int) (pre : List (Int × Int)) (k : Nat) : Bool :=
 match pre with
 | [] => false
 | p :: rest => rest.all fun q => decide ((strokes T R r q.1 q.2).getD k 0 = (strokes T R r p.1 p.2).getD k 0)
theorem sameAt_snoc (T : Int) (R : List S66) (r : Int) (p : Int × Int) (t : List (Int × Int)) (x : Int × Int) (k : Nat) : sameAt T R r (p :: t ++ [x]) k = (sameAt T R r (p :: t) k && decide ((strokes T R r x.1 x.2).getD k 0 = (strokes T R r p.1 p.2).getD k 0)) := by
 show ((t ++ [x]).all _) = _
 rw [List.all_append]
 simp [sameAt]
theorem known_eq (T : Int) (R : List S66) (r : Int) (l : List (Int × Int)) (k : Nat) : (known T R r l k).getD (-2) = if sameAt T R r l k = true then (strokes T R r (headP l).1 (headP l).2).getD k 0 else -2 := by
 cases l with
 | nil => rfl
 | cons p t =>
  unfold known sameAt headP
  dsimp only
  split <;> simp_all
def sameRow (T : Int) (R : List S66) (r : Int) (pre : List (Int × Int)) (x : Int × Int) (W k : Nat) : List Bool := (List.range W).map fun j => if j < k then sameAt T R r (pre ++ [x]) j else sameAt T R r pre j
def sameAll (T : Int) (R : List S66) (r : Int) (pre : List (Int × Int)) (W : Nat) : List Bool := (List.range W).map fun j => sameAt T R r pre j
theorem sameRow_zero (T : Int) (R : List S66) (r : Int) (pre : List (Int × Int)) (x : Int × Int) (W : Nat) : sameRow T R r pre x W 0 = sameAll T R r pre W := by simp [sameRow, sameAll]
theorem sameRow_all (T : Int) (R : List S66) (r : Int) (pre : List (Int × Int)) (x : Int × Int) (W : Nat) : sameRow T R r pre x W W = sameAll T R r (pre ++ [x]) W := by
 unfold sameRow sameAll
 refine List.map_congr_left fun j hj => ?_
 rw [if_pos (List.mem_range.1 hj)]
theorem sameRow_get (T : Int) (R : List S66) (r : Int) (pre : List (Int × Int)) (x : Int × Int) (W k : Nat) (h : k < W) : (sameRow T R r pre x W k)[k]? = some (sameAt T R r pre k) := by
 unfold sameRow
 rw [List.getElem?_map, List.getElem?_range h]
 simp
theorem sameRow_set (T : Int) (R : List S66) (r : Int) (pre : List (Int × Int)) (x : Int × Int) (W k : Nat) (h : k < W) : (sameRow T R r pre x W k).set k (sameAt T R r (pre ++ [x]) k) = sameRow T R r pre x W (k + 1) := by
 refine List.ext_getElem (by simp [sameRow]) fun i h1 h2 => ?_
 simp only [sameRow, List.length_set, List.length_map, List.length_range] at h1
 rw [List.getElem_set]
 by_cases e : k = i
 ·subst e; simp [sameRow]
 ·rw [if_neg e]
  simp only [sameRow, List.getElem_map, List.getElem_range]
  by_cases h3 : i < k
  ·rw [if_pos h3, if_pos (by omega)]
  ·rw [if_neg h3, if_neg (by omega)]
def cellsB (l : List Bool) : Array Value := (l.map Value.bool).toArray
theorem cellsB_get {l : List Bool} {k : Nat} {b : Bool} (h : l[k]? = some b) : (cellsB l)[k]? = some (.bool b) := by simp [cellsB, h]
theorem cellsB_set (l : List Bool) (k : Nat) (b : Bool) : (cellsB l).setIfInBounds k (.bool b) = cellsB (l.set k b) := by
 unfold cellsB
 rw [List.setIfInBounds_toArray, List.map_set]
def fillV (T O : Int) (R : List S66) (hs : List S60) (h : S60) (at_ : Nat) : Int :=
 if h.f1.getD at_ 0 = -2 then (known T R h.f0 (choices T O R hs ((at_ / width (regAt R h.f0) : Nat) : Int)) (at_ % width (regAt R h.f0))).getD (-2) else h.f1.getD at_ 0
def fillTo (T O : Int) (R : List S66) (hs : List S60) (h : S60) (m : Nat) : List Int := (List.range h.f1.length).map fun at_ => if at_ < m then fillV T O R hs h at_ else h.f1.getD at_ 0
theorem fillTo_len (T O : Int) (R : List S66) (hs : List S60) (h : S60) (m : Nat) : (fillTo T O R hs h m).length = h.f1.length := by simp [fillTo]
theorem fillTo_zero (T O : Int) (R : List S66) (hs : List S60) (h : S60) : fillTo T O R hs h 0 = h.f1 := by
 refine List.ext_getElem (by simp [fillTo]) fun i h1 h2 => ?_
 simp only [fillTo, List.getElem_map, List.getElem_range]
 rw [if_neg (by omega), List.getD_eq_getElem?_getD, List.getElem?_eq_getElem h2]
 rfl
theorem fillTo_all (T O : Int) (R : List S66) (hs : List S60) (h : S60) : fillTo T O R hs h h.f1.length = fillOf T O R hs h := by
 unfold fillTo fillOf
 refine List.map_congr_left fun at_ hat => ?_
 rw [if_pos (List.mem_range.1 hat)]
 rfl
theorem fillTo_get (T O : Int) (R : List S66) (hs : List S60) (h : S60) (m : Nat) (hm : m < h.f1.length) : (fillTo T O R hs h m).getD m 0 = h.f1.getD m 0 := by
 rw [List.getD_eq_getElem?_getD]
 unfold fillTo
 rw [List.getElem?_map, List.getElem?_range hm]
 simp
theorem fillTo_set (T O : Int) (R : List S66) (hs : List S60) (h : S60) (m : Nat) (hm : m < h.f1.length) : (fillTo T O R hs h m).set m (fillV T O R hs h m) = fillTo T O R hs h (m + 1) := by
 refine List.ext_getElem (by simp [fillTo]) fun i h1 h2 => ?_
 simp only [fillTo, List.length_set, List.length_map, List.length_range] at h1
 rw [List.getElem_set]
 by_cases e : m = i
 ·subst e; simp [fillTo]
 ·rw [if_neg e]
  simp only [fillTo, List.getElem_map, List.getElem_range]
  by_cases h3 : i < m
  ·rw [if_pos h3, if_pos (by omega)]
  ·rw [if_neg h3, if_neg (by omega)]
theorem fillTo_same (T O : Int) (R : List S66) (hs : List S60) (h : S60) (m : Nat) (hm : m < h.f1.length) (he : fillV T O R hs h m = h.f1.getD m 0) : fillTo T O R hs h (m + 1) = fillTo T O R hs h m := by
 rw [← fillTo_set T O R hs h m hm, he, ← fillTo_get T O R hs h m hm]
 refine List.ext_getElem (by simp) fun i h1 h2 => ?_
 rw [List.getElem_set]
 split
 ·rename_i e
  subst e
  rw [List.getD_eq_getElem?_getD, List.getElem?_eq_getElem h2]
  rfl
 ·rfl
theorem fillV_at (T O : Int) (R : List S66) (hs : List S60) (h : S60) (p k : Nat) (hk : k < width (regAt R h.f0)) : fillV T O R hs h (p * width (regAt R h.f0) + k) =
  if h.f1.getD (p * width (regAt R h.f0) + k) 0 = -2 then (if sameAt T R h.f0 (choices T O R hs (p : Int)) k = true then (strokes T R h.f0 (headP (choices T O R hs (p : Int))).1 (headP (choices T O R hs (p : Int))).2).getD k 0 else -2) else h.f1.getD (p * width (regAt R h.f0) + k) 0 := by
 have hw := width_pos (regAt R h.f0)
 have e1 : (p * width (regAt R h.f0) + k) / width (regAt R h.f0) = p := by
  rw [Nat.mul_comm, Nat.mul_add_div (by omega), Nat.div_eq_of_lt hk, Nat.add_zero]
 have e2 : (p * width (regAt R h.f0) + k) % width (regAt R h.f0) = k := by
  rw [Nat.mul_comm, Nat.mul_add_mod, Nat.mod_eq_of_lt hk]
 unfold fillV
 rw [e1, e2, known_eq]
def encS (q : Nat × Nat × Nat) : Value := .slice (some ⟨q.1, 0, none⟩) q.2.1 q.2.2
def KS : Kd (Nat × Nat × Nat) := Kd.scalar encS (fun _ => rfl)
def Rows (T O : Int) (R : List S66) (hs : List S60) (G : List (Nat × Nat × Nat)) (base : Nat) (m : Nat → Nat) (w : World) : Prop :=
 ∀ (j : Nat) (hj : j < G.length) (hj' : j < hs.length), Kd.R (Kd.int .i64) 3 w base (fun k_ => k_ = (G[j]).1) (encS G[j]) (fillTo T O R hs hs[j] (m j))
theorem Rows.step {T O : Int} {R : List S66} {hs : List S60} {G : List (Nat × Nat × Nat)} {base : Nat} {m : Nat → Nat} {w w' : World} (h : Rows T O R hs G base m w) (hk : ∀ (j : Nat) (hj : j < G.length), (G[j]).1 < w.heap.size → (∃ cs, w.heap[(G[j]).1]? = some (.cells cs 3 (0, 0))) → w'.heap[(G[j]).1]? = w.heap[(G[j]).1]?) : Rows T O R hs G base m w' := fun j hj hj' =>
 Kd.R_mono (Kd.R_move (Kd.R_bound (h j hj hj')) (fun k hk_ => by
  obtain ⟨rfl, _, hl, q, hq, cells, hc⟩ := hk_
  refine hk j hj hl ⟨cells, ?_⟩
  have e : q = 3 := by simpa [Kd.int, Kd.scalar] using hq
  rw [hc, e])) (fun _ h => h.1)
theorem Rows.block {T O : Int} {R : List S66} {hs : List S60} {G : List (Nat × Nat × Nat)} {base : Nat} {m : Nat → Nat} {w : World} (h : Rows T O R hs G base m w) {j : Nat} (hj : j < G.length) (hj' : j < hs.length) : ∃ cs, w.heap[(G[j]).1]? = some (.cells cs 3 (0, 0)) := by
 obtain ⟨_, _, _, q, hq, cells, hc⟩ := (Kd.R_bound (h j hj hj')).1 (G[j]).1 rfl
 have e : q = 3 := by simpa [Kd.int, Kd.scalar] using hq
 exact ⟨cells, by rw [hc, e]⟩
end Go.Proofs.YtagkfkdoibnhfaaDoor.K
end
section
namespace Go.Proofs.YtagkfkdoibnhfaaDoor.K
open Go.RowKit Go.Shelf Go.Proofs.YtagkfkdoibnhfaaDoorW.PrintWords Go.Proofs.YtagkfkdoibnhfaaDoorW.PrintLast Go.Proofs.YtagkfkdoibnhfaaDoorW.PrintMore Go.Proofs.YtagkfkdoibnhfaaDoor.H
set_option linter.unusedVariables false
set_option linter.unusedSimpArgs false
attribute [local go_sem] Oper.semAt_some
def fFil.T28 : Bool × List (List Nat × List Nat) := (true, [([], []), ([], []), ([], []), ([], []), ([2, 3], [2, 3]), ([4], [4]), ([5], [5]), ([6], [6]), ([6], [6]), ([7, 8, 6], [6, 7, 8]), ([9, 6], [6, 9]), ([6], [6]), ([6], [6]), ([11, 12, 6], [6, 11, 12]), ([13, 6], [6, 13]), ([10, 14, 6], [6, 10, 14]), ([6, 15], [6, 15]), ([0, 1, 0, 1, 2, 3, 4, 5, 6, 7, 8, 9, 10, 11, 12, 13, 14, 15, 16], [0, 1]), ([17, 16, 6, 0, 1, 2, 3, 4, 5, 6, 7, 8, 9, 10, 11, 12, 13, 14, 15, 16], [16, 17])])
def fFil.B28 : List Nat := [0, 0, 0, 0, 12, 28, 60, 124, 124, 508, 1020, 124, 124, 6268, 14460, 32764, 65532, 131071, 262143]
theorem fFil.tab28 : rtab .any (opsOf Tryd.f28 28) = fFil.T28 := by kernel_rfl
theorem fFil.bits28 : waitsOk fFil.T28.2 fFil.B28 = true := by kernel_rfl
theorem eqN25 (w : World) (a : Option Addr) (n c : Nat) : (binOp .eql 25 (.slice a n c) (.slice none 0 0)).run Tryd.prog w = .ok (.bool a.isNone) w := Lib.run_eql_slice_nil w 25 3 a n c 0 0 Tryd.underlying25
attribute [local go_sem high] eqN25
theorem sameAll_nil (T : Int) (R : List S66) (r : Int) (W : Nat) : sameAll T R r [] W = List.replicate W false := by
 refine List.ext_getElem (by simp [sameAll]) fun i h1 h2 => ?_
 simp [sameAll, sameAt]
def FirstAt (T : Int) (R : List S66) (r : Int) (W base g : Nat) (pre : List (Int × Int)) (w : World) : Prop :=
 (pre = [] → Boxed w g 25 (.slice none 0 0)) ∧ (pre ≠ [] → ∃ adF cF, Boxed w g 25 (.slice (some adF) W cF) ∧ Kd.R (Kd.int .i64) 3 w base (fun _ => True) (.slice (some adF) W cF) (strokes T R r (headP pre).1 (headP pre).2))
theorem FirstAt.nil {T : Int} {R : List S66} {r : Int} {W base g : Nat} {w : World} (h : Boxed w g 25 (.slice none 0 0)) : FirstAt T R r W base g [] w := ⟨fun _ => h, fun h => absurd rfl h⟩
theorem FirstAt.km {T : Int} {R : List S66} {r : Int} {W base g m n : Nat} {pre : List (Int × Int)} {X Y : World} (h : FirstAt T R r W base g pre X) (hM : Memo T R X m) (hk : KM T R m n X Y) (hg : g ≠ m) : FirstAt T R r W base g pre Y :=
 ⟨fun e => hk.box (h.1 e) hg, fun e => by obtain ⟨ad, c, h1, h2⟩ := h.2 e; exact ⟨ad, c, hk.box h1 hg, hk.own hM h2⟩⟩
theorem FirstAt.kb {T : Int} {R : List S66} {r : Int} {W base g m : Nat} {pre : List (Int × Int)} {X Y : World} (h : FirstAt T R r W base g pre X) (hM : Memo T R X m) (hk : KB T R m X Y) (hg : g ≠ m) : FirstAt T R r W base g pre Y := h.km hM (hk.weak 0) hg
theorem R_put {w : World} {base g n cp e : Nat} {ok : Nat → Prop} {xs : List Int} (h : Kd.R (Kd.int .i64) e w base ok (.slice (some ⟨g, 0, none⟩) n cp) xs) (i : Nat) (x : Int) : Kd.R (Kd.int .i64) e (w.setCell ⟨g, i, none⟩ (.int .i64 x)) base ok (.slice (some ⟨g, 0, none⟩) n cp) (xs.set i x) := by
 have hn := (Kd.R_reads' h).1
 subst hn
 have h2 := own_store_of (Kd.own_of_R h) (i : Int) x
 rw [Int.toNat_natCast] at h2
 exact Kd.R_of_own (by rw [List.length_set]; exact h2.1) h.1
theorem cell_add0 {w : World} {g j : Nat} : w.cell? ((⟨g, 0, none⟩ : Addr).add j) = w.cell? ⟨g, j, none⟩ := by
 by_cases h : j = 0
 ·subst h; simp [Addr.add]
 ·simp [Addr.add, h]
theorem nodup_at {α : Type} {l : List α} (h : l.Nodup) {i j : Nat} (hi : i < l.length) (hj : j < l.length) (e : l[i] = l[j]) : i = j := by
 have hp := List.pairwise_iff_getElem.1 h
 rcases Nat.lt_trichotomy i j with h1 | h1 | h1
 ·exact absurd e (hp i j hi hj h1)
 ·exact h1
 ·exact absurd e.symm (hp j i hj hi h1)
theorem sameAll_get (T : Int) (R : List S66) (r : Int) (pre : List (Int × Int)) (W k : Nat) (h : k < W) : (sameAll T R r pre W)[k]? = some (sameAt T R r pre k) := by
 unfold sameAll
 rw [List.getElem?_map, List.getElem?_range h]
 simp
theorem Rows.cong2 {T O : Int} {R : List S66} {hs : List S60} {G : List (Nat × Nat × Nat)} {base : Nat} {m m' : Nat → Nat} {w : World} (h : Rows T O R hs G base m w) (e : ∀ j, j < hs.length → m j = m' j) : Rows T O R hs G base m' w := fun j hj hj' => by rw [← e j hj']; exact h j hj hj'
theorem rows_C {w : World} {A : Option Addr} {n : Nat} {G : List (Nat × Nat × Nat)} {rows : List (List Int)} {base : Nat} {ok : Nat → Nat → Prop} (h : Kd.C KS w A n G) (hl : rows.length = G.length) (hr : ∀ (j : Nat) (hj : j < G.length) (hj' : j < rows.length), Kd.R (Kd.int .i64) 3 w base (ok j) (encS G[j]) rows[j]) : Kd.C (Kd.slice 3 (Kd.int .i64)) w A n rows := by
 obtain ⟨h1, h2, h3⟩ := h
 refine ⟨hl.trans h1, h2, fun hn => ?_⟩
 obtain ⟨ad, e, hc⟩ := h3 hn
 refine ⟨ad, e, fun j p hj => ?_⟩
 obtain ⟨hj', rfl⟩ := List.getElem?_eq_some_iff.1 hj
 have hjG : j < G.length := by omega
 obtain ⟨c, hc1, hc2, hc3⟩ := hc j G[j] (List.getElem?_eq_getElem hjG)
 obtain ⟨A', c', e', hl', hC'⟩ := Kd.R_reads (hr j hjG hj')
 refine ⟨c, hc1, ⟨A', c', ?_, hl', hC'⟩, hc3⟩
 have e2 : c = [encS G[j]] := hc2
 rw [e2, e']
theorem width_is (x : S66) : width x = 1 ∨ width x = 2 ∨ width x = 4 := by
 unfold width
 split
 ·exact .inl rfl
 ·split
  ·exact .inr (.inl rfl)
  ·exact .inr (.inr rfl)
theorem run_make1 (w : World) : (Instr.makeSlice 104 (.int .i64 1) (.int .i64 1)).run Tryd.prog w = .ok (.slice (some ⟨w.heap.size, 0, none⟩) 1 1) (w.alloc (.cells #[.bool false] 4)) := by kernel_rfl
theorem run_make2 (w : World) : (Instr.makeSlice 104 (.int .i64 2) (.int .i64 2)).run Tryd.prog w = .ok (.slice (some ⟨w.heap.size, 0, none⟩) 2 2) (w.alloc (.cells #[.bool false, .bool false] 4)) := by kernel_rfl
theorem run_make4 (w : World) : (Instr.makeSlice 104 (.int .i64 4) (.int .i64 4)).run Tryd.prog w = .ok (.slice (some ⟨w.heap.size, 0, none⟩) 4 4) (w.alloc (.cells #[.bool false, .bool false, .bool false, .bool false] 4)) := by kernel_rfl
theorem run_makeW (x : S66) (w : World) : (Instr.makeSlice 104 (.int .i64 (width x : Int)) (.int .i64 (width x : Int))).run Tryd.prog w = .ok (.slice (some ⟨w.heap.size, 0, none⟩) (width x) (width x)) (w.alloc (.cells (cellsB (List.replicate (width x) false)) 4)) := by
 rcases width_is x with h | h | h
 ·rw [h]; exact run_make1 w
 ·rw [h]; exact run_make2 w
 ·rw [h]; exact run_make4 w
theorem C_KS_at {w : World} {A : Option Addr} {n : Nat} {G : List (Nat × Nat × Nat)} (h : Kd.C KS w A n G) (k : Nat) (hk : k < G.length) : ∃ ad, A = some ad ∧ w.cell? (ad.add k) = some (encS G[k]) := by
 have hn : G.length = n := h.1
 obtain ⟨ad, c, e, _, hK, hc0⟩ := Kd.C_get h (0, 0, 0) (k : Int) (by omega) (by omega)
 refine ⟨ad, e, ?_⟩
 have hK' : c = [encS (G.getD ((k : Int).toNat) (0, 0, 0))] := hK
 rw [Int.toNat_natCast] at hK' hc0
 have h1 := hc0 0 (encS (G.getD k (0, 0, 0))) (by rw [hK']; rfl)
 have hsz : KS.sz = 1 := rfl
 rw [List.getD_eq_getElem?_getD, List.getElem?_eq_getElem hk] at h1
 simpa [hsz] using h1
def LoopEndU (base : List Value) (slots : List Nat) (rel : (Nat → Value) → List Deferred → World → Prop) (mu : Act → World → Nat) (b : Nat) (a' : Act) (w' : World) : Prop :=
 (∃ u ds', a' = { tmps := (fillL base slots (slots.map u)).toArray, defers := ds' } ∧ rel u ds' w') ∧ mu a' w' < b
theorem LoopEndU.mk {base A : List Value} {slots : List Nat} {ds : List Deferred} {w' : World} {rel : (Nat → Value) → List Deferred → World → Prop} {mu : Act → World → Nat} {b : Nat} (hA : fillL base slots (slots.map fun i => A.getD i undef) = A) (h : rel (fun i => A.getD i undef) ds w') (hm : mu { tmps := A.toArray, defers := ds } w' < b) :
  LoopEndU base slots rel mu b { tmps := A.toArray, defers := ds } w' := ⟨⟨_, ds, by rw [hA], h⟩, hm⟩
theorem wpIn_loopu {F : Fence} {n : Nat} {P : Program} {c : Code} {Q : Exit → Act → World → Prop} {base : List Value} {ds0 : List Deferred} {w0 : World} (slots : List Nat) (rel : (Nat → Value) → List Deferred → World → Prop) (mu : Act → World → Nat)
  (h0 : rel (fun i => base.getD i undef) ds0 w0)
  (hr : ∀ u ds w, rel u ds w → c.wpIn F n P (Exit.then (LoopEndU base slots rel mu (mu { tmps := (fillL base slots (slots.map u)).toArray, defers := ds } w)) Q) { tmps := (fillL base slots (slots.map u)).toArray, defers := ds } w) :
  (Code.loop c).wpIn F n P Q { tmps := base.toArray, defers := ds0 } w0 := by
 refine wpIn_loop (fun a w => ∃ u ds, a = { tmps := (fillL base slots (slots.map u)).toArray, defers := ds } ∧ rel u ds w) mu ⟨_, ds0, by rw [fillL_self], h0⟩ ?_
 rintro a w ⟨u, ds, rfl, h⟩
 exact hr u ds w h
def mAt (R : List S66) (hs : List S60) (p i j : Nat) : Nat := (if j < i then p + 1 else p) * width (regAt R ((hs[j]?.map S60.f0).getD 0))
def mK (R : List S66) (hs : List S60) (p i pw k j : Nat) : Nat := if j = i then pw + k else mAt R hs p i j
theorem Rows.cong {T O : Int} {R : List S66} {hs : List S60} {G : List (Nat × Nat × Nat)} {base : Nat} {m m' : Nat → Nat} {w : World} (h : Rows T O R hs G base m w) (e : ∀ j, m j = m' j) : Rows T O R hs G base m' w := fun j hj hj' => by rw [← e j]; exact h j hj hj'
theorem R_only {w : World} {base g n cp e : Nat} {ok : Nat → Prop} {xs : List Int} (h : Kd.R (Kd.int .i64) e w base ok (.slice (some ⟨g, 0, none⟩) n cp) xs) : Kd.R (Kd.int .i64) e w base (fun k_ => k_ = g) (.slice (some ⟨g, 0, none⟩) n cp) xs :=
 ⟨fun k hk => by simpa [Value.ownBlock] using hk.symm, h.2⟩
set_option maxRecDepth 100000 in
set_option maxHeartbeats 16000000 in
theorem filled_ok (T O L : Int) (A : Option Addr) (R : List S66) (c : Nat) (A1 : Option Addr) (c1 : Nat) (hs : List S60) (w : World) (hR : Kd.C k66 w A R.length R) (hc : R.length ≤ c) (hl : Kd.C k60 w A1 hs.length hs) (hG : Glob w) (he : askedErr T O L R hs true = 0) :
  Calls Tryd.prog 28 #[.agg #[.int .i64 T, .int .i64 O, .int .i64 L, .slice A R.length c], .slice A1 hs.length c1] w fun e w' => ∃ v, e = .returned (.tuple #[v, .int .i64 0]) ∧ Kd.V (Kd.slice 3 (Kd.int .i64)) 25 w' w.heap.size (fun k_ => w.heap.size ≤ k_) v (hs.map (fillOf T O R hs)) ∧ Below w.heap.size w w' := by
 have hu24 := Tryd.underlying24
 have hu60 := Tryd.underlying60
 have hu78 := Tryd.underlying78
 have hu84 := Tryd.underlying84
 have hu92 := Tryd.underlying92
 have HB0 := zh (below_alloc (Below.refl w.heap.size w) (.cells #[.int .i64 T, .int .i64 O, .int .i64 L, .slice A R.length c] 24))
 have HR := zh (Kd.C_below hR HB0.out)
 have HL := zh (Kd.C_below hl HB0.out)
 have HG := zh (hG.below HB0.out)
 have HL0 := zh hl
 have HR0 := zh hR
 have HG0 := zh hG
 have HE := zh he
 obtain ⟨hOK, hOH⟩ : okScale T O L R = true ∧ okHeard L R hs = true := by
  unfold askedErr at he
  split at he
  ·split at he
   ·exact ⟨by assumption, by assumption⟩
   ·omega
  ·omega
 have HOH := zh hOH
 obtain ⟨hs5, hel⟩ := okHeard_get hOH
 have HEL := zh hel
 obtain ⟨t1, t2, t3, t4, t5, t6, _, _, t9, _⟩ := okScale_regs hOK
 have mr := mul_range t1 t2 t3 t4
 obtain ⟨N, hN⟩ : ∃ N : Nat, T * O = (N : Int) := Int.eq_ofNat_of_zero_le (by omega)
 have hN' : N ≤ 100 := by omega
 obtain ⟨n, hn⟩ : ∃ n : Nat, L / 2 = (n : Int) := Int.eq_ofNat_of_zero_le (by omega)
 have n8 : n ≤ 8 := by omega
 have n1 : 1 ≤ n := by omega
 have hs1 : 1 ≤ hs.length := by
  unfold okHeard at hOH
  simp only [Bool.and_eq_true, decide_eq_true_eq] at hOH
  exact hOH.1.1
 clear hR hl hG he hOK hOH hel t1 t2 t3 t4 t9
 refine (callsIn_wide (n := 9)).1 ?_
 refine callsIn_of_wp_marks Tryd.func28 rfl trivial ?_ rfl
 simp only [Tryd.ntmps28, List.size_toArray, List.length_cons, List.length_nil, Nat.reduceAdd, Nat.reduceSub, Array.replicate_succ, Array.replicate_zero, List.push_toArray, List.append_toArray, List.nil_append, List.cons_append]
 gi_wp2_with (refine ⟨trivial, ?_⟩; gi_at_call 68; refine (callsIn_wide.2 (asked_always_calls T O L A R c A1 c1 hs _ HR.out hc HL.out HG.out)).mono ?_; rintro e w1 hq; obtain ⟨_, _, _, _, m, rfl, hx⟩ := hq.2 HE.out; have X1 := zh (hx.elder HB0.out HR0.out HG0.out); have B0 := zh (alloc_at w1 (.cells #[.int .i64 T, .int .i64 O, .int .i64 L, .slice A R.length c, .map (some m), .slice A1 hs.length c1] 92) w1.heap.size rfl); clear hq hx)
 have hmw1 := X1.out.memo.lt
 have hw1s := X1.out.base.size
 have X2 := zh (X1.out.below (below_alloc (Below.refl w1.heap.size w1) (.cells #[.int .i64 T, .int .i64 O, .int .i64 L, .slice A R.length c, .map (some m), .slice A1 hs.length c1] 92)))
 have hw2s : (w1.alloc (.cells #[.int .i64 T, .int .i64 O, .int .i64 L, .slice A R.length c, .map (some m), .slice A1 hs.length c1] 92)).heap.size = w1.heap.size + 1 := by simp
 obtain ⟨w2, hw2e⟩ : ∃ w2, w1.alloc (.cells #[.int .i64 T, .int .i64 O, .int .i64 L, .slice A R.length c, .map (some m), .slice A1 hs.length c1] 92) = w2 := ⟨_, rfl⟩
 simp only [hw2e] at B0 X2 hw2s ⊢
 clear hw2e
 have hw2a : w2.heap.size ≤ w1.heap.size + 1 := by omega
 have hw2b : w1.heap.size + 1 ≤ w2.heap.size := by omega
 clear hw2s
 have hw1m : w1.heap.size ≠ m := by omega
 have hmlo : m < w2.heap.size := by omega
 refine wpIn_wide.2 ?_
 go_loopw [8, 34] (fun v u wr => ∃ (i : Nat) (G : List (Nat × Nat × Nat)), i ≤ hs.length ∧ u = .int .i64 i ∧ G.length = i ∧ Aside0 (KS.R 25 wr w.heap.size (fun k_ => w.heap.size ≤ k_) v G) ∧ Aside0 (Rows T O R hs G w.heap.size (fun _ => 0) wr) ∧ Aside0 ((G.map (·.1)).Nodup) ∧ Aside0 (Ctx w wr T A R m) ∧ Aside0 (wr.heap[w1.heap.size]? = some (.cells #[.int .i64 T, .int .i64 O, .int .i64 L, .slice A R.length c, .map (some m), .slice A1 hs.length c1] 92 (0, 0)))) (fun _ u _ => hs.length - (intOf u).toNat)
 case atStart => exact ⟨0, [], Nat.zero_le _, rfl, rfl, ⟨Kd.R_nil _ _ _ _ _⟩, ⟨fun j hj _ => absurd hj (by simp)⟩, ⟨List.nodup_nil⟩, X2, B0⟩
 case round =>
  obtain ⟨i, G, hi, rfl, hGl, HO, HRows, HND, XC, Br⟩ := hrel
  by_cases hlt : i < hs.length
  ·have hlt' : (i : Int) < (hs.length : Int) := by omega
   obtain ⟨ad, A2, c2, rfl, e0, e1, e2, e3⟩ := C_60_at (Kd.C_below HL0.out XC.out.base) i hlt
   have hf1 := (HEL.out i hlt).2.2.1
   have hwp := width_pos (regAt R hs[i].f0)
   have hwq := width_le (regAt R hs[i].f0)
   have HZ := zh (fillTo_zero T O R hs hs[i])
   have hlen : 1 ≤ hs[i].f1.length ∧ hs[i].f1.length ≤ 32 := by
    rw [hn] at hf1
    have h1 : (1 : Int) * 1 ≤ (n : Int) * (width (regAt R hs[i].f0) : Int) := Int.mul_le_mul (by omega) (by omega) (by omega) (by omega)
    have h2 : (n : Int) * (width (regAt R hs[i].f0) : Int) ≤ 8 * 4 := Int.mul_le_mul (by omega) (by omega) (by omega) (by omega)
    omega
   clear hf1 hwp hwq
   have HC2 := zh e3
   generalize hy0 : hs[i].f0 = y0 at e0
   generalize hy1 : hs[i].f1 = y1 at e1 e2 HC2 hlen HZ
   have HY1 := zh hy1
   clear hy0 hy1 e3
   go_wp2_with (first | ((with_reducible refine gate_builtin (b := .append) (xs := #[.const (.slice none 0 0), .tmp 40]) rfl ?_); refine Kd.R_append_rows (Kd.int .i64) (w0 := w) w.heap.size rfl (.const (.slice none 0 0)) (.tmp 40) 25 3 (.int .i64 0) 8 rfl Tryd.underlying25 info3 rfl (by decide) (by omega) (.slice none 0 0) [] y1 A2 y1.length c2 (fun k_ => wr.heap.size + 1 ≤ k_) (fun _ => False) rfl rfl (Kd.R_nil _ _ _ _ _) (Kd.C_alloc HC2.out _) (fun _ _ h => h) (fun _ h => h.elim) (fun k_ hk_ => by simpa using hk_) (below_alloc XC.out.base _) (by have := XC.out.base.size; simp; omega) (by simp only [List.length_nil]; omega) ?_; intro v5 w5 hO5 hB5 hg5 hat; rw [List.nil_append] at hO5; obtain ⟨g5, k5, rfl, hg5a, hg5b, cells5, hg5c⟩ := Kd.R_form hO5 (by omega); have HO5 := zh hO5; have HB5 := zh hB5; have HG5 := zh hg5; have HS5 := zh (show ∀ k, w.heap.size ≤ k → k < wr.heap.size → w5.heap[k]? = wr.heap[k]? from fun k _ hk => (hg5.block k (by simp; omega) (by simp [Value.ownBlock])).trans (Below.heap_alloc _ _ _ hk)); clear hO5 hB5 hg5 hat hg5c) | ((with_reducible refine gate_builtin (b := .append) (xs := #[.tmp 38, .tmp 42]) rfl ?_); refine Kd.R_append KS (w0 := w) w.heap.size rfl (.tmp 38) (.tmp 42) 39 25 (.slice none 0 0) 24 rfl Tryd.underlying39 info25 rfl (by decide) (by omega) u8 G (g5, y1.length, k5) [encS (g5, y1.length, k5)] (fun k_ => w.heap.size ≤ k_) (fun _ => False) rfl rfl rfl (fun _ hk => hk.elim) (fun k_ hk_ => Nat.le_trans HB5.out.size hk_) (Kd.R_step HO.out HS5.out) HB5.out HB5.out.size (by omega) ?_; intro v6 w6 hO6 hB6 hg6 hat; have HO6 := zh hO6; have HB6 := zh hB6; have HG6 := zh hg6; clear hO6 hB6 hg6 hat))
   have hws := XC.out.base.size
   have hGi : G.length = i := hGl
   have HOw5 := zh (Kd.R_step HO.out HS5.out)
   have hmx := XC.out.memo.lt
   have hmw := XC.out.hm
   have HNm := zh (fun e_ : some m = u8.ownBlock => ((R_nomap XC.out.memo HO.out).1 m e_.symm).2 rfl)
   have HLr := zh (fun (j : Nat) (hj : j < G.length) => HRows.out.block hj (by omega))
   have HBr := zh (fun (j : Nat) (hj : j < G.length) => Kd.R_base (HRows.out j hj (by omega)) (G[j]).1 rfl)
   have hg5lt : g5 < w5.heap.size := hg5b
   have hg5own := (Kd.R_lt HO.out)
   have hg5ge : wr.heap.size + 1 ≤ g5 := HO5.out.1 g5 rfl
   have hs5 := HG5.out.size
   have hs6 := HG6.out.size
   have hb92 := blk_lt Br.out
   have hm6 : w6.heap[m]? = wr.heap[m]? := (HG6.out.block m (by simp at hs5; omega) HNm.out).trans (HS5.out m hmw hmx)
   have h926 : w6.heap[w1.heap.size]? = wr.heap[w1.heap.size]? := (HG6.out.block _ (by simp at hs5; omega) (Kd.R_ne HO.out Br.out (by decide))).trans (HS5.out _ hw1s hb92)
   go_roundw
   case rel =>
    refine ⟨i + 1, G ++ [(g5, y1.length, k5)], by omega, by go_num, by simp [hGl], HO6, ⟨?_⟩, ⟨?_⟩, ⟨{ XC.out with base := HB6.out, memo := XC.out.memo.move hm6 }⟩, ⟨h926.trans Br.out⟩⟩
    ·intro j hj hj'
     by_cases hjG : j < G.length
     ·rw [List.getElem_append_left hjG]
      refine (Rows.step HRows.out (w' := w6) (fun j hj hl hc => ?_)) j hjG hj'
      obtain ⟨cs, hcs⟩ := hc
      have h5 := HS5.out (G[j]).1 (HBr.out j hj) hl
      exact (HG6.out.block _ (by simp at hs5; omega) (Kd.R_ne HOw5.out (h5.trans hcs) (by decide))).trans h5
     ·have hjl : j = G.length := by simp at hj; omega
      subst hjl
      have e1 : (G ++ [(g5, y1.length, k5)])[G.length] = (g5, y1.length, k5) := by simp
      rw [e1]
      have e2 : fillTo T O R hs hs[G.length] 0 = y1 := by subst hGi; exact HZ.out
      rw [e2]
      have h6 : w6.heap[g5]? = w5.heap[g5]? := HG6.out.block g5 hg5lt (fun e_ => by have := hg5own g5 e_.symm; omega)
      exact R_only (Kd.R_step (R_only HO5.out) (fun k hk _ => by rw [hk]; exact h6))
    ·rw [List.map_append]
     refine List.nodup_append.2 ⟨HND.out, by simp, ?_⟩
     intro x hx y hy e_
     obtain ⟨q, hq, rfl⟩ := List.mem_map.1 hx
     obtain ⟨j, hj, rfl⟩ := List.mem_iff_getElem.1 hq
     obtain ⟨cs, hcs⟩ := HLr.out j hj
     have := blk_lt hcs
     simp at hy
     omega
   case measure => simp [intOf]; omega
  ·obtain rfl : i = hs.length := by omega
   have hlt' : ¬ (hs.length : Int) < (hs.length : Int) := by omega
   have hGl' : G.length = hs.length := hGl
   have z2 : wr.cell? ⟨w1.heap.size, 2, none⟩ = some (.int .i64 L) := vb Br 2
   go_wp2
   gi_wp2
   clear z2
   have hw2r : w2.heap.size ≤ wr.heap.size := by have := blk_lt Br.out; omega
   have HRows0 := zh (show Rows T O R hs G w.heap.size (mAt R hs 0 0) wr from HRows.out.cong (fun j => by simp [mAt]))
   clear HRows
   have HGL := zh hGl'
   clear hGl hGl'
   refine wpIn_loopu [11, 12, 13, 14, 15, 16, 17, 21, 22, 50, 51, 52, 53, 54, 55, 56, 57, 58, 59, 60, 61, 62, 63, 64, 65, 66, 67, 68, 69, 70, 71, 72, 73, 74, 75, 76, 115, 116, 117, 118, 119, 120, 121, 122, 123, 124, 125, 126, 127, 128, 129, 130, 131, 132, 133, 134, 135, 136, 137, 138, 139, 140, 141, 142, 143, 144] (fun u ds wr => ∃ p : Nat, u 50 = .int .i64 (p : Int) ∧ p ≤ n ∧ Aside0 (Rows T O R hs G w.heap.size (mAt R hs p 0) wr) ∧ Aside0 (Marks w2.heap.size ds wr) ∧ Aside0 (Ctx w wr T A R m) ∧ Aside0 (wr.heap[w1.heap.size]? = some (.cells #[.int .i64 T, .int .i64 O, .int .i64 L, .slice A R.length c, .map (some m), .slice A1 hs.length c1] 92 (0, 0))) ∧ Aside0 (KS.R 25 wr w.heap.size (fun k_ => w.heap.size ≤ k_) u8 G) ∧ w2.heap.size ≤ wr.heap.size) (fun a' _ => n - (intOf (a'.tmps.getD 50 undef)).toNat) ?atStart ?round
   case atStart => exact ⟨0, rfl, Nat.zero_le _, HRows0, ⟨trivial⟩, XC, Br, HO, hw2r⟩
   case round =>
    clear HRows0 XC Br HO hw2r
    rintro ub ds wb ⟨p, hub, hp, HRows, HM, XC, Br, HO, hwb⟩
    simp only [List.map_cons, List.map_nil, fillL, List.set_cons_zero, List.set_cons_succ, hub]
    by_cases hltp : p < n
    ·have hltp' : (p : Int) < (n : Int) := by omega
     gi_wp2
     refine wpIn_loopu [12, 13, 14, 15, 16, 17, 21, 22, 55, 56, 57, 58, 59, 60, 61, 62, 63, 64, 65, 66, 67, 68, 69, 70, 71, 72, 73, 74, 75, 76, 115, 116, 117, 118, 119, 120, 121, 122, 123, 124, 125, 126, 127, 128, 129, 130, 131, 132, 133, 134, 135, 136, 137, 138, 139, 140, 141, 142, 143] (fun u ds wr => ∃ i : Nat, u 55 = .int .i64 (i : Int) ∧ i ≤ hs.length ∧ Aside0 (Rows T O R hs G w.heap.size (mAt R hs p i) wr) ∧ Aside0 (Marks w2.heap.size ds wr) ∧ Aside0 (Ctx w wr T A R m) ∧ Aside0 (wr.heap[w1.heap.size]? = some (.cells #[.int .i64 T, .int .i64 O, .int .i64 L, .slice A R.length c, .map (some m), .slice A1 hs.length c1] 92 (0, 0))) ∧ Aside0 (KS.R 25 wr w.heap.size (fun k_ => w.heap.size ≤ k_) u8 G) ∧ w2.heap.size ≤ wr.heap.size) (fun a' _ => hs.length - (intOf (a'.tmps.getD 55 undef)).toNat) ?atStart ?round
     case atStart => exact ⟨0, rfl, Nat.zero_le _, HRows, HM, XC, Br, HO, hwb⟩
     case round =>
      clear HRows HM XC Br HO hwb
      rintro uc ds wr' ⟨i, huc, hi, HRows, HM, XC, Br, HO, hwr⟩
      simp only [List.map_cons, List.map_nil, fillL, List.set_cons_zero, List.set_cons_succ, huc]
      by_cases hlti : i < hs.length
      ·have hlti' : (i : Int) < (hs.length : Int) := by omega
       obtain ⟨ad, A2, c2, hA1, e0, e1, e2, e3⟩ := C_60_at (Kd.C_below HL0.out XC.out.base) i hlti
       subst hA1
       obtain ⟨A8, c8, rfl, hl8, hC8⟩ := Kd.R_reads HO.out
       have hiG : i < G.length := by have := HGL.out; omega
       have hiGz : (i : Int) < (G.length : Int) := by omega
       obtain ⟨ad8, hA8, hk8⟩ := C_KS_at hC8 i hiG
       subst hA8
       obtain ⟨gi, ni, ci, hgi⟩ : ∃ a b c, G[i] = (a, b, c) := ⟨_, _, _, rfl⟩
       have hrow := HRows.out i hiG hlti
       rw [hgi] at hk8 hrow
       obtain ⟨hni, hci, _⟩ := Kd.R_reads' hrow
       rw [fillTo_len] at hni
       have hf1 := (HEL.out i hlti).2.2.1
       obtain ⟨r0, r1, _⟩ := (HEL.out i hlti)
       have hwp := width_pos (regAt R hs[i].f0)
       have hwq := width_le (regAt R hs[i].f0)
       obtain ⟨W, hW⟩ : ∃ W, width (regAt R hs[i].f0) = W := ⟨_, rfl⟩
       rw [hW] at hwp hwq hf1
       rw [hn, ← hni] at hf1
       have hniW : ni = n * W := by (have : (ni : Int) = ((n * W : Nat) : Int) := by (rw [hf1]; simp)); omega
       have hn32 : ni ≤ 32 := by rw [hniW]; exact Nat.mul_le_mul n8 hwq
       have hn1 : 1 ≤ ni := by rw [hniW]; exact Nat.mul_le_mul n1 hwp
       have hdiv : (ni : Int) / (n : Int) = (W : Int) := by rw [hf1]; exact Int.mul_ediv_cancel_left _ (by omega)
       have hn0 : ((n : Int) == 0) = false := beq_eq_false_iff_ne.2 (by omega)
       have hn0' : (0 : Int) < (n : Int) := by omega
       have HW_ := zh hW
       have HNIW := zh hniW
       have HNI := zh hni
       have HGI := zh hgi
       have HROW := zh hrow
       have HE3 := zh e3
       generalize hy0 : hs[i].f0 = y0 at e0 r0 r1 HW_
       have HY0 := zh hy0
       rw [← hni] at e1 e2
       have z0 : wr'.cell? ⟨w1.heap.size, 0, none⟩ = some (.int .i64 T) := vb Br 0
       have z1 : wr'.cell? ⟨w1.heap.size, 1, none⟩ = some (.int .i64 O) := vb Br 1
       have z2 : wr'.cell? ⟨w1.heap.size, 2, none⟩ = some (.int .i64 L) := vb Br 2
       have z3 : wr'.cell? ⟨w1.heap.size, 3, none⟩ = some (.slice A R.length c) := vb Br 3
       have z4 : wr'.cell? ⟨w1.heap.size, 4, none⟩ = some (.map (some m)) := vb Br 4
       have z5 : wr'.cell? ⟨w1.heap.size, 5, none⟩ = some (.slice (some ad) hs.length c1) := vb Br 5
       clear hW hniW hni hgi hrow e3 hy0 hf1 hC8 hl8 huc hub
       simp only [encS] at hk8
       have hmk : ∀ w_ : World, (Instr.makeSlice 104 (.int .i64 (W : Int)) (.int .i64 (W : Int))).run Tryd.prog w_ = .ok (.slice (some ⟨w_.heap.size, 0, none⟩) W W) (w_.alloc (.cells (cellsB (List.replicate W false)) 4)) := fun w_ => by have := run_makeW (regAt R y0) w_; rwa [HW_.out] at this
       replace hk8 := cell_a1 hk8 (.cells #[.int .i64 y0, .slice A2 ni c2] 60)
       have y2 := cell_a1 z2 (.cells #[.int .i64 y0, .slice A2 ni c2] 60)
       have v0 := (cell_a1 (cell_a1 (cell_a1 (cell_a1 (cell_a1 z0 (.cells #[.int .i64 y0, .slice A2 ni c2] 60)) (.cells #[.int .i64 (W : Int)] 3)) (.cells (cellsB (List.replicate W false)) 4)) (.cells #[.slice (some ⟨wr'.heap.size + 1 + 1, 0, none⟩) W W] 104)) (.cells #[.slice none 0 0] 25))
       have v1 := (cell_a1 (cell_a1 (cell_a1 (cell_a1 (cell_a1 z1 (.cells #[.int .i64 y0, .slice A2 ni c2] 60)) (.cells #[.int .i64 (W : Int)] 3)) (.cells (cellsB (List.replicate W false)) 4)) (.cells #[.slice (some ⟨wr'.heap.size + 1 + 1, 0, none⟩) W W] 104)) (.cells #[.slice none 0 0] 25))
       have v2 := (cell_a1 (cell_a1 (cell_a1 (cell_a1 (cell_a1 z2 (.cells #[.int .i64 y0, .slice A2 ni c2] 60)) (.cells #[.int .i64 (W : Int)] 3)) (.cells (cellsB (List.replicate W false)) 4)) (.cells #[.slice (some ⟨wr'.heap.size + 1 + 1, 0, none⟩) W W] 104)) (.cells #[.slice none 0 0] 25))
       have v3 := (cell_a1 (cell_a1 (cell_a1 (cell_a1 (cell_a1 z3 (.cells #[.int .i64 y0, .slice A2 ni c2] 60)) (.cells #[.int .i64 (W : Int)] 3)) (.cells (cellsB (List.replicate W false)) 4)) (.cells #[.slice (some ⟨wr'.heap.size + 1 + 1, 0, none⟩) W W] 104)) (.cells #[.slice none 0 0] 25))
       have v4 := (cell_a1 (cell_a1 (cell_a1 (cell_a1 (cell_a1 z4 (.cells #[.int .i64 y0, .slice A2 ni c2] 60)) (.cells #[.int .i64 (W : Int)] 3)) (.cells (cellsB (List.replicate W false)) 4)) (.cells #[.slice (some ⟨wr'.heap.size + 1 + 1, 0, none⟩) W W] 104)) (.cells #[.slice none 0 0] 25))
       have v5 := (cell_a1 (cell_a1 (cell_a1 (cell_a1 (cell_a1 z5 (.cells #[.int .i64 y0, .slice A2 ni c2] 60)) (.cells #[.int .i64 (W : Int)] 3)) (.cells (cellsB (List.replicate W false)) 4)) (.cells #[.slice (some ⟨wr'.heap.size + 1 + 1, 0, none⟩) W W] 104)) (.cells #[.slice none 0 0] 25))
       gi_wp2_with (refine ⟨trivial, ?_⟩; gi_at_call 64; refine (callsIn_any _ (fits_calls T O L A R.length c m (some ad) hs.length c1 (p : Int) _)).mono ?_; rintro e w' ⟨rfl, rfl⟩)
       clear z0 z1 z2 z3 z4 z5 y2 v0 v1 v2 v3 v4 v5 e0 e1 hk8 hmk
       have KA := zh ((((((((KB.refl T R m wr').trans (KB.alloc T R m wr' (.cells #[.int .i64 y0, .slice A2 ni c2] 60))).trans (KB.alloc T R m (wr'.alloc (.cells #[.int .i64 y0, .slice A2 ni c2] 60)) (.cells #[.int .i64 (W : Int)] 3))).trans (KB.alloc T R m ((wr'.alloc (.cells #[.int .i64 y0, .slice A2 ni c2] 60)).alloc (.cells #[.int .i64 (W : Int)] 3)) (.cells (cellsB (List.replicate W false)) 4))).trans (KB.alloc T R m (((wr'.alloc (.cells #[.int .i64 y0, .slice A2 ni c2] 60)).alloc (.cells #[.int .i64 (W : Int)] 3)).alloc (.cells (cellsB (List.replicate W false)) 4)) (.cells #[.slice (some ⟨wr'.heap.size + 1 + 1, 0, none⟩) W W] 104))).trans (KB.alloc T R m ((((wr'.alloc (.cells #[.int .i64 y0, .slice A2 ni c2] 60)).alloc (.cells #[.int .i64 (W : Int)] 3)).alloc (.cells (cellsB (List.replicate W false)) 4)).alloc (.cells #[.slice (some ⟨wr'.heap.size + 1 + 1, 0, none⟩) W W] 104)) (.cells #[.slice none 0 0] 25))).trans (KB.alloc T R m (((((wr'.alloc (.cells #[.int .i64 y0, .slice A2 ni c2] 60)).alloc (.cells #[.int .i64 (W : Int)] 3)).alloc (.cells (cellsB (List.replicate W false)) 4)).alloc (.cells #[.slice (some ⟨wr'.heap.size + 1 + 1, 0, none⟩) W W] 104)).alloc (.cells #[.slice none 0 0] 25)) (.cells #[.int .i64 T, .int .i64 O, .int .i64 L, .slice A R.length c, .map (some m), .slice (some ad) hs.length c1] 92))).trans (KB.alloc T R m ((((((wr'.alloc (.cells #[.int .i64 y0, .slice A2 ni c2] 60)).alloc (.cells #[.int .i64 (W : Int)] 3)).alloc (.cells (cellsB (List.replicate W false)) 4)).alloc (.cells #[.slice (some ⟨wr'.heap.size + 1 + 1, 0, none⟩) W W] 104)).alloc (.cells #[.slice none 0 0] 25)).alloc (.cells #[.int .i64 T, .int .i64 O, .int .i64 L, .slice A R.length c, .map (some m), .slice (some ad) hs.length c1] 92)) (.cells #[.int .i64 (p : Int)] 3)))
       have D0 := zh (blk_alloc (blk_alloc (blk_alloc (blk_alloc (blk_alloc (blk_alloc (alloc_at wr' (.cells #[.int .i64 y0, .slice A2 ni c2] 60) (wr'.heap.size) (by simp)) (.cells #[.int .i64 (W : Int)] 3)) (.cells (cellsB (List.replicate W false)) 4)) (.cells #[.slice (some ⟨wr'.heap.size + 1 + 1, 0, none⟩) W W] 104)) (.cells #[.slice none 0 0] 25)) (.cells #[.int .i64 T, .int .i64 O, .int .i64 L, .slice A R.length c, .map (some m), .slice (some ad) hs.length c1] 92)) (.cells #[.int .i64 (p : Int)] 3))
       have D1 := zh (blk_alloc (blk_alloc (blk_alloc (blk_alloc (blk_alloc (alloc_at (wr'.alloc (.cells #[.int .i64 y0, .slice A2 ni c2] 60)) (.cells #[.int .i64 (W : Int)] 3) (wr'.heap.size + 1) (by simp)) (.cells (cellsB (List.replicate W false)) 4)) (.cells #[.slice (some ⟨wr'.heap.size + 1 + 1, 0, none⟩) W W] 104)) (.cells #[.slice none 0 0] 25)) (.cells #[.int .i64 T, .int .i64 O, .int .i64 L, .slice A R.length c, .map (some m), .slice (some ad) hs.length c1] 92)) (.cells #[.int .i64 (p : Int)] 3))
       have D2 := zh (blk_alloc (blk_alloc (blk_alloc (blk_alloc (alloc_at ((wr'.alloc (.cells #[.int .i64 y0, .slice A2 ni c2] 60)).alloc (.cells #[.int .i64 (W : Int)] 3)) (.cells (cellsB (List.replicate W false)) 4) (wr'.heap.size + 1 + 1) (by simp)) (.cells #[.slice (some ⟨wr'.heap.size + 1 + 1, 0, none⟩) W W] 104)) (.cells #[.slice none 0 0] 25)) (.cells #[.int .i64 T, .int .i64 O, .int .i64 L, .slice A R.length c, .map (some m), .slice (some ad) hs.length c1] 92)) (.cells #[.int .i64 (p : Int)] 3))
       have D3 := zh (blk_alloc (blk_alloc (blk_alloc (alloc_at (((wr'.alloc (.cells #[.int .i64 y0, .slice A2 ni c2] 60)).alloc (.cells #[.int .i64 (W : Int)] 3)).alloc (.cells (cellsB (List.replicate W false)) 4)) (.cells #[.slice (some ⟨wr'.heap.size + 1 + 1, 0, none⟩) W W] 104) (wr'.heap.size + 1 + 1 + 1) (by simp)) (.cells #[.slice none 0 0] 25)) (.cells #[.int .i64 T, .int .i64 O, .int .i64 L, .slice A R.length c, .map (some m), .slice (some ad) hs.length c1] 92)) (.cells #[.int .i64 (p : Int)] 3))
       have D4 := zh (blk_alloc (blk_alloc (alloc_at ((((wr'.alloc (.cells #[.int .i64 y0, .slice A2 ni c2] 60)).alloc (.cells #[.int .i64 (W : Int)] 3)).alloc (.cells (cellsB (List.replicate W false)) 4)).alloc (.cells #[.slice (some ⟨wr'.heap.size + 1 + 1, 0, none⟩) W W] 104)) (.cells #[.slice none 0 0] 25) (wr'.heap.size + 1 + 1 + 1 + 1) (by simp)) (.cells #[.int .i64 T, .int .i64 O, .int .i64 L, .slice A R.length c, .map (some m), .slice (some ad) hs.length c1] 92)) (.cells #[.int .i64 (p : Int)] 3))
       have D5 := zh (blk_alloc (alloc_at (((((wr'.alloc (.cells #[.int .i64 y0, .slice A2 ni c2] 60)).alloc (.cells #[.int .i64 (W : Int)] 3)).alloc (.cells (cellsB (List.replicate W false)) 4)).alloc (.cells #[.slice (some ⟨wr'.heap.size + 1 + 1, 0, none⟩) W W] 104)).alloc (.cells #[.slice none 0 0] 25)) (.cells #[.int .i64 T, .int .i64 O, .int .i64 L, .slice A R.length c, .map (some m), .slice (some ad) hs.length c1] 92) (wr'.heap.size + 1 + 1 + 1 + 1 + 1) (by simp)) (.cells #[.int .i64 (p : Int)] 3))
       have D6 := zh (alloc_at ((((((wr'.alloc (.cells #[.int .i64 y0, .slice A2 ni c2] 60)).alloc (.cells #[.int .i64 (W : Int)] 3)).alloc (.cells (cellsB (List.replicate W false)) 4)).alloc (.cells #[.slice (some ⟨wr'.heap.size + 1 + 1, 0, none⟩) W W] 104)).alloc (.cells #[.slice none 0 0] 25)).alloc (.cells #[.int .i64 T, .int .i64 O, .int .i64 L, .slice A R.length c, .map (some m), .slice (some ad) hs.length c1] 92)) (.cells #[.int .i64 (p : Int)] 3) (wr'.heap.size + 1 + 1 + 1 + 1 + 1 + 1) (by simp))
       have hsz : (((((((wr'.alloc (.cells #[.int .i64 y0, .slice A2 ni c2] 60)).alloc (.cells #[.int .i64 (W : Int)] 3)).alloc (.cells (cellsB (List.replicate W false)) 4)).alloc (.cells #[.slice (some ⟨wr'.heap.size + 1 + 1, 0, none⟩) W W] 104)).alloc (.cells #[.slice none 0 0] 25)).alloc (.cells #[.int .i64 T, .int .i64 O, .int .i64 L, .slice A R.length c, .map (some m), .slice (some ad) hs.length c1] 92)).alloc (.cells #[.int .i64 (p : Int)] 3)).heap.size = wr'.heap.size + 7 := by simp
       obtain ⟨W0, hW0⟩ : ∃ W0, (((((((wr'.alloc (.cells #[.int .i64 y0, .slice A2 ni c2] 60)).alloc (.cells #[.int .i64 (W : Int)] 3)).alloc (.cells (cellsB (List.replicate W false)) 4)).alloc (.cells #[.slice (some ⟨wr'.heap.size + 1 + 1, 0, none⟩) W W] 104)).alloc (.cells #[.slice none 0 0] 25)).alloc (.cells #[.int .i64 T, .int .i64 O, .int .i64 L, .slice A R.length c, .map (some m), .slice (some ad) hs.length c1] 92)).alloc (.cells #[.int .i64 (p : Int)] 3)) = W0 := ⟨_, rfl⟩
       simp only [hW0] at KA D0 D1 D2 D3 D4 D5 D6 hsz ⊢
       clear hW0
       have X0 := zh (KA.out.ctx XC.out)
       have hwrs := XC.out.base.size
       have hmx := XC.out.memo.lt
       have hw2m : w2.heap.size ≤ wr'.heap.size := hwr
       have B92c := zh (KA.out.at Br.out hw1m)
       have h92l := blk_lt Br.out
       have HL1 := zh HL0.out
       refine wpIn_range (n := 9) (by omega) (gf := 85) (lb := #[.pointer (some ⟨wr'.heap.size + 1 + 1 + 1 + 1 + 1, 0, none⟩), .pointer (some ⟨wr'.heap.size + 1 + 1 + 1 + 1 + 1 + 1, 0, none⟩)]) rfl (enters_of Tryd.func85 zk rfl)
        (fits_seq T O L A R c m (some ad) c1 hs p N (wr'.heap.size + 1 + 1 + 1 + 1 + 1) (wr'.heap.size + 1 + 1 + 1 + 1 + 1 + 1) (fun i => i < W0.heap.size ∧ i ≠ wr'.heap.size + 1 + 1 ∧ i ≠ wr'.heap.size + 1 + 1 + 1 + 1) w W0 X0.out HL0.out HOH.out t5 t6 (by omega) D5.out D6.out ⟨by omega, by omega, by omega⟩ ⟨by omega, by omega, by omega⟩ (fun i hi => ⟨by omega, by omega, by omega⟩) (fun i hi => hi.1) hN hN') (fun i hi => hi.1) (by omega) (fun _ => rfl)
        (fun pre Wx => KR T R m (fun i => i < W0.heap.size ∧ i ≠ wr'.heap.size + 1 + 1 ∧ i ≠ wr'.heap.size + 1 + 1 + 1 + 1) W0 Wx ∧ Wx.heap[wr'.heap.size + 1 + 1]? = some (.cells (cellsB (sameAll T R y0 pre W)) 4 (0, 0)) ∧ FirstAt T R y0 W (W0.heap.size) (wr'.heap.size + 1 + 1 + 1 + 1) pre Wx)
        (fun _ _ _ => False)
        (fun s X Y h hk => ⟨h.1.weak hk (fun i hi _ => hi.1), hk.cells h.2.1 (by omega), h.2.2.km (h.1.memo X0.out.memo) hk (by omega)⟩)
        (fun c s X Y h hk => h)
        ⟨KR.refl _ _ _ _ _, by rw [sameAll_nil]; exact D2.out, FirstAt.nil D4.out⟩
        (AxBox m W0.heap.size (fun x => #[.int .i64 x.1, .int .i64 x.2]) 84 ?Fr)
        (fun x a' X Y h hk => h.keep hk)
        ?assign ?body ?done ?stop
       case assign =>
        rintro l2 pre x Wx K hI hK
        dsimp only [encP]
        gi_wp2
        refine hK _ _ ((KeepsOthers.alloc _ _).from _) ((KB.alloc T R m Wx _).round _) ⟨hI.1.step (KB.alloc T R m Wx _), (KB.alloc T R m Wx _).at hI.2.1 (by omega), hI.2.2.kb (hI.1.memo X0.out.memo) (KB.alloc T R m Wx _) (by omega)⟩ ⟨Wx.heap.size, by have := hI.1.size; omega, heap_alloc_new Wx _, hI.1.size, ?_⟩
        generalize Wx.heap.size = gg
        rfl
       case body =>
        rintro l2 pre ⟨xa, xb⟩ a' Wx hl2 hok hpre ⟨hK1, hS1, hF1⟩ ⟨gp, hgm, hgp, hgl, rfl⟩
        have hszl : wr'.heap.size + 7 ≤ W0.heap.size := by omega
        have hszr : W0.heap.size ≤ wr'.heap.size + 7 := by omega
        clear hsz
        obtain ⟨oa, oa', ob, ob'⟩ := hok
        dsimp only at oa oa' ob ob' hgp ⊢
        have HKx := zh hK1
        have HSx := zh hS1
        have HFx := zh hF1
        have HGx := zh hgp
        have hWxs := hK1.size
        have XCx := zh (hK1.ctx X0.out (fun i hi => ⟨by omega, by omega, by omega⟩))
        have B92x := zh (hK1.at B92c.out ⟨by omega, by omega, by omega⟩ hw1m)
        have D0x := zh (hK1.at D0.out ⟨by omega, by omega, by omega⟩ (by omega))
        have D1x := zh (hK1.at D1.out ⟨by omega, by omega, by omega⟩ (by omega))
        have D3x := zh (hK1.at D3.out ⟨by omega, by omega, by omega⟩ (by omega))
        have z0 : Wx.cell? ⟨w1.heap.size, 0, none⟩ = some (.int .i64 T) := vb B92x 0
        have z1 : Wx.cell? ⟨w1.heap.size, 1, none⟩ = some (.int .i64 O) := vb B92x 1
        have z2 : Wx.cell? ⟨w1.heap.size, 2, none⟩ = some (.int .i64 L) := vb B92x 2
        have z3 : Wx.cell? ⟨w1.heap.size, 3, none⟩ = some (.slice A R.length c) := vb B92x 3
        have z4 : Wx.cell? ⟨w1.heap.size, 4, none⟩ = some (.map (some m)) := vb B92x 4
        have z5 : Wx.cell? ⟨wr'.heap.size, 0, none⟩ = some (.int .i64 y0) := vb D0x 0
        have z6 : Wx.cell? ⟨gp, 0, none⟩ = some (.int .i64 xa) := vb HGx 0
        have z7 : Wx.cell? ⟨gp, 1, none⟩ = some (.int .i64 xb) := vb HGx 1
        have HSL := zh (strokes_width T R y0 xa xb)
        clear hK1 hS1 hF1 hgp
        gi_wp2_with (refine ⟨trivial, ?_⟩; gi_at_call 57; refine (CallsIn.inRound l2 (callsIn_wide.2 (strokes_calls T O L y0 xa xb A R c m w Wx XCx.out r0 r1 oa (by omega) ob (by omega)))).mono ?_; rintro e w5 ⟨v9, rfl, hs9, hm9, hk9⟩; have KB5 := zh (KB.mk hk9 (fun _ => hm9)); have HV9 := zh hs9; clear hs9 hm9 hk9; have e1 : w5.cell? ⟨wr'.heap.size + 1, 0, none⟩ = some (.int .i64 (W : Int)) := (blk_cell (KB5.out.at D1x.out (by omega)) 0).trans rfl)
        have hlenW : (strokes T R y0 xa xb).length = W := HSL.out.trans HW_.out
        have hv9 := HV9.out
        obtain ⟨A9, c9, rfl, hl9, hC9⟩ := Kd.R_reads hv9
        rw [hlenW] at hl9 hC9 hv9 ⊢
        obtain ⟨ad9, hA9, _⟩ := C_int_at hC9 0 (by omega)
        subst hA9
        clear HV9
        have HV9 := zh hv9
        have HS5 := zh (KB5.out.at HSx.out (by omega))
        have HF5 := zh (HFx.out.kb (HKx.out.memo X0.out.memo) KB5.out (by omega))
        have B16 := zh (KB5.out.at D3x.out (by omega))
        have h16l := blk_lt B16.out
        have hgsl := blk_lt HS5.out
        have hw5s := KB5.out.kp.size
        have hlenW' := zh hlenW
        clear hv9 hl9 hC9 z0 z1 z2 z3 z4 z5 z6 z7 hlenW
        cases pre with
        | nil =>
         have B17 := zh (HF5.out.1 rfl)
         gi_loopw [85] (fun u wr => ∃ k : Nat, k ≤ W ∧ u = .int .i64 (k : Int) ∧ Aside0 (KR T R m (fun i => i ≠ wr'.heap.size + 1 + 1) w5 wr) ∧ Aside0 (wr.heap[wr'.heap.size + 1 + 1]? = some (.cells (cellsB (sameRow T R y0 [] (xa, xb) W k)) 4 (0, 0)))) (fun u _ => W - (intOf u).toNat)
         case atStart => exact ⟨0, Nat.zero_le _, rfl, ⟨KR.refl _ _ _ _ _⟩, ⟨by rw [sameRow_zero]; exact HS5.out⟩⟩
         case round =>
          obtain ⟨k, hk, rfl, HKD, HSD⟩ := hrel
          have q16 : wr.cell? ⟨wr'.heap.size + 1 + 1 + 1, 0, none⟩ = some (.slice (some ⟨wr'.heap.size + 1 + 1, 0, none⟩) W W) := (blk_cell (HKD.out.at B16.out (show wr'.heap.size + 1 + 1 + 1 ≠ wr'.heap.size + 1 + 1 by omega) (by omega)) 0).trans rfl
          have B17r := zh (HKD.out.at B17.out (show wr'.heap.size + 1 + 1 + 1 + 1 ≠ wr'.heap.size + 1 + 1 by omega) (by omega))
          have q17 : wr.cell? ⟨wr'.heap.size + 1 + 1 + 1 + 1, 0, none⟩ = some (.slice none 0 0) := vb B17r 0
          by_cases hltk : k < W
          ·have hltk' : (k : Int) < (W : Int) := by omega
           have qs : wr.cell? ⟨wr'.heap.size + 1 + 1, k, none⟩ = some (.bool false) := (blk_cell HSD.out k).trans (cellsB_get (sameRow_get T R y0 [] (xa, xb) W k hltk))
           have qf := blk_frozen HSD.out k
           gi_wp2
           go_roundw
           case rel => exact ⟨k + 1, by omega, by go_num, ⟨HKD.out.set (.inl (fun h => h rfl)) (by omega) k _⟩, ⟨by rw [← sameRow_set T R y0 [] (xa, xb) W k hltk, ← cellsB_set]; exact blk_set HSD.out k _⟩⟩
           case measure => simp [intOf]; omega
          ·obtain rfl : k = W := by omega
           have hltk' : ¬ (k : Int) < (k : Int) := by omega
           have q17f := blk_frozen B17r.out 0
           gi_wp2
           exact ⟨(((KB5.out.round (fun _ => True)).keeps (fun _ _ _ => trivial) (by omega)).trans (HKD.out.keeps (fun i hi _ => by show i ≠ wr'.heap.size + 1 + 1; omega) (by omega))).trans ((KeepsOthers.setCell _ _ _).from _), ((KB5.out.round _).trans (HKD.out.mono (fun i hi _ => by show i ≠ wr'.heap.size + 1 + 1; rcases hi with h | h; exact h.2.1; omega))).set (.inl (by rintro (h | h); exact h.2.2 rfl; omega)) (by omega) 0 _, ((HKx.out.step KB5.out).trans (HKD.out.mono (fun i hi _ => hi.2.1))).set (.inl (fun h => h.2.2 rfl)) (by omega) 0 _, by rw [← (show sameRow T R y0 [] (xa, xb) k k = sameAll T R y0 [(xa, xb)] k from sameRow_all T R y0 [] (xa, xb) k)]; exact blk_far HSD.out (by show wr'.heap.size + 1 + 1 ≠ wr'.heap.size + 1 + 1 + 1 + 1; omega) _, ⟨fun e => absurd e (by simp), fun _ => ⟨ad9, c9, Boxed.set _ B17r.out, Kd.R_lower (Kd.R_mono (Kd.R_far (Kd.R_types (HKD.out.own (KB5.out.memo (HKx.out.memo X0.out.memo)) (fun i _ hi_ hq_ => by obtain ⟨cells, qq, hq, hc⟩ := hq_; show i ≠ wr'.heap.size + 1 + 1; rintro rfl; rw [HS5.out] at hc; cases hc; simp [Kd.int, Kd.scalar] at hq) HV9.out) B17r.out (by decide)) (fun k_ h_ => h_.2) _) (fun _ _ => trivial)) (by omega)⟩⟩⟩
        | cons q tl =>
         obtain ⟨adF, cF, hbF, hrF⟩ := HF5.out.2 (by simp)
         have B17 := zh hbF
         have HRF := zh hrF
         clear hbF hrF
         gi_loopw [85] (fun u wr => ∃ k : Nat, k ≤ W ∧ u = .int .i64 (k : Int) ∧ Aside0 (KR T R m (fun i => i ≠ wr'.heap.size + 1 + 1) w5 wr) ∧ Aside0 (wr.heap[wr'.heap.size + 1 + 1]? = some (.cells (cellsB (sameRow T R y0 (q :: tl) (xa, xb) W k)) 4 (0, 0)))) (fun u _ => W - (intOf u).toNat)
         case atStart => exact ⟨0, Nat.zero_le _, rfl, ⟨KR.refl _ _ _ _ _⟩, ⟨by rw [sameRow_zero]; exact HS5.out⟩⟩
         case round =>
          obtain ⟨k, hk, rfl, HKD, HSD⟩ := hrel
          have B16r := zh (HKD.out.at B16.out (show wr'.heap.size + 1 + 1 + 1 ≠ wr'.heap.size + 1 + 1 by omega) (by omega))
          have B17r := zh (HKD.out.at B17.out (show wr'.heap.size + 1 + 1 + 1 + 1 ≠ wr'.heap.size + 1 + 1 by omega) (by omega))
          have q17 : wr.cell? ⟨wr'.heap.size + 1 + 1 + 1 + 1, 0, none⟩ = some (.slice (some adF) W cF) := vb B17r 0
          by_cases hltk : k < W
          ·have hltk' : (k : Int) < (W : Int) := by omega
           gi_wp2
           have R9 := HKD.out.own (KB5.out.memo (HKx.out.memo X0.out.memo)) (fun i _ hi_ hq_ => by obtain ⟨cells, qq, hq, hc⟩ := hq_; show i ≠ wr'.heap.size + 1 + 1; rintro rfl; rw [HS5.out] at hc; cases hc; simp [Kd.int, Kd.scalar] at hq) HV9.out
           have RF := HKD.out.own (KB5.out.memo (HKx.out.memo X0.out.memo)) (fun i _ hi_ hq_ => by obtain ⟨cells, qq, hq, hc⟩ := hq_; show i ≠ wr'.heap.size + 1 + 1; rintro rfl; rw [HS5.out] at hc; cases hc; simp [Kd.int, Kd.scalar] at hq) HRF.out
           obtain ⟨ad9', ha9, hc9⟩ := C_int_at (Kd.R_reads' R9).2.2 k (by rw [hlenW'.out]; exact hltk)
           obtain ⟨adF', haF, hcF⟩ := C_int_at (Kd.R_reads' RF).2.2 k (by rw [strokes_width, HW_.out]; exact hltk)
           obtain rfl : ad9 = ad9' := Option.some.inj ha9
           obtain rfl : adF = adF' := Option.some.inj haF
           have hsn := sameAt_snoc T R y0 q tl (xa, xb) k
           have hgk := sameRow_get T R y0 (q :: tl) (xa, xb) W k hltk
           dsimp only [headP] at hcF
           dsimp only at hsn
           generalize (strokes T R y0 xa xb).getD k 0 = sk at hc9 hsn
           generalize (strokes T R y0 q.1 q.2).getD k 0 = fk at hcF hsn
           clear R9 RF ha9 haF
           have EKR := zh (HKD.out.step (KB.of_below (T := T) (R := R) (m := m) (below_drew1 (Below.refl wr.heap.size wr))))
           have ES := zh (show wr.drew.heap[wr'.heap.size + 1 + 1]? = _ from HSD.out)
           have E16 := zh (show wr.drew.heap[wr'.heap.size + 1 + 1 + 1]? = _ from B16r.out)
           have E17 := zh (show wr.drew.heap[wr'.heap.size + 1 + 1 + 1 + 1]? = _ from B17r.out)
           have ECs := zh (show wr.drew.cell? (ad9.add k) = _ from hc9)
           have ECf := zh (show wr.drew.cell? (adF.add k) = _ from hcF)
           clear hc9 hcF
           generalize hbk : sameAt T R y0 (q :: tl) k = bk at hsn hgk
           have HBK := zh hgk
           clear hgk hbk
           cases bk with
           | true =>
            have HNEW := zh (show sameAt T R y0 (q :: tl ++ [(xa, xb)]) k = (sk == fk) by rw [hsn, beq_dec, Bool.true_and])
            clear hsn
            refine start_in (n := 19) (S := fun w' => w'.cell? ⟨wr'.heap.size + 1 + 1 + 1, 0, none⟩ = some (.slice (some ⟨wr'.heap.size + 1 + 1, 0, none⟩) W W) ∧ w'.cell? ⟨wr'.heap.size + 1 + 1, k, none⟩ = some (.bool true) ∧ w'.cell? ⟨wr'.heap.size + 1 + 1 + 1 + 1, 0, none⟩ = some (.slice (some adF) W cF) ∧ w'.cell? (ad9.add k) = some (.int .i64 sk) ∧ w'.cell? (adF.add k) = some (.int .i64 fk)) (ds := [18]) #[false, false, false, false, false, false, false, false, false, false, false, false, false, false, false, false, false, false, false] zk rfl rfl zk dQ12 ⟨vb E16 0, (blk_cell ES.out k).trans (cellsB_get HBK.out), vb E17 0, ECs.out, ECf.out⟩ (fun hHeld => ?_)
            refine with_tabW fFil.tab28 fFil.bits28 (fun HT_ HW_ => ?_)
            generalize wr.drew = W2 at ES E16 E17 ECs ECf EKR hHeld ⊢
            refine zu 1 ?_
            refine zu 3 ?_
            refine zt 0 ?_
            refine zt 2 ?_
            refine zu 4 ?_
            refine zt 5 ?_
            refine zu 6 ?_
            refine zu 7 ?_
            refine zu 8 ?_
            refine zu 9 ?_
            refine zu 12 ?_
            refine zt 10 ?_
            refine zt 11 ?_
            refine zu 13 ?_
            refine zt 14 ?_
            refine zu 15 ?_
            refine zu 16 ?_
            refine zu 17 ?_
            refine zq 18 (fun K hK => ?_)
            have c0_ : W2.cell? ⟨wr'.heap.size + 1 + 1, k, none⟩ = some (.bool true) := (blk_cell ES.out k).trans (cellsB_get HBK.out)
            have d0_ := blk_frozen ES.out k
            refine skip_ (w1 := W2.setCell ⟨wr'.heap.size + 1 + 1, k, none⟩ (.bool (sk == fk))) (by rfl) rfl ?hrun_ ?_
            (case hrun_ => first | (go_simp; done) | (go_simp; rfl))
            refine hK.out _ _ ?_
            clear hK K
            refine zd ?_
            (try gi_wp2)
            go_roundw
            case rel => exact ⟨k + 1, by omega, by go_num, ⟨EKR.out.set (.inl (fun h => h rfl)) (by omega) k _⟩, ⟨by rw [← sameRow_set T R y0 (q :: tl) (xa, xb) W k hltk, ← cellsB_set, HNEW.out]; exact blk_set ES.out k _⟩⟩
            case measure => simp [intOf]; omega
           | false =>
            have HNEW := zh (show sameAt T R y0 (q :: tl ++ [(xa, xb)]) k = false by rw [hsn, Bool.false_and])
            clear hsn
            refine start_in (n := 19) (S := fun w' => w'.cell? ⟨wr'.heap.size + 1 + 1 + 1, 0, none⟩ = some (.slice (some ⟨wr'.heap.size + 1 + 1, 0, none⟩) W W) ∧ w'.cell? ⟨wr'.heap.size + 1 + 1, k, none⟩ = some (.bool false) ∧ w'.cell? ⟨wr'.heap.size + 1 + 1 + 1 + 1, 0, none⟩ = some (.slice (some adF) W cF) ∧ w'.cell? (ad9.add k) = some (.int .i64 sk) ∧ w'.cell? (adF.add k) = some (.int .i64 fk)) (ds := [18]) #[false, false, false, false, false, false, false, false, false, false, false, false, false, false, false, false, false, false, false] zk rfl rfl zk dQ12 ⟨vb E16 0, (blk_cell ES.out k).trans (cellsB_get HBK.out), vb E17 0, ECs.out, ECf.out⟩ (fun hHeld => ?_)
            refine with_tabW fFil.tab28 fFil.bits28 (fun HT_ HW_ => ?_)
            generalize wr.drew = W2 at ES E16 E17 ECs ECf EKR hHeld ⊢
            refine zu 1 ?_
            refine zu 3 ?_
            refine zt 0 ?_
            refine zt 2 ?_
            refine zu 4 ?_
            refine zt 5 ?_
            refine zu 6 ?_
            refine zn 7 ?_
            refine zn 8 ?_
            refine zn 9 ?_
            refine zn 12 ?_
            refine take_ (i := 10) (N := some 103) (v := undef) (a' := ?_) #[true, true, true, true, true, true, true, true, true, true, true, false, true, false, false, false, false, false, false] rfl rfl (take_ofW HT_.out HW_.out zk) (fun _ _ _ h => h) (Or.inr ⟨by rfl, rfl⟩) hHeld ?_ ?_
            rotate_left
            ·simp only [Act.put, List.setIfInBounds_toArray, List.set_cons_zero, List.set_cons_succ, i64_w, i32_w]
             rfl
            refine take_ (i := 11) (N := some 104) (v := undef) (a' := ?_) #[true, true, true, true, true, true, true, true, true, true, true, true, true, false, false, false, false, false, false] rfl rfl (take_ofW HT_.out HW_.out zk) (fun _ _ _ h => h) (Or.inr ⟨by rfl, rfl⟩) hHeld ?_ ?_
            rotate_left
            ·simp only [Act.put, List.setIfInBounds_toArray, List.set_cons_zero, List.set_cons_succ, i64_w, i32_w]
             rfl
            refine zn 13 ?_
            refine take_ (i := 14) (N := some 107) (v := undef) (a' := ?_) #[true, true, true, true, true, true, true, true, true, true, true, true, true, true, true, false, false, false, false] rfl rfl (take_ofW HT_.out HW_.out zk) (fun _ _ _ h => h) (Or.inr ⟨by rfl, rfl⟩) hHeld ?_ ?_
            rotate_left
            ·simp only [Act.put, List.setIfInBounds_toArray, List.set_cons_zero, List.set_cons_succ, i64_w, i32_w]
             rfl
            refine zn 15 ?_
            refine zu 16 ?_
            refine zu 17 ?_
            refine zq 18 (fun K hK => ?_)
            have c0_ : W2.cell? ⟨wr'.heap.size + 1 + 1, k, none⟩ = some (.bool false) := (blk_cell ES.out k).trans (cellsB_get HBK.out)
            have d0_ := blk_frozen ES.out k
            refine skip_ (w1 := W2.setCell ⟨wr'.heap.size + 1 + 1, k, none⟩ (.bool false)) (by rfl) rfl ?hrun_ ?_
            (case hrun_ => first | (go_simp; done) | (go_simp; rfl))
            refine hK.out _ _ ?_
            clear hK K
            refine zd ?_
            (try gi_wp2)
            go_roundw
            case rel => exact ⟨k + 1, by omega, by go_num, ⟨EKR.out.set (.inl (fun h => h rfl)) (by omega) k _⟩, ⟨by rw [← sameRow_set T R y0 (q :: tl) (xa, xb) W k hltk, ← cellsB_set, HNEW.out]; exact blk_set ES.out k _⟩⟩
            case measure => simp [intOf]; omega
          ·obtain rfl : k = W := by omega
           have hltk' : ¬ (k : Int) < (k : Int) := by omega
           gi_wp2
           exact ⟨(((KB5.out.round (fun _ => True)).keeps (fun _ _ _ => trivial) (by omega)).trans (HKD.out.keeps (fun i hi _ => by show i ≠ wr'.heap.size + 1 + 1; omega) (by omega))), (KB5.out.round _).trans (HKD.out.mono (fun i hi _ => by show i ≠ wr'.heap.size + 1 + 1; rcases hi with h | h; exact h.2.1; omega)), (HKx.out.step KB5.out).trans (HKD.out.mono (fun i hi _ => hi.2.1)), by rw [← (show sameRow T R y0 (q :: tl) (xa, xb) k k = sameAll T R y0 (q :: (tl ++ [(xa, xb)])) k from sameRow_all T R y0 (q :: tl) (xa, xb) k)]; exact HSD.out, ⟨fun e => absurd e (by simp), fun _ => ⟨adF, cF, B17r.out, HKD.out.own (KB5.out.memo (HKx.out.memo X0.out.memo)) (fun i _ hi_ hq_ => by obtain ⟨cells, qq, hq, hc⟩ := hq_; show i ≠ wr'.heap.size + 1 + 1; rintro rfl; rw [HS5.out] at hc; cases hc; simp [Kd.int, Kd.scalar] at hq) HRF.out⟩⟩⟩
       case done =>
        rintro D Wx hD ⟨hK1, hS1, hF1⟩ hKd
        have hszl : wr'.heap.size + 7 ≤ W0.heap.size := by omega
        have hszr : W0.heap.size ≤ wr'.heap.size + 7 := by omega
        clear hsz
        have HKx := zh hK1
        have HSx := zh hS1
        have HFx := zh hF1
        have HD := zh hKd
        have hWxs := hK1.size
        have XX := zh (hK1.ctx X0.out (fun i hi => ⟨by omega, by omega, by omega⟩))
        have Brx := zh (hK1.at B92c.out ⟨by omega, by omega, by omega⟩ hw1m)
        have D1x := zh (hK1.at D1.out ⟨by omega, by omega, by omega⟩ (by omega))
        have D3x := zh (hK1.at D3.out ⟨by omega, by omega, by omega⟩ (by omega))
        have HOx := zh (hK1.own (ok := fun k => w.heap.size ≤ k ∧ k < wr'.heap.size) X0.out.memo (fun i hi _ _ => ⟨by omega, by omega, by omega⟩) (R_kept XC.out.memo KA.out.kp (Kd.R_mono (Kd.R_bound HO.out) (fun k hk => ⟨hk.1, hk.2.2.1⟩))))
        have HRx := zh (Rows.step HRows.out (w' := Wx) (fun j hj hl hc => by
         obtain ⟨cs, hcs⟩ := hc
         have hne : (G[j]).1 ≠ m := by intro e_; rw [e_] at hcs; exact XC.out.memo.no_cells hcs
         exact (hK1.at (KA.out.at hcs hne) ⟨by omega, by omega, by omega⟩ hne).trans hcs.symm))
        have hgil : gi < wr'.heap.size := by
         obtain ⟨cs, hcs⟩ := HRows.out.block hiG hlti
         rw [HGI.out] at hcs
         exact blk_lt hcs
        have hgib : w.heap.size ≤ gi := Kd.R_base HROW.out gi rfl
        have hgim : gi ≠ m := by
         obtain ⟨cs, hcs⟩ := HRows.out.block hiG hlti
         rw [HGI.out] at hcs
         rintro rfl
         exact XC.out.memo.no_cells hcs
        have hmark : ∀ D', w2.heap.size ≤ D' → wr'.heap[D']? = some (.deferred (some [])) → Wx.heap[D']? = some (.deferred (some [])) := fun D' h1 h2 => by
         have h3 := blk_lt h2
         exact hK1.at (KA.out.at h2 (by omega)) ⟨by omega, by omega, by omega⟩ (by omega)
        have hfresh : ∀ e ∈ ds, e ≠ ({ target := .collected D, args := #[] } : Deferred) := fun e he hed => by
         obtain ⟨D', rfl, h1, h2⟩ := HM.out.mem he
         have h3 := blk_lt h2
         injection hed with h4 _
         injection h4 with h5
         omega
        have HMx := zh (show Marks w2.heap.size ({ target := .collected D, args := #[] } :: ds) Wx from ⟨⟨D, rfl, by omega, HD.out, hfresh⟩, HM.out.keep (fun D' h1 h2 _ => hmark D' h1 h2)⟩)
        obtain ⟨pw, hpw⟩ : ∃ pw : Nat, (p : Int) * (W : Int) = (pw : Int) := ⟨p * W, by simp⟩
        have hpwN : pw = p * W := by (have : ((pw : Nat) : Int) = ((p * W : Nat) : Int) := by (rw [← hpw]; simp)); omega
        have hpn : pw + W ≤ ni := by
         rw [hpwN, HNIW.out]
         have : (p + 1) * W ≤ n * W := Nat.mul_le_mul (by omega) (Nat.le_refl _)
         rw [Nat.succ_mul] at this
         exact this
        have HFV := zh (fun (k : Nat) (hk : k < W) => (show fillV T O R hs hs[i] (pw + k) = if hs[i].f1.getD (pw + k) 0 = -2 then (if sameAt T R y0 (choices T O R hs (p : Int)) k = true then (strokes T R y0 (headP (choices T O R hs (p : Int))).1 (headP (choices T O R hs (p : Int))).2).getD k 0 else -2) else hs[i].f1.getD (pw + k) 0 by
         have h := fillV_at T O R hs hs[i] p k (by rw [HY0.out, HW_.out]; exact hk)
         rw [HY0.out, HW_.out, ← hpwN] at h
         exact h))
        have HRx2 := zh (HRx.out.cong (m' := mK R hs p i pw 0) (fun j => by
         unfold mK
         split
         ·rename_i e_
          subst e_
          unfold mAt
          rw [if_neg (Nat.lt_irrefl _), List.getElem?_eq_getElem hlti]
          show p * width (regAt R hs[j].f0) = _
          rw [HY0.out, HW_.out, hpwN, Nat.add_zero]
         ·rfl))
        have HPW := zh hpwN
        clear hK1 hS1 hF1 hKd hmark hfresh HRx hpwN
        have q1 : Wx.cell? ⟨wr'.heap.size + 1, 0, none⟩ = some (.int .i64 (W : Int)) := vb D1x 0
        gi_wp2
        clear q1
        gi_loopw [116] (fun u wr => ∃ k : Nat, k ≤ W ∧ u = .int .i64 (k : Int) ∧ Aside0 (KR T R m (fun i_ => i_ ≠ gi) Wx wr) ∧ Aside0 (Rows T O R hs G w.heap.size (mK R hs p i pw k) wr)) (fun u _ => W - (intOf u).toNat)
        case atStart => exact ⟨0, Nat.zero_le _, rfl, ⟨KR.refl _ _ _ _ _⟩, HRx2⟩
        case round =>
         obtain ⟨k, hk, rfl, HKE, HRr⟩ := hrel
         have q1 : wr.cell? ⟨wr'.heap.size + 1, 0, none⟩ = some (.int .i64 (W : Int)) := (blk_cell (HKE.out.at D1x.out (show wr'.heap.size + 1 ≠ gi by omega) (by omega)) 0).trans rfl
         by_cases hltk : k < W
         ·have hltk' : (k : Int) < (W : Int) := by omega
          have hb1 : (0 : Int) ≤ (pw : Int) + (k : Int) := by omega
          have hb2 : (pw : Int) + (k : Int) < (ni : Int) := by omega
          have hb3 : ((pw : Int) + (k : Int)).toNat = pw + k := by omega
          have hml : pw + k < hs[i].f1.length := by rw [← HNI.out]; omega
          have hrow := HRr.out i hiG hlti
          have hmk : mK R hs p i pw k i = pw + k := by unfold mK; rw [if_pos rfl]
          rw [HGI.out, hmk] at hrow
          have hrowc : wr.cell? ⟨gi, pw + k, none⟩ = some (.int .i64 (hs[i].f1.getD (pw + k) 0)) := by
           obtain ⟨ad_, ha_, hc_⟩ := C_int_at (Kd.R_reads' hrow).2.2 (pw + k) (by rw [fillTo_len]; exact hml)
           obtain rfl := Option.some.inj ha_
           rw [fillTo_get T O R hs hs[i] (pw + k) hml] at hc_
           rw [cell_add0] at hc_
           exact hc_
          have hfv := HFV.out k hltk
          have hset := fillTo_set T O R hs hs[i] (pw + k) hml
          have hsame := fillTo_same T O R hs hs[i] (pw + k) hml
          have HROWk := zh hrow
          have hRnext : ∀ (w' : World), Kd.R (Kd.int .i64) 3 w' w.heap.size (fun k_ => k_ = gi) (.slice (some ⟨gi, 0, none⟩) ni ci) (fillTo T O R hs hs[i] (pw + k + 1)) → (∀ b, b ≠ gi → b < wr.heap.size → w'.heap[b]? = wr.heap[b]?) → Rows T O R hs G w.heap.size (mK R hs p i pw (k + 1)) w' := fun w' hr hm j hj hj' => by
           by_cases hji : j = i
           ·subst hji
            rw [HGI.out, show mK R hs p j pw (k + 1) j = pw + k + 1 from by unfold mK; rw [if_pos rfl, Nat.add_assoc]]
            exact hr
           ·have e_ : mK R hs p i pw (k + 1) j = mK R hs p i pw k j := by unfold mK; rw [if_neg hji, if_neg hji]
            rw [e_]
            refine Kd.R_mono (Kd.R_step (HRr.out j hj hj') (fun b hb hl => hm b ?_ hl)) (fun _ h => h)
            rw [hb]
            intro h_
            have h1 : (G[j]).1 = (G[i]).1 := by rw [h_, HGI.out]
            exact hji (nodup_at HND.out (by simpa using hj) (by simpa using hiG) (by simpa using h1))
          have HNX := zh hRnext
          clear hrow hRnext
          generalize hs[i].f1.getD (pw + k) 0 = rk at hrowc hfv hsame
          have HFVk := zh hfv
          have HSET := zh hset
          have HSAME := zh hsame
          clear hfv hset hsame hmk
          obtain ⟨csr, hcsr⟩ := HRr.out.block hiG hlti
          rw [HGI.out] at hcsr
          have qf := blk_frozen hcsr (pw + k)
          have qs := (blk_cell (HKE.out.at HSx.out (show wr'.heap.size + 1 + 1 ≠ gi by omega) (by omega)) k).trans (cellsB_get (sameAll_get T R y0 (choices T O R hs (p : Int)) W k hltk))
          have q16 : wr.cell? ⟨wr'.heap.size + 1 + 1 + 1, 0, none⟩ = some (.slice (some ⟨wr'.heap.size + 1 + 1, 0, none⟩) W W) := (blk_cell (HKE.out.at D3x.out (show wr'.heap.size + 1 + 1 + 1 ≠ gi by omega) (by omega)) 0).trans rfl
          clear hcsr
          by_cases hr2 : rk = -2
          ·subst hr2
           cases hsm : sameAt T R y0 (choices T O R hs (p : Int)) k with
           | true =>
            rw [hsm] at qs
            have hne : choices T O R hs (p : Int) ≠ [] := by intro e_; rw [e_] at hsm; cases hsm
            obtain ⟨adF, cF, hbF, hrF⟩ := HFx.out.2 hne
            have q17 : wr.cell? ⟨wr'.heap.size + 1 + 1 + 1 + 1, 0, none⟩ = some (.slice (some adF) W cF) := (HKE.out.at (show Wx.heap[wr'.heap.size + 1 + 1 + 1 + 1]? = _ from hbF) (show wr'.heap.size + 1 + 1 + 1 + 1 ≠ gi by omega) (by omega) |> fun h => (blk_cell h 0).trans rfl)
            have hrF2 := HKE.out.own (ok := fun b => W0.heap.size ≤ b) XX.out.memo (fun b hb _ _ => by show b ≠ gi; omega) (Kd.R_mono (Kd.R_bound hrF) (fun b hb => hb.2.1))
            obtain ⟨adF', haF, hcF⟩ := C_int_at (Kd.R_reads' hrF2).2.2 k (by rw [strokes_width, HW_.out]; exact hltk)
            obtain rfl := Option.some.inj haF
            have HFK := zh (HFVk.out.trans (by rw [if_pos rfl, if_pos hsm]))
            generalize (strokes T R y0 (headP (choices T O R hs (p : Int))).1 (headP (choices T O R hs (p : Int))).2).getD k 0 = fk at hcF HFK
            clear hsm hne hbF hrF hrF2 haF
            gi_wp2
            go_roundw
            case rel => exact ⟨k + 1, by omega, by go_num, ⟨HKE.out.set (.inl (fun h => h rfl)) (by omega) _ _⟩, ⟨HNX.out _ (by rw [← HSET.out, HFK.out]; exact R_put HROWk.out _ _) (fun b hb _ => Below.heap_setCell _ _ _ b hb)⟩⟩
            case measure => simp [intOf]; omega
           | false =>
            rw [hsm] at qs
            have HFK := zh (HFVk.out.trans (by rw [if_pos rfl, if_neg (by rw [hsm]; simp)]))
            clear hsm
            gi_wp2
            go_roundw
            case rel => exact ⟨k + 1, by omega, by go_num, HKE, ⟨HNX.out _ (by rw [HSAME.out HFK.out]; exact HROWk.out) (fun b hb _ => rfl)⟩⟩
            case measure => simp [intOf]; omega
          ·have hrb : (rk == -2) = false := beq_eq_false_iff_ne.2 hr2
           have HFK := zh (HFVk.out.trans (by rw [if_neg hr2]))
           clear hr2
           gi_wp2
           go_roundw
           case rel => exact ⟨k + 1, by omega, by go_num, HKE, ⟨HNX.out _ (by rw [HSAME.out HFK.out]; exact HROWk.out) (fun b hb _ => rfl)⟩⟩
           case measure => simp [intOf]; omega
         ·obtain rfl : k = W := by omega
          have hltk' : ¬ (k : Int) < (k : Int) := by omega
          gi_wp2
          have HRn := zh (HRr.out.cong (m' := mAt R hs p (i + 1)) (fun j => by
           unfold mK
           split
           ·rename_i e_
            subst e_
            unfold mAt
            rw [if_pos (Nat.lt_succ_self _), List.getElem?_eq_getElem hlti]
            show _ = (p + 1) * width (regAt R hs[j].f0)
            rw [HY0.out, HW_.out, HPW.out, Nat.succ_mul]
           ·rename_i e_
            unfold mAt
            by_cases hj : j < i
            ·rw [if_pos hj, if_pos (by omega)]
            ·rw [if_neg hj, if_neg (by omega)]))
          refine LoopEndU.mk ?hA ?rel (by simp [intOf]; omega)
          case hA => kernel_rfl
          case rel =>
           exact ⟨i + 1, rfl, by omega, HRn, ⟨HMx.out.keep (fun D' h1 h2 _ => HKE.out.at h2 (show D' ≠ gi by rintro rfl; obtain ⟨cs_, hcs_⟩ := HRx2.out.block hiG hlti; rw [HGI.out, h2] at hcs_; cases hcs_) (by omega))⟩, ⟨HKE.out.ctx XX.out (fun b hb => by show b ≠ gi; omega)⟩, ⟨HKE.out.at Brx.out (show w1.heap.size ≠ gi by rintro e_; obtain ⟨cs_, hcs_⟩ := HRx2.out.block hiG hlti; rw [HGI.out, ← e_, Brx.out] at hcs_; cases hcs_) hw1m⟩, ⟨Kd.R_mono (HKE.out.own XX.out.memo (fun b _ _ hq_ => by obtain ⟨cells, qq, hq, hc⟩ := hq_; show b ≠ gi; rintro rfl; obtain ⟨cs_, hcs_⟩ := HRx2.out.block hiG hlti; rw [HGI.out] at hcs_; rw [hcs_] at hc; cases hc; simp [KS, Kd.scalar] at hq) HOx.out) (fun b hb => hb.1)⟩, by have := HKE.out.size; omega⟩
       case stop =>
        rintro D c pre Wx hD hpre h hKd
        exact h.elim
      ·obtain rfl : i = hs.length := by omega
       have hlti' : ¬ (hs.length : Int) < (hs.length : Int) := by omega
       gi_wp2
       refine LoopEndU.mk ?hA ?rel (by simp [intOf]; omega)
       case hA => kernel_rfl
       case rel => exact ⟨p + 1, rfl, by omega, ⟨HRows.out.cong2 (fun j hj => by unfold mAt; rw [if_pos hj, if_neg (Nat.not_lt_zero _)])⟩, HM, XC, Br, HO, hwr⟩
    ·obtain rfl : p = n := by omega
     have hltp' : ¬ (p : Int) < (p : Int) := by omega
     have hGl3 := HGL.out
     obtain ⟨gO, cap, rfl, hg1, hg2, cells, hg3⟩ := Kd.R_form HO.out (by omega)
     have hcp : ((G.length : Nat) : Int) ≤ (cap : Int) := by have := (Kd.R_reads' HO.out).2.1; omega
     have h00 : (0 : Int) ≤ (G.length : Int) := by omega
     have hle : (G.length : Int) ≤ (G.length : Int) := by omega
     have htn : ((G.length : Int)).toNat = G.length := by omega
     clear hg3 hGl3 hub
     gi_wp2
     have hmx := XC.out.memo
     refine leave_marks (T := T) (R := R) hmlo ds _ HM.out (fun w' hkm => ?_)
     have HOz := hkm.own hmx HO.out
     have HRz := Rows.step HRows.out (w' := w') (fun j hj hl hc => by
      obtain ⟨cs, hcs⟩ := hc
      exact (hkm.cells hcs (by intro e_; rw [e_] at hcs; exact hmx.no_cells hcs)).trans hcs.symm)
     refine ⟨_, results_tmp2 rfl _ _ _, _, rfl, ?_, below_km XC.out.base hkm XC.out.hm (by omega)⟩
     have hGl3 := HGL.out
     have hml : (hs.map (fillOf T O R hs)).length = G.length := by rw [List.length_map, hGl3]
     refine ⟨some ⟨gO, 0, none⟩, G.length, by rw [hml]; rfl, by rw [hml]; exact Nat.le_refl _, ?_⟩
     intro W' hW'
     have h1 := (Kd.R_reads' (Kd.R_step HOz hW')).2.2
     rw [hml]
     refine rows_C (base := w.heap.size) (ok := fun j k => k = (G.getD j (0, 0, 0)).1) h1 hml (fun j hj hj' => ?_)
     have hjh : j < hs.length := by rw [List.length_map] at hj'; exact hj'
     have hr := HRz j hj hjh
     have hb := Kd.R_base hr (G[j]).1 rfl
     have e1 : mAt R hs p 0 j = hs[j].f1.length := by
      unfold mAt
      rw [if_neg (Nat.not_lt_zero _), List.getElem?_eq_getElem hjh]
      have hf := (HEL.out j hjh).2.2.1
      rw [hn] at hf
      show p * width (regAt R hs[j].f0) = _
      have : ((p * width (regAt R hs[j].f0) : Nat) : Int) = (hs[j].f1.length : Int) := by rw [hf]; simp
      omega
     rw [e1, fillTo_all] at hr
     rw [List.getElem_map]
     have e2 : (G.getD j (0, 0, 0)) = G[j] := by rw [List.getD_eq_getElem?_getD, List.getElem?_eq_getElem hj]; rfl
     rw [e2]
     exact Kd.R_step hr (fun k hk hl => hW' k (by rw [hk]; exact hb) hl)
end Go.Proofs.YtagkfkdoibnhfaaDoor.K
end
section
namespace Go.Proofs.YtagkfkdoibnhfaaDoor.K
open Go.RowKit Go.Proofs.YtagkfkdoibnhfaaDoorW.PrintWords Go.Proofs.YtagkfkdoibnhfaaDoorW.PrintMore Go.Proofs.YtagkfkdoibnhfaaDoor.H
set_option linter.unusedVariables false
def kernel_Part.f (a0_0 : Int) (a0_1 : Int) (a0_2 : Int) (l0_3 : List (S66)) (l1 : List Int) (a2 : Int) : Option (List Int × Int) := some (Part a0_0 a0_1 a0_2 l0_3 l1 a2)
theorem kernel_Part.calls (a0_0 : Int) (a0_1 : Int) (a0_2 : Int) (A0_3 : Option Addr) (c0_3 : Nat) (l0_3 : List (S66)) (A1 : Option Addr) (c1 : Nat) (l1 : List Int) (a2 : Int) (r1 : List Int) (r2 : Int) (w : World) (hr0_3 : Kd.C k66 w A0_3 l0_3.length l0_3) (hc0_3 : l0_3.length ≤ c0_3) (hr1 : Kd.C (Kd.int .i64) w A1 l1.length l1) (hc1 : l1.length ≤ c1) (hG : Glob w) (h : kernel_Part.f a0_0 a0_1 a0_2 l0_3 l1 a2 = some (r1, r2)) :
  Calls Tryd.prog 16 #[.agg #[.int .i64 a0_0, .int .i64 a0_1, .int .i64 a0_2, .slice A0_3 l0_3.length c0_3], .slice A1 l1.length c1, .int .i64 a2] w fun e w' => ∃ v0_ : Value, e = .returned (.tuple #[v0_, .int .i64 r2]) ∧ Kd.V (Kd.int .i64) 3 w' w.heap.size (fun k_ => w.heap.size ≤ k_) v0_ r1 ∧ Below w.heap.size w w' := by
 unfold kernel_Part.f Part at h
 cases h1 : okScale a0_0 a0_1 a0_2 l0_3 with
 | false =>
  rw [h1] at h
  simp at h
  obtain ⟨rfl, rfl⟩ := h
  exact (part_bad _ _ _ _ _ _ _ _ _ _ _ hr0_3 hc0_3 hr1 hG 60 (by omega) (.inl ⟨h1, rfl⟩)).mono fun _ _ h => h
 | true =>
  cases h2 : okPart a0_0 a0_1 a0_2 l0_3 l1 a2 with
  | false =>
   rw [h1, h2] at h
   simp at h
   obtain ⟨rfl, rfl⟩ := h
   exact (part_bad _ _ _ _ _ _ _ _ _ _ _ hr0_3 hc0_3 hr1 hG 61 (by omega) (.inr ⟨h1, h2, rfl⟩)).mono fun _ _ h => h
  | true =>
   rw [h1, h2] at h
   simp at h
   obtain ⟨rfl, rfl⟩ := h
   exact (part_ok _ _ _ _ _ _ _ _ _ _ _ hr0_3 hc0_3 hr1 hG h1 h2).mono fun _ _ h => h
def kernel_Many.f (a0_0 : Int) (a0_1 : Int) (a0_2 : Int) (l0_3 : List (S66)) (l1 : List (S60)) : Option (Int × Int) := some (Many a0_0 a0_1 a0_2 l0_3 l1)
theorem kernel_Many.calls (a0_0 : Int) (a0_1 : Int) (a0_2 : Int) (A0_3 : Option Addr) (c0_3 : Nat) (l0_3 : List (S66)) (A1 : Option Addr) (c1 : Nat) (l1 : List (S60)) (r1 : Int) (r2 : Int) (w : World) (hr0_3 : Kd.C k66 w A0_3 l0_3.length l0_3) (hc0_3 : l0_3.length ≤ c0_3) (hr1 : Kd.C k60 w A1 l1.length l1) (hc1 : l1.length ≤ c1) (hG : Glob w) (h : kernel_Many.f a0_0 a0_1 a0_2 l0_3 l1 = some (r1, r2)) :
  Calls Tryd.prog 22 #[.agg #[.int .i64 a0_0, .int .i64 a0_1, .int .i64 a0_2, .slice A0_3 l0_3.length c0_3], .slice A1 l1.length c1] w fun e w' => e = .returned (.tuple #[.int .i64 r1, .int .i64 r2]) ∧ Below w.heap.size w w' := by
 unfold kernel_Many.f Many at h
 cases h1 : okScale a0_0 a0_1 a0_2 l0_3 with
 | false =>
  rw [h1] at h
  simp at h
  obtain ⟨rfl, rfl⟩ := h
  exact many_bad _ _ _ _ _ _ _ _ _ _ hr0_3 hc0_3 hr1 hG 60 (by omega) (.inl ⟨h1, rfl⟩)
 | true =>
  cases h2 : okHeard a0_2 l0_3 l1 with
  | false =>
   rw [h1, h2] at h
   simp at h
   obtain ⟨rfl, rfl⟩ := h
   exact many_bad _ _ _ _ _ _ _ _ _ _ hr0_3 hc0_3 hr1 hG 61 (by omega) (.inr ⟨h1, h2, rfl⟩)
  | true =>
   cases h3 : canAll a0_0 a0_1 a0_2 l0_3 l1 with
   | false =>
    rw [h1, h2, h3] at h
    simp at h
    obtain ⟨rfl, rfl⟩ := h
    exact many_none _ _ _ _ _ _ _ _ _ _ hr0_3 hc0_3 hr1 hG h1 h2 h3
   | true =>
    rw [h1, h2, h3] at h
    simp at h
    obtain ⟨rfl, rfl⟩ := h
    exact many_good _ _ _ _ _ _ _ _ _ _ hr0_3 hc0_3 hr1 hG h1 h2 h3
def kernel_Can.f (a0_0 : Int) (a0_1 : Int) (a0_2 : Int) (l0_3 : List (S66)) (l1 : List (S60)) (a2 : Int) : Option (List Int × Int) := some (Can a0_0 a0_1 a0_2 l0_3 l1 a2)
theorem kernel_Can.calls (a0_0 : Int) (a0_1 : Int) (a0_2 : Int) (A0_3 : Option Addr) (c0_3 : Nat) (l0_3 : List (S66)) (A1 : Option Addr) (c1 : Nat) (l1 : List (S60)) (a2 : Int) (r1 : List Int) (r2 : Int) (w : World) (hr0_3 : Kd.C k66 w A0_3 l0_3.length l0_3) (hc0_3 : l0_3.length ≤ c0_3) (hr1 : Kd.C k60 w A1 l1.length l1) (hc1 : l1.length ≤ c1) (hG : Glob w) (h : kernel_Can.f a0_0 a0_1 a0_2 l0_3 l1 a2 = some (r1, r2)) :
  Calls Tryd.prog 24 #[.agg #[.int .i64 a0_0, .int .i64 a0_1, .int .i64 a0_2, .slice A0_3 l0_3.length c0_3], .slice A1 l1.length c1, .int .i64 a2] w fun e w' => ∃ v0_ : Value, e = .returned (.tuple #[v0_, .int .i64 r2]) ∧ Kd.V (Kd.int .i64) 3 w' w.heap.size (fun k_ => w.heap.size ≤ k_) v0_ r1 ∧ Below w.heap.size w w' := by
 unfold kernel_Can.f Can at h
 by_cases he : askedErr a0_0 a0_1 a0_2 l0_3 l1 (decide (0 ≤ a2) && decide (a2 < a0_2)) = 0
 ·rw [if_pos he] at h
  simp only [Option.some.injEq, Prod.mk.injEq] at h
  obtain ⟨rfl, rfl⟩ := h
  exact (canat_ok _ _ _ _ _ _ _ _ _ _ _ hr0_3 hc0_3 hr1 hG he).mono fun _ _ h => h
 ·rw [if_neg he] at h
  simp only [Option.some.injEq, Prod.mk.injEq] at h
  obtain ⟨rfl, rfl⟩ := h
  exact (canat_bad _ _ _ _ _ _ _ _ _ _ _ hr0_3 hc0_3 hr1 hG he).mono fun _ _ h => ⟨_, h.1, Kd.V_nil _ _ _ _ _, h.2⟩
def kernel_Won.f (a0_0 : Int) (a0_1 : Int) (a0_2 : Int) (l0_3 : List (S66)) (l1 : List (S60)) : Option (List Int × Int) := some (Won a0_0 a0_1 a0_2 l0_3 l1)
theorem kernel_Won.calls (a0_0 : Int) (a0_1 : Int) (a0_2 : Int) (A0_3 : Option Addr) (c0_3 : Nat) (l0_3 : List (S66)) (A1 : Option Addr) (c1 : Nat) (l1 : List (S60)) (r1 : List Int) (r2 : Int) (w : World) (hr0_3 : Kd.C k66 w A0_3 l0_3.length l0_3) (hc0_3 : l0_3.length ≤ c0_3) (hr1 : Kd.C k60 w A1 l1.length l1) (hc1 : l1.length ≤ c1) (hG : Glob w) (h : kernel_Won.f a0_0 a0_1 a0_2 l0_3 l1 = some (r1, r2)) :
  Calls Tryd.prog 26 #[.agg #[.int .i64 a0_0, .int .i64 a0_1, .int .i64 a0_2, .slice A0_3 l0_3.length c0_3], .slice A1 l1.length c1] w fun e w' => ∃ v0_ : Value, e = .returned (.tuple #[v0_, .int .i64 r2]) ∧ Kd.V (Kd.int .i64) 3 w' w.heap.size (fun k_ => w.heap.size ≤ k_) v0_ r1 ∧ Below w.heap.size w w' := by
 unfold kernel_Won.f Won at h
 by_cases he : askedErr a0_0 a0_1 a0_2 l0_3 l1 true = 0
 ·rw [if_pos he] at h
  have hw := won_ok a0_0 a0_1 a0_2 A0_3 l0_3 c0_3 A1 c1 l1 w hr0_3 hc0_3 hr1 hG he
  unfold wonL wonE at hw
  split at h
  ·rename_i hs
   simp only [Option.some.injEq, Prod.mk.injEq] at h
   obtain ⟨rfl, rfl⟩ := h
   rw [if_pos hs, if_pos hs] at hw
   exact hw.mono fun _ _ h => h
  ·rename_i hs
   simp only [Option.some.injEq, Prod.mk.injEq] at h
   obtain ⟨rfl, rfl⟩ := h
   rw [if_neg hs, if_neg hs] at hw
   exact hw.mono fun _ _ h => h
 ·rw [if_neg he] at h
  simp only [Option.some.injEq, Prod.mk.injEq] at h
  obtain ⟨rfl, rfl⟩ := h
  exact (won_bad _ _ _ _ _ _ _ _ _ _ hr0_3 hc0_3 hr1 hG he).mono fun _ _ h => h
def kernel_Filled.f (a0_0 : Int) (a0_1 : Int) (a0_2 : Int) (l0_3 : List (S66)) (l1 : List (S60)) : Option (List (List Int) × Int) := some (Filled a0_0 a0_1 a0_2 l0_3 l1)
theorem kernel_Filled.calls (a0_0 : Int) (a0_1 : Int) (a0_2 : Int) (A0_3 : Option Addr) (c0_3 : Nat) (l0_3 : List (S66)) (A1 : Option Addr) (c1 : Nat) (l1 : List (S60)) (r1 : List (List Int)) (r2 : Int) (w : World) (hr0_3 : Kd.C k66 w A0_3 l0_3.length l0_3) (hc0_3 : l0_3.length ≤ c0_3) (hr1 : Kd.C k60 w A1 l1.length l1) (hc1 : l1.length ≤ c1) (hG : Glob w) (h : kernel_Filled.f a0_0 a0_1 a0_2 l0_3 l1 = some (r1, r2)) :
  Calls Tryd.prog 28 #[.agg #[.int .i64 a0_0, .int .i64 a0_1, .int .i64 a0_2, .slice A0_3 l0_3.length c0_3], .slice A1 l1.length c1] w fun e w' => ∃ v0_ : Value, e = .returned (.tuple #[v0_, .int .i64 r2]) ∧ Kd.V (Kd.slice 3 (Kd.int .i64)) 25 w' w.heap.size (fun k_ => w.heap.size ≤ k_) v0_ r1 ∧ Below w.heap.size w w' := by
 unfold kernel_Filled.f Filled at h
 by_cases he : askedErr a0_0 a0_1 a0_2 l0_3 l1 true = 0
 ·rw [if_pos he] at h
  simp only [Option.some.injEq, Prod.mk.injEq] at h
  obtain ⟨rfl, rfl⟩ := h
  exact filled_ok _ _ _ _ _ _ _ _ _ _ hr0_3 hc0_3 hr1 hG he
 ·rw [if_neg he] at h
  simp only [Option.some.injEq, Prod.mk.injEq] at h
  obtain ⟨rfl, rfl⟩ := h
  exact (filled_bad _ _ _ _ _ _ _ _ _ _ hr0_3 hc0_3 hr1 hG he).mono fun _ _ h => ⟨_, h.1, Kd.V_nil _ _ _ _ _, h.2⟩
def kernel_Least.f (a0_0 : Int) (a0_1 : Int) (a0_2 : Int) (l0_3 : List (S66)) (l1 : List (S60)) : Option (Int × Int) := some (Least a0_0 a0_1 a0_2 l0_3 l1)
theorem kernel_Least.calls (a0_0 : Int) (a0_1 : Int) (a0_2 : Int) (A0_3 : Option Addr) (c0_3 : Nat) (l0_3 : List (S66)) (A1 : Option Addr) (c1 : Nat) (l1 : List (S60)) (r1 : Int) (r2 : Int) (w : World) (hr0_3 : Kd.C k66 w A0_3 l0_3.length l0_3) (hc0_3 : l0_3.length ≤ c0_3) (hr1 : Kd.C k60 w A1 l1.length l1) (hc1 : l1.length ≤ c1) (hG : Glob w) (h : kernel_Least.f a0_0 a0_1 a0_2 l0_3 l1 = some (r1, r2)) :
  Calls Tryd.prog 31 #[.agg #[.int .i64 a0_0, .int .i64 a0_1, .int .i64 a0_2, .slice A0_3 l0_3.length c0_3], .slice A1 l1.length c1] w fun e w' => e = .returned (.tuple #[.int .i64 r1, .int .i64 r2]) ∧ Below w.heap.size w w' := by
 unfold kernel_Least.f Least at h
 cases h1 : okScale a0_0 a0_1 a0_2 l0_3 with
 | false =>
  rw [h1] at h
  simp at h
  obtain ⟨rfl, rfl⟩ := h
  exact least_bad _ _ _ _ _ _ _ _ _ _ hr0_3 hc0_3 hr1 hG 60 (by omega) (.inl ⟨h1, rfl⟩)
 | true =>
  cases h2 : okHeard a0_2 l0_3 l1 with
  | false =>
   rw [h1, h2] at h
   simp at h
   obtain ⟨rfl, rfl⟩ := h
   exact least_bad _ _ _ _ _ _ _ _ _ _ hr0_3 hc0_3 hr1 hG 61 (by omega) (.inr ⟨h1, h2, rfl⟩)
  | true =>
   rw [h1, h2] at h
   simp at h
   obtain ⟨rfl, rfl⟩ := h
   exact least_good _ _ _ _ _ _ _ _ _ _ hr0_3 hc0_3 hr1 hG h1 h2
def kernel_Pairs.f (a0_0 : Int) (a0_1 : Int) (a0_2 : Int) (l0_3 : List (S66)) : Option (List S61 × Int) := some (Pairs a0_0 a0_1 a0_2 l0_3)
theorem kernel_Pairs.calls (a0_0 : Int) (a0_1 : Int) (a0_2 : Int) (A0_3 : Option Addr) (c0_3 : Nat) (l0_3 : List (S66)) (r1 : List (S61)) (r2 : Int) (w : World) (hr0_3 : Kd.C k66 w A0_3 l0_3.length l0_3) (hc0_3 : l0_3.length ≤ c0_3) (hG : Glob w) (h : kernel_Pairs.f a0_0 a0_1 a0_2 l0_3 = some (r1, r2)) :
  Calls Tryd.prog 33 #[.agg #[.int .i64 a0_0, .int .i64 a0_1, .int .i64 a0_2, .slice A0_3 l0_3.length c0_3]] w fun e w' => ∃ v0_ : Value, e = .returned (.tuple #[v0_, .int .i64 r2]) ∧ Kd.V k61 61 w' w.heap.size (fun k_ => w.heap.size ≤ k_) v0_ r1 ∧ Below w.heap.size w w' := by
 unfold kernel_Pairs.f Pairs at h
 cases h1 : okScale a0_0 a0_1 a0_2 l0_3 with
 | false =>
  rw [h1] at h
  simp at h
  obtain ⟨rfl, rfl⟩ := h
  exact (pairs_bad _ _ _ _ _ _ _ hr0_3 hc0_3 hG h1).mono fun _ _ h => h
 | true =>
  rw [h1] at h
  simp only [if_true, Option.some.injEq, Prod.mk.injEq] at h
  obtain ⟨rfl, rfl⟩ := h
  exact (pairs_ok _ _ _ _ _ _ _ hr0_3 hc0_3 hG h1).mono fun _ _ h => h
def kernel_Twins.f (a0_0 : Int) (a0_1 : Int) (a0_2 : Int) (l0_3 : List (S66)) (a1 : Int) (a2 : Int) : Option (List Int × List Int × Int) := some (Twins a0_0 a0_1 a0_2 l0_3 a1 a2)
theorem kernel_Twins.calls (a0_0 : Int) (a0_1 : Int) (a0_2 : Int) (A0_3 : Option Addr) (c0_3 : Nat) (l0_3 : List (S66)) (a1 : Int) (a2 : Int) (r1 : List Int) (r2 : List Int) (r3 : Int) (w : World) (hr0_3 : Kd.C k66 w A0_3 l0_3.length l0_3) (hc0_3 : l0_3.length ≤ c0_3) (hG : Glob w) (h : kernel_Twins.f a0_0 a0_1 a0_2 l0_3 a1 a2 = some (r1, r2, r3)) :
  Calls Tryd.prog 36 #[.agg #[.int .i64 a0_0, .int .i64 a0_1, .int .i64 a0_2, .slice A0_3 l0_3.length c0_3], .int .i64 a1, .int .i64 a2] w fun e w' => ∃ v0_ v1_ : Value, e = .returned (.tuple #[v0_, v1_, .int .i64 r3]) ∧ Kd.V (Kd.int .i64) 3 w' w.heap.size (fun k_ => w.heap.size ≤ k_) v0_ r1 ∧ Kd.V (Kd.int .i64) 3 w' w.heap.size (fun k_ => w.heap.size ≤ k_) v1_ r2 ∧ Below w.heap.size w w' := by
 have fin : ∀ {l m n e w'}, TwinsPost l m n w e w' → ∃ v0_ v1_ : Value, e = .returned (.tuple #[v0_, v1_, .int .i64 n]) ∧ Kd.V (Kd.int .i64) 3 w' w.heap.size (fun k_ => w.heap.size ≤ k_) v0_ l ∧ Kd.V (Kd.int .i64) 3 w' w.heap.size (fun k_ => w.heap.size ≤ k_) v1_ m ∧ Below w.heap.size w w' := by
  rintro l m n e w' ⟨v0, v1, h1, h2, h3, h4⟩
  exact ⟨v0, v1, h1, Kd.V_mono h2 (fun _ h => h.1), Kd.V_mono h3 (fun _ h => h.1), h4⟩
 unfold kernel_Twins.f Twins at h
 cases h1 : okScale a0_0 a0_1 a0_2 l0_3 with
 | false =>
  rw [h1] at h
  simp at h
  obtain ⟨rfl, rfl, rfl⟩ := h
  exact (twins_bad _ _ _ _ _ _ _ _ _ hr0_3 hc0_3 hG 60 (by omega) (.inl ⟨h1, rfl⟩)).mono fun _ _ h => fin h
 | true =>
  rw [h1] at h
  simp only [if_true] at h
  by_cases hb : 0 ≤ a1 ∧ a1 < l0_3.length ∧ 0 ≤ a2 ∧ a2 < l0_3.length
  ·rw [if_pos hb] at h
   cases ht : twins a0_0 a0_1 l0_3 a1 a2 with
   | none =>
    rw [ht] at h
    simp at h
    obtain ⟨rfl, rfl, rfl⟩ := h
    exact (twins_none _ _ _ _ _ _ _ _ _ hr0_3 hc0_3 hG h1 hb.1 hb.2.1 hb.2.2.1 hb.2.2.2 ht).mono fun _ _ h => fin h
   | some pq =>
    obtain ⟨⟨pa, pb⟩, ⟨qa, qb⟩⟩ := pq
    rw [ht] at h
    simp only [Option.some.injEq, Prod.mk.injEq] at h
    obtain ⟨rfl, rfl, rfl⟩ := h
    exact (twins_ok _ _ _ _ _ _ _ _ _ hr0_3 hc0_3 hG h1 hb.1 hb.2.1 hb.2.2.1 hb.2.2.2 pa pb qa qb ht).mono fun _ _ h => fin h
  ·rw [if_neg hb] at h
   simp at h
   obtain ⟨rfl, rfl, rfl⟩ := h
   refine (twins_bad _ _ _ _ _ _ _ _ _ hr0_3 hc0_3 hG 61 (by omega) (.inr ⟨h1, ?_, rfl⟩)).mono fun _ _ h => fin h
   rw [Bool.eq_false_iff]
   intro h
   simp only [Bool.and_eq_true, decide_eq_true_eq] at h
   exact hb ⟨h.1.1, h.1.2, h.2.1, h.2.2⟩
end Go.Proofs.YtagkfkdoibnhfaaDoor.K
end
section
namespace Go.Proofs.YtagkfkdoibnhfaaDoor.H
open Go.RowKit Go.Proofs.YtagkfkdoibnhfaaDoorW.PrintWords Go.Proofs.YtagkfkdoibnhfaaDoorW.PrintLast Go.Proofs.YtagkfkdoibnhfaaDoorW.PrintMore
attribute [local go_sem] max2_int min2_int max_two min_two max_three min_three max_four min_four   -- for this text's walks alone
set_option linter.unusedVariables false
set_option linter.unusedSimpArgs false
def saronref00_Sits.f (a0 : Int) (a1 : Int) (a2 : Int) : Option (Bool) := if a1 ≤ a0 then (some (decide (a0 ≤ a2))) else (some false)
set_option maxHeartbeats 8000000 in
set_option maxRecDepth 100000 in
theorem saronref00_Sits.calls (a0 : Int) (a1 : Int) (a2 : Int) (r : Bool) (w : World) (h : saronref00_Sits.f a0 a1 a2 = some r) :
  Calls Tryd.prog 45 #[.int .i64 a0, .int .i64 a1, .int .i64 a2] w fun e w' => e = .returned (.bool r) ∧ Drawn0 w w' := by
 have H : (if a1 ≤ a0 then (some (decide (a0 ≤ a2))) else (some false)) = some r := h
 clear h
 by_cases c4 : a1 ≤ a0
 ·rw [if_pos c4] at H
  have c4b0 : decide (a1 ≤ a0) = true := decide_eq_true c4
  clear c4
  obtain rfl := Option.some.inj H
  go_enter Tryd.func45, Tryd.ntmps45
  go_wp2
  go_ret
  exact ⟨ze, by repeat (first | exact Drawn0.refl _ | apply Drawn0.step)⟩
 ·rw [if_neg c4] at H
  have c4b0 : decide (a1 ≤ a0) = false := decide_eq_false c4
  clear c4
  obtain rfl := Option.some.inj H
  go_enter Tryd.func45, Tryd.ntmps45
  go_wp2
  go_ret
  exact ⟨ze, by repeat (first | exact Drawn0.refl _ | apply Drawn0.step)⟩
def saronref00_Good.f (a0_0 : Int) (a0_1 : Int) (a1 : Int) (a2 : Int) : Option (Bool) := if a1 ≤ a0_0 then (if a0_0 ≤ a0_1 then (some (decide (a0_1 ≤ a2))) else (some false)) else (some false)
set_option maxHeartbeats 8000000 in
set_option maxRecDepth 100000 in
theorem saronref00_Good.calls (a0_0 : Int) (a0_1 : Int) (a1 : Int) (a2 : Int) (r : Bool) (w : World) (h : saronref00_Good.f a0_0 a0_1 a1 a2 = some r) :
  Calls Tryd.prog 60 #[.agg #[.int .i64 a0_0, .int .i64 a0_1], .int .i64 a1, .int .i64 a2] w fun e w' => e = .returned (.bool r) ∧ Below w.heap.size w w' := by
 have hu89 := Tryd.underlying89
 have HB := zh (Below.refl w.heap.size w)
 have H : (if a1 ≤ a0_0 then (if a0_0 ≤ a0_1 then (some (decide (a0_1 ≤ a2))) else (some false)) else (some false)) = some r := h
 clear h
 by_cases c4 : a1 ≤ a0_0
 ·rw [if_pos c4] at H
  have c4b0 : decide (a1 ≤ a0_0) = true := decide_eq_true c4
  clear c4
  by_cases c5 : a0_0 ≤ a0_1
  ·rw [if_pos c5] at H
   have c5b0 : decide (a0_0 ≤ a0_1) = true := decide_eq_true c5
   clear c5
   obtain rfl := Option.some.inj H
   go_enter Tryd.func60, Tryd.ntmps60
   go_wp2_with (first | ((with_reducible refine gate_dst (N := 3) rfl ?_); refine box_event ?hg (N := 3) ?hd (cs := #[.int .i64 a0_0, .int .i64 a0_1]) (t := 89) ?hr ?_; (case hd => rfl); (case hg => rfl); (case hr => first | (go_simp; done) | (go_simp; rfl)); intro gb113 hg w6 hbox hb; have n0_ := zh (below_step zb hb); have n1_ := zh (hbox); have n2_ := zh ((by rw [hg]; exact (below_size zb) : w.heap.size ≤ gb113)); have n3_ := zh ((by rw [hg]; exact (below_size zb) : w.heap.size ≤ gb113)); clear HB; have HB := n0_; have BK113 := n1_; have GW113 := n2_; have GE113 := n3_; clear n0_ n1_ n2_ n3_; clear hb hbox hg; have hcz7_0 : w6.cell? ⟨gb113, 0, none⟩ = some (.int .i64 a0_0) := vb BK113 0; have hcz7_1 : w6.cell? ⟨gb113, 1, none⟩ = some (.int .i64 a0_1) := vb BK113 1; have hfz7_0 := blk_frozen BK113.out 0; have hfz7_1 := blk_frozen BK113.out 1))
   go_ret
   exact ⟨zf, zb⟩
  ·rw [if_neg c5] at H
   have c5b0 : decide (a0_0 ≤ a0_1) = false := decide_eq_false c5
   clear c5
   obtain rfl := Option.some.inj H
   go_enter Tryd.func60, Tryd.ntmps60
   go_wp2_with (first | ((with_reducible refine gate_dst (N := 3) rfl ?_); refine box_event ?hg (N := 3) ?hd (cs := #[.int .i64 a0_0, .int .i64 a0_1]) (t := 89) ?hr ?_; (case hd => rfl); (case hg => rfl); (case hr => first | (go_simp; done) | (go_simp; rfl)); intro gb113 hg w8 hbox hb; have n0_ := zh (below_step zb hb); have n1_ := zh (hbox); have n2_ := zh ((by rw [hg]; exact (below_size zb) : w.heap.size ≤ gb113)); have n3_ := zh ((by rw [hg]; exact (below_size zb) : w.heap.size ≤ gb113)); clear HB; have HB := n0_; have BK113 := n1_; have GW113 := n2_; have GE113 := n3_; clear n0_ n1_ n2_ n3_; clear hb hbox hg; have hcz9_0 : w8.cell? ⟨gb113, 0, none⟩ = some (.int .i64 a0_0) := vb BK113 0; have hcz9_1 : w8.cell? ⟨gb113, 1, none⟩ = some (.int .i64 a0_1) := vb BK113 1; have hfz9_0 := blk_frozen BK113.out 0; have hfz9_1 := blk_frozen BK113.out 1))
   go_ret
   exact ⟨zf, zb⟩
 ·rw [if_neg c4] at H
  have c4b0 : decide (a1 ≤ a0_0) = false := decide_eq_false c4
  clear c4
  obtain rfl := Option.some.inj H
  go_enter Tryd.func60, Tryd.ntmps60
  go_wp2_with (first | ((with_reducible refine gate_dst (N := 3) rfl ?_); refine box_event ?hg (N := 3) ?hd (cs := #[.int .i64 a0_0, .int .i64 a0_1]) (t := 89) ?hr ?_; (case hd => rfl); (case hg => rfl); (case hr => first | (go_simp; done) | (go_simp; rfl)); intro gb113 hg w10 hbox hb; have n0_ := zh (below_step zb hb); have n1_ := zh (hbox); have n2_ := zh ((by rw [hg]; exact (below_size zb) : w.heap.size ≤ gb113)); have n3_ := zh ((by rw [hg]; exact (below_size zb) : w.heap.size ≤ gb113)); clear HB; have HB := n0_; have BK113 := n1_; have GW113 := n2_; have GE113 := n3_; clear n0_ n1_ n2_ n3_; clear hb hbox hg; have hcz11_0 : w10.cell? ⟨gb113, 0, none⟩ = some (.int .i64 a0_0) := vb BK113 0; have hcz11_1 : w10.cell? ⟨gb113, 1, none⟩ = some (.int .i64 a0_1) := vb BK113 1; have hfz11_0 := blk_frozen BK113.out 0; have hfz11_1 := blk_frozen BK113.out 1))
  go_ret
  exact ⟨zf, zb⟩
def saronref00_Band.f (a0 : Int) (a1 : Int) : Option (Int × Int) := some (a0, a1)
set_option maxHeartbeats 8000000 in
set_option maxRecDepth 100000 in
theorem saronref00_Band.calls (a0 : Int) (a1 : Int) (r1 : Int) (r2 : Int) (w : World) (h : saronref00_Band.f a0 a1 = some (r1, r2)) :
  Calls Tryd.prog 61 #[.int .i64 a0, .int .i64 a1] w fun e w' => e = .returned (.agg #[.int .i64 r1, .int .i64 r2]) ∧ Below w.heap.size w w' := by
 have hu89 := Tryd.underlying89
 have HB := zh (Below.refl w.heap.size w)
 have H : (some (a0, a1)) = some (r1, r2) := h
 clear h
 simp only [Option.some.injEq, Prod.mk.injEq] at H
 obtain ⟨rfl, rfl⟩ := H
 go_enter Tryd.func61, Tryd.ntmps61
 go_wp2_with (first | ((with_reducible refine gate_dst (N := 4) rfl ?_); refine box_event ?hg (N := 4) ?hd (cs := #[.int .i64 0, .int .i64 0]) (t := 89) ?hr ?_; (case hd => rfl); (case hg => rfl); (case hr => first | (go_simp; done) | (go_simp; rfl)); intro gb114 hg w3 hbox hb; have n0_ := zh (below_step zb hb); have n1_ := zh (hbox); have n2_ := zh ((by rw [hg]; exact (below_size zb) : w.heap.size ≤ gb114)); have n3_ := zh ((by rw [hg]; exact (below_size zb) : w.heap.size ≤ gb114)); clear HB; have HB := n0_; have BK114 := n1_; have GW114 := n2_; have GE114 := n3_; clear n0_ n1_ n2_ n3_; clear hb hbox hg; have hcz4_0 : w3.cell? ⟨gb114, 0, none⟩ = some (.int .i64 0) := vb BK114 0; have hcz4_1 : w3.cell? ⟨gb114, 1, none⟩ = some (.int .i64 0) := vb BK114 1; have hfz4_0 := blk_frozen BK114.out 0; have hfz4_1 := blk_frozen BK114.out 1))
 refine bodyPost_ret (results_cell_row rfl _ _ gb114 89 #[.int .i64 a0, .int .i64 a1] (0, 0) _ rfl (by (with_reducible repeat (first | refine blk_drewN ?_ _ | refine blk_drew ?_ | refine blk_alloc ?_ _)); refine blk_put (cs := #[.int .i64 a0, .int .i64 0]) ?_ 1 _ rfl; (with_reducible repeat (first | refine blk_drewN ?_ _ | refine blk_drew ?_ | refine blk_alloc ?_ _)); refine blk_put (cs := #[.int .i64 0, .int .i64 0]) ?_ 0 _ rfl; (with_reducible repeat (first | refine blk_drewN ?_ _ | refine blk_drew ?_ | refine blk_alloc ?_ _)); exact BK114.out) Tryd.underlying89 rfl zk) rfl ?_
 exact ⟨zf, zb⟩
def saronref00_Turn.f (a0 : Int) (a1 : Int) : Option (Int) := if a1 < 1 then (some 0) else (if a1 = 0 then (none) else (if (Int.tmod a0 a1) < 0 then (some (wrap64 ((Int.tmod a0 a1) + a1))) else (some (Int.tmod a0 a1))))
set_option maxHeartbeats 8000000 in
set_option maxRecDepth 100000 in
theorem saronref00_Turn.calls (a0 : Int) (a1 : Int) (r : Int) (w : World) (h : saronref00_Turn.f a0 a1 = some r) :
  Calls Tryd.prog 42 #[.int .i64 a0, .int .i64 a1] w fun e w' => e = .returned (.int .i64 r) ∧ Drawn0 w w' := by
 have H : (if a1 < 1 then (some 0) else (if a1 = 0 then (none) else (if (Int.tmod a0 a1) < 0 then (some (wrap64 ((Int.tmod a0 a1) + a1))) else (some (Int.tmod a0 a1))))) = some r := h
 clear h
 by_cases c3 : a1 < 1
 ·rw [if_pos c3] at H
  have c3b0 : decide (a1 < 1) = true := decide_eq_true c3
  clear c3
  obtain rfl := Option.some.inj H
  go_enter Tryd.func42, Tryd.ntmps42
  go_wp2
  go_ret
  exact ⟨ze, by repeat (first | exact Drawn0.refl _ | apply Drawn0.step)⟩
 ·rw [if_neg c3] at H
  have c3b0 : decide (a1 < 1) = false := decide_eq_false c3
  clear c3
  by_cases c4 : a1 = 0
  ·rw [if_pos c4] at H
   exact absurd H (by simp)
  ·rw [if_neg c4] at H
   have c4b0 : (a1 == 0) = false := beq_eq_false_iff_ne.mpr c4
   have c4b1 : (a1 != 0) = true := bne_iff_ne.mpr c4
   by_cases c5 : (Int.tmod a0 a1) < 0
   ·rw [if_pos c5] at H
    have c5b0 : decide ((Int.tmod a0 a1) < 0) = true := decide_eq_true c5
    clear c5
    obtain rfl := Option.some.inj H
    go_enter Tryd.func42, Tryd.ntmps42
    go_wp2
    go_ret
    exact ⟨ze, by repeat (first | exact Drawn0.refl _ | apply Drawn0.step)⟩
   ·rw [if_neg c5] at H
    have c5b0 : decide ((Int.tmod a0 a1) < 0) = false := decide_eq_false c5
    clear c5
    obtain rfl := Option.some.inj H
    go_enter Tryd.func42, Tryd.ntmps42
    go_wp2
    go_ret
    exact ⟨ze, by repeat (first | exact Drawn0.refl _ | apply Drawn0.step)⟩
def saronref00_Equal.l0 : Nat → List Int → List Int → Bool → Int → Option (Bool)
 | 0, _, _, _, _ => none
 | k + 1, x0, x1, x5, x6 => if x5 = true then (if x6 < (x0.length : Int) then (if 0 ≤ x6 then (if x6 < (x1.length : Int) then (saronref00_Equal.l0 k x0 x1 ((rd x0 x6) == (rd x1 x6)) (wrap64 (x6 + 1))) else (none)) else (none)) else (some x5)) else (some x5)
def saronref00_Equal.f (k : Nat) (l0 : List Int) (l1 : List Int) : Option (Bool) := saronref00_Equal.l0 k l0 l1 ((l0.length : Int) == (l1.length : Int)) 0
set_option maxHeartbeats 8000000 in
set_option maxRecDepth 100000 in
theorem saronref00_Equal.calls (k : Nat) (A0 : Option Addr) (c0 : Nat) (l0 : List Int) (A1 : Option Addr) (c1 : Nat) (l1 : List Int) (r : Bool) (w : World) (hr0 : Kd.C (Kd.int .i64) w A0 l0.length l0) (hc0 : l0.length ≤ c0) (hr1 : Kd.C (Kd.int .i64) w A1 l1.length l1) (hc1 : l1.length ≤ c1) (h : saronref00_Equal.f k l0 l1 = some r) :
  Calls Tryd.prog 18 #[.slice A0 l0.length c0, .slice A1 l1.length c1] w fun e w' => e = .returned (.bool r) ∧ Drawn0 w w' := by
 have HR0 := zh hr0
 have HC0 := zh hc0
 clear hr0 hc0
 have HR1 := zh hr1
 have HC1 := zh hc1
 clear hr1 hc1
 have H : (saronref00_Equal.l0 k l0 l1 ((l0.length : Int) == (l1.length : Int)) 0) = some r := h
 clear h
 have H' := zh H
 clear H
 go_enter Tryd.func18, Tryd.ntmps18
 go_wp2
 repeat (go_quiet (fail); try go_wp2)
 go_loopg [5, 6] k (fun kq v5 v6 w' => ∃ (x5_1 : Bool) (x6_1 : Int), v5 = .bool x5_1 ∧ v6 = .int .i64 x6_1 ∧ Aside0 (saronref00_Equal.l0 kq l0 l1 x5_1 x6_1 = some r) ∧ Aside0 (kq ≤ k) ∧ Drawn0 w w')
 case atStart => exact ⟨(((l0.length : Int) == (l1.length : Int))), (0), ze, ze, H', ⟨Nat.le_refl _⟩, by repeat (first | exact Drawn0.refl _ | apply Drawn0.step)⟩
 case round =>
  clear H'
  try clear c1
  try clear p2
  obtain ⟨x5_1, x6_1, rfl, rfl, HA, HK1, ⟨m1, rfl⟩⟩ := hrel
  cases gk with
  | zero => exact absurd HA.out (by simp [saronref00_Equal.l0])
  | succ k1 =>
   have H := HA.out
   clear HA
   simp only [saronref00_Equal.l0] at H
   by_cases c3 : x5_1 = true
   ·subst c3
    have H1 : (if x6_1 < (l0.length : Int) then (if 0 ≤ x6_1 then (if x6_1 < (l1.length : Int) then (saronref00_Equal.l0 k1 l0 l1 ((rd l0 x6_1) == (rd l1 x6_1)) (wrap64 (x6_1 + 1))) else (none)) else (none)) else (some true)) = some r := by rw [if_pos rfl] at H; exact H
    clear H
    have H := H1
    clear H1
    by_cases c4 : x6_1 < (l0.length : Int)
    ·rw [if_pos c4] at H
     have c4b0 : decide (x6_1 < (l0.length : Int)) = true := decide_eq_true c4
     clear c4
     by_cases c5 : 0 ≤ x6_1
     ·rw [if_pos c5] at H
      have c5b0 : decide (0 ≤ x6_1) = true := decide_eq_true c5
      clear c5
      by_cases c6 : x6_1 < (l1.length : Int)
      ·rw [if_pos c6] at H
       have c6b0 : decide (x6_1 < (l1.length : Int)) = true := decide_eq_true c6
       clear c6
       have H' := zh H
       clear H
       have p171 : 0 ≤ (x6_1 : Int) := of_decide_eq_true zs
       have q171 : x6_1 < (l0.length : Int) := of_decide_eq_true zs
       obtain ⟨ad171, e171, hx171_0⟩ := Kd.at_int HR0.out x6_1 p171 q171
       cases e171
       replace p171 := eq_true p171
       replace q171 := eq_true q171
       have p172 : 0 ≤ (x6_1 : Int) := of_decide_eq_true zs
       have q172 : x6_1 < (l1.length : Int) := of_decide_eq_true zs
       obtain ⟨ad172, e172, hx172_0⟩ := Kd.at_int HR1.out x6_1 p172 q172
       cases e172
       replace p172 := eq_true p172
       replace q172 := eq_true q172
       go_wp2
       repeat (go_quiet (fail); try go_wp2)
       go_roundg k1
       case measure => have := HK1.out; omega
       case rel => exact ⟨(((rd l0 x6_1) == (rd l1 x6_1))), (wrap64 (x6_1 + 1)), ze, ze, H', ⟨by have := HK1.out; omega⟩, by repeat (first | exact Drawn0.refl _ | apply Drawn0.step)⟩
      ·rw [if_neg c6] at H
       exact absurd H (by simp)
     ·rw [if_neg c5] at H
      exact absurd H (by simp)
    ·rw [if_neg c4] at H
     have c4b0 : decide (x6_1 < (l0.length : Int)) = false := decide_eq_false c4
     clear c4
     obtain rfl := Option.some.inj H
     go_wp2
     repeat (go_quiet (fail); try go_wp2)
     go_ret
     exact ⟨ze, by repeat (first | exact Drawn0.refl _ | apply Drawn0.step)⟩
   ·replace c3 := Bool.eq_false_iff.mpr c3
    subst c3
    have H1 : (some false) = some r := by rw [if_neg (show ¬ (false = true) by decide)] at H; exact H
    clear H
    have H := H1
    clear H1
    obtain rfl := Option.some.inj H
    go_wp2
    repeat (go_quiet (fail); try go_wp2)
    go_ret
    exact ⟨ze, by repeat (first | exact Drawn0.refl _ | apply Drawn0.step)⟩
def saronref00_EqualRows.l0 : Nat → List (List Int) → List (List Int) → Bool → Int → Option (Bool)
 | 0, _, _, _, _ => none
 | k + 1, x0, x1, x5, x6 => if x5 = true then (if x6 < (x0.length : Int) then (if 0 ≤ x6 then (if x6 < (x1.length : Int) then ((saronref00_Equal.f k (rd_L4 x0 x6) (rd_L4 x1 x6)).bind fun t176 => (saronref00_EqualRows.l0 k x0 x1 t176 (wrap64 (x6 + 1)))) else (none)) else (none)) else (some x5)) else (some x5)
def saronref00_EqualRows.f (k : Nat) (l0 : List (List Int)) (l1 : List (List Int)) : Option (Bool) := saronref00_EqualRows.l0 k l0 l1 ((l0.length : Int) == (l1.length : Int)) 0
set_option maxHeartbeats 8000000 in
set_option maxRecDepth 100000 in
theorem saronref00_EqualRows.calls (k : Nat) (A0 : Option Addr) (c0 : Nat) (l0 : List (List Int)) (A1 : Option Addr) (c1 : Nat) (l1 : List (List Int)) (r : Bool) (w : World) (hr0 : Kd.C (Kd.slice 3 (Kd.int .i64)) w A0 l0.length l0) (hc0 : l0.length ≤ c0) (hr1 : Kd.C (Kd.slice 3 (Kd.int .i64)) w A1 l1.length l1) (hc1 : l1.length ≤ c1) (h : saronref00_EqualRows.f k l0 l1 = some r) :
  Calls Tryd.prog 30 #[.slice A0 l0.length c0, .slice A1 l1.length c1] w fun e w' => e = .returned (.bool r) ∧ Drawn0 w w' := by
 have HR0 := zh hr0
 have HC0 := zh hc0
 clear hr0 hc0
 have HR1 := zh hr1
 have HC1 := zh hc1
 clear hr1 hc1
 have H : (saronref00_EqualRows.l0 k l0 l1 ((l0.length : Int) == (l1.length : Int)) 0) = some r := h
 clear h
 have H' := zh H
 clear H
 go_enter Tryd.func30, Tryd.ntmps30
 go_wp2
 repeat (go_quiet (fail); try go_wp2)
 go_loopg [5, 6] k (fun kq v5 v6 w' => ∃ (x5_1 : Bool) (x6_1 : Int), v5 = .bool x5_1 ∧ v6 = .int .i64 x6_1 ∧ Aside0 (saronref00_EqualRows.l0 kq l0 l1 x5_1 x6_1 = some r) ∧ Aside0 (kq ≤ k) ∧ Drawn0 w w')
 case atStart => exact ⟨(((l0.length : Int) == (l1.length : Int))), (0), ze, ze, H', ⟨Nat.le_refl _⟩, by repeat (first | exact Drawn0.refl _ | apply Drawn0.step)⟩
 case round =>
  clear H'
  try clear c1
  try clear p2
  obtain ⟨x5_1, x6_1, rfl, rfl, HA, HK1, ⟨m1, rfl⟩⟩ := hrel
  cases gk with
  | zero => exact absurd HA.out (by simp [saronref00_EqualRows.l0])
  | succ k1 =>
   have H := HA.out
   clear HA
   simp only [saronref00_EqualRows.l0] at H
   by_cases c3 : x5_1 = true
   ·subst c3
    have H1 : (if x6_1 < (l0.length : Int) then (if 0 ≤ x6_1 then (if x6_1 < (l1.length : Int) then ((saronref00_Equal.f k1 (rd_L4 l0 x6_1) (rd_L4 l1 x6_1)).bind fun t176 => (saronref00_EqualRows.l0 k1 l0 l1 t176 (wrap64 (x6_1 + 1)))) else (none)) else (none)) else (some true)) = some r := by rw [if_pos rfl] at H; exact H
    clear H
    have H := H1
    clear H1
    by_cases c4 : x6_1 < (l0.length : Int)
    ·rw [if_pos c4] at H
     have c4b0 : decide (x6_1 < (l0.length : Int)) = true := decide_eq_true c4
     clear c4
     by_cases c5 : 0 ≤ x6_1
     ·rw [if_pos c5] at H
      have c5b0 : decide (0 ≤ x6_1) = true := decide_eq_true c5
      clear c5
      by_cases c6 : x6_1 < (l1.length : Int)
      ·rw [if_pos c6] at H
       have c6b0 : decide (x6_1 < (l1.length : Int)) = true := decide_eq_true c6
       clear c6
       replace H := Option.bind_eq_some_iff.mp H
       obtain ⟨t176, A70, H⟩ := H
       replace H : (saronref00_EqualRows.l0 k1 l0 l1 t176 (wrap64 (x6_1 + 1))) = some r := H
       have A7 := zh A70
       clear A70
       have H' := zh H
       clear H
       have p174 : 0 ≤ (x6_1 : Int) := of_decide_eq_true zs
       have q174 : x6_1 < (l0.length : Int) := of_decide_eq_true zs
       obtain ⟨ad174, A174_0, c174_0, e174, hx174_0, hl174_0, hi174_0⟩ := at_L4 HR0.out x6_1 p174 q174
       cases e174
       have HR174_0 := zh hi174_0
       have HC174_0 := zh hl174_0
       clear hi174_0 hl174_0
       replace p174 := eq_true p174
       replace q174 := eq_true q174
       have p175 : 0 ≤ (x6_1 : Int) := of_decide_eq_true zs
       have q175 : x6_1 < (l1.length : Int) := of_decide_eq_true zs
       obtain ⟨ad175, A175_0, c175_0, e175, hx175_0, hl175_0, hi175_0⟩ := at_L4 HR1.out x6_1 p175 q175
       cases e175
       have HR175_0 := zh hi175_0
       have HC175_0 := zh hl175_0
       clear hi175_0 hl175_0
       replace p175 := eq_true p175
       replace q175 := eq_true q175
       go_wp2_with (first | (go_at_call 18; (with_reducible refine (saronref00_Equal.calls k1 _ _ (rd_L4 l0 x6_1) _ _ (rd_L4 l1 x6_1) t176 _ ?side1 ?side2 ?side3 ?side4 A7.out).mono ?_); (case side1 => repeat (first | exact HR174_0.out | (with_reducible refine Kd.C_alloc ?_ _) | (with_reducible refine Kd.C_drewN ?_ _) | (with_reducible refine Kd.C_drew ?_))); (case side2 => exact HC174_0.out); (case side3 => repeat (first | exact HR175_0.out | (with_reducible refine Kd.C_alloc ?_ _) | (with_reducible refine Kd.C_drewN ?_ _) | (with_reducible refine Kd.C_drew ?_))); (case side4 => exact HC175_0.out); rintro e w' ⟨rfl, ⟨nd, rfl⟩⟩; (try first | exact ⟨rfl, _, World.drewN_drewN _ _ _⟩ | exact ⟨rfl, _, Eq.trans (World.drewN_drewN _ _ _) (congrArg (World.drewN _) (Nat.add_assoc _ _ _))⟩)))
       repeat (go_quiet (first | (go_at_call 18; (try simp only [i64_w, i32_w]); (with_reducible refine (saronref00_Equal.calls k1 _ _ (rd_L4 l0 x6_1) _ _ (rd_L4 l1 x6_1) t176 _ ?side1 ?side2 ?side3 ?side4 A7.out).mono ?_); (case side1 => repeat (first | exact HR174_0.out | (with_reducible refine Kd.C_alloc ?_ _) | (with_reducible refine Kd.C_drewN ?_ _) | (with_reducible refine Kd.C_drew ?_))); (case side2 => exact HC174_0.out); (case side3 => repeat (first | exact HR175_0.out | (with_reducible refine Kd.C_alloc ?_ _) | (with_reducible refine Kd.C_drewN ?_ _) | (with_reducible refine Kd.C_drew ?_))); (case side4 => exact HC175_0.out); rintro e w' ⟨rfl, ⟨nd, rfl⟩⟩; (try first | exact ⟨rfl, _, World.drewN_drewN _ _ _⟩ | exact ⟨rfl, _, Eq.trans (World.drewN_drewN _ _ _) (congrArg (World.drewN _) (Nat.add_assoc _ _ _))⟩))); try go_wp2_with (first | (go_at_call 18; (try simp only [i64_w, i32_w]); (with_reducible refine (saronref00_Equal.calls k1 _ _ (rd_L4 l0 x6_1) _ _ (rd_L4 l1 x6_1) t176 _ ?side1 ?side2 ?side3 ?side4 A7.out).mono ?_); (case side1 => repeat (first | exact HR174_0.out | (with_reducible refine Kd.C_alloc ?_ _) | (with_reducible refine Kd.C_drewN ?_ _) | (with_reducible refine Kd.C_drew ?_))); (case side2 => exact HC174_0.out); (case side3 => repeat (first | exact HR175_0.out | (with_reducible refine Kd.C_alloc ?_ _) | (with_reducible refine Kd.C_drewN ?_ _) | (with_reducible refine Kd.C_drew ?_))); (case side4 => exact HC175_0.out); rintro e w' ⟨rfl, ⟨nd, rfl⟩⟩; (try first | exact ⟨rfl, _, World.drewN_drewN _ _ _⟩ | exact ⟨rfl, _, Eq.trans (World.drewN_drewN _ _ _) (congrArg (World.drewN _) (Nat.add_assoc _ _ _))⟩))))
       go_roundg k1
       case measure => have := HK1.out; omega
       case rel => exact ⟨(t176), (wrap64 (x6_1 + 1)), ze, ze, H', ⟨by have := HK1.out; omega⟩, by repeat (first | exact Drawn0.refl _ | apply Drawn0.step)⟩
      ·rw [if_neg c6] at H
       exact absurd H (by simp)
     ·rw [if_neg c5] at H
      exact absurd H (by simp)
    ·rw [if_neg c4] at H
     have c4b0 : decide (x6_1 < (l0.length : Int)) = false := decide_eq_false c4
     clear c4
     obtain rfl := Option.some.inj H
     go_wp2
     repeat (go_quiet (fail); try go_wp2)
     go_ret
     exact ⟨ze, by repeat (first | exact Drawn0.refl _ | apply Drawn0.step)⟩
   ·replace c3 := Bool.eq_false_iff.mpr c3
    subst c3
    have H1 : (some false) = some r := by rw [if_neg (show ¬ (false = true) by decide)] at H; exact H
    clear H
    have H := H1
    clear H1
    obtain rfl := Option.some.inj H
    go_wp2
    repeat (go_quiet (fail); try go_wp2)
    go_ret
    exact ⟨ze, by repeat (first | exact Drawn0.refl _ | apply Drawn0.step)⟩
end Go.Proofs.YtagkfkdoibnhfaaDoor.H
end
section
namespace Go.Proofs.YtagkfkdoibnhfaaDoor.H
open Go.RowKit Go.Proofs.YtagkfkdoibnhfaaDoorW.PrintWords Go.Proofs.YtagkfkdoibnhfaaDoorW.PrintLast Go.Proofs.YtagkfkdoibnhfaaDoorW.PrintMore
attribute [local go_sem] max2_int min2_int max_two min_two max_three min_three max_four min_four   -- for this text's walks alone
set_option linter.unusedVariables false
set_option linter.unusedSimpArgs false
def saronlaw06_scale.f  : Option (Int × Int × Int × (List (S66))) := some (5, 2, 4, (([(⟨1, 0, 9, 0⟩ : S66), (⟨0, 0, 4, 0⟩ : S66), (⟨2, 3, 9, 0⟩ : S66), (⟨3, 0, 7, 0⟩ : S66), (⟨4, 5, 9, 1⟩ : S66)] : List (S66))))
set_option maxHeartbeats 8000000 in
set_option maxRecDepth 100000 in
theorem saronlaw06_scale.calls  (r1 : Int) (r2 : Int) (r3 : Int) (r4 : List (S66)) (w : World) (h : saronlaw06_scale.f  = some (r1, r2, r3, r4)) :
  Calls Tryd.prog 49 #[] w fun e w' => ∃ v3_ : Value, e = .returned (.agg #[.int .i64 r1, .int .i64 r2, .int .i64 r3, v3_]) ∧ Kd.R k66 66 w' w.heap.size (fun _ => True) v3_ r4 ∧ Below w.heap.size w w' := by
 have hu24 := Tryd.underlying24
 have hu66 := Tryd.underlying66
 have HB := zh (Below.refl w.heap.size w)
 have H : (some (5, 2, 4, (([(⟨1, 0, 9, 0⟩ : S66), (⟨0, 0, 4, 0⟩ : S66), (⟨2, 3, 9, 0⟩ : S66), (⟨3, 0, 7, 0⟩ : S66), (⟨4, 5, 9, 1⟩ : S66)] : List (S66))))) = some (r1, r2, r3, r4) := h
 clear h
 obtain ⟨y180, hy180⟩ : ∃ y_ : List (S66), y_ = (([(⟨1, 0, 9, 0⟩ : S66), (⟨0, 0, 4, 0⟩ : S66), (⟨2, 3, 9, 0⟩ : S66), (⟨3, 0, 7, 0⟩ : S66), (⟨4, 5, 9, 1⟩ : S66)] : List (S66))) := ⟨_, rfl⟩
 replace H : (some (5, 2, 4, y180)) = some (r1, r2, r3, r4) := by first | (rw [hy180]; with_reducible exact H) | (have H2_ := (Option.bind_some _ _).symm.trans H; rw [hy180]; with_reducible exact H2_) | (have H2_ := (Option.bind_some _ _).symm.trans H; with_reducible exact H2_) | with_reducible exact H | (rw [hy180]; exact H) | exact H
 have Ny180 := zh hy180
 clear hy180
 simp only [Option.some.injEq, Prod.mk.injEq] at H
 obtain ⟨rfl, rfl, rfl, rfl⟩ := H
 go_enter Tryd.func49, Tryd.ntmps49
 go_wp2_with (first | ((with_reducible refine gate_dst (N := 0) rfl ?_); refine box_event ?hg (N := 0) ?hd (cs := #[.int .i64 0, .int .i64 0, .int .i64 0, .slice none 0 0]) (t := 24) ?hr ?_; (case hd => rfl); (case hg => rfl); (case hr => first | (go_simp; done) | (go_simp; rfl)); intro gb179 hg w1 hbox hb; have n0_ := zh (below_step zb hb); have n1_ := zh (hbox); have n2_ := zh ((by rw [hg]; exact (below_size zb) : w.heap.size ≤ gb179)); have n3_ := zh ((by rw [hg]; exact (below_size zb) : w.heap.size ≤ gb179)); clear HB; have HB := n0_; have BK179 := n1_; have GW179 := n2_; have GE179 := n3_; clear n0_ n1_ n2_ n3_; clear hb hbox hg) | ((with_reducible refine gate_dst (N := 6) rfl ?_); refine Kd.R_lit k66 _ 66 ?hg (N := 6) ?hd (xs := ([(⟨1, 0, 9, 0⟩ : S66), (⟨0, 0, 4, 0⟩ : S66), (⟨2, 3, 9, 0⟩ : S66), (⟨3, 0, 7, 0⟩ : S66), (⟨4, 5, 9, 1⟩ : S66)] : List (S66))) (inner := [.int .i64 1, .int .i64 0, .int .i64 9, .int .i64 0, .int .i64 0, .int .i64 0, .int .i64 4, .int .i64 0, .int .i64 2, .int .i64 3, .int .i64 9, .int .i64 0, .int .i64 3, .int .i64 0, .int .i64 7, .int .i64 0, .int .i64 4, .int .i64 5, .int .i64 9, .int .i64 1]) (ok := fun _ => True) (okp := fun _ => True) ?hr ?hp (fun _ hk => hk) trivial (Below.refl _ _) (Nat.le_refl _) (by simp) ?_; (case hd => rfl); (case hg => rfl); (case hr => first | (go_simp; done) | (go_simp; rfl)); (case hp => exact (Reps.c4 (show Kd.M k66 _ _ _ (⟨1, 0, 9, 0⟩ : S66) [.int .i64 1, .int .i64 0, .int .i64 9, .int .i64 0] from (k66_mkM _ _ _ (⟨1, 0, 9, 0⟩ : S66) )) (Reps.c4 (show Kd.M k66 _ _ _ (⟨0, 0, 4, 0⟩ : S66) [.int .i64 0, .int .i64 0, .int .i64 4, .int .i64 0] from (k66_mkM _ _ _ (⟨0, 0, 4, 0⟩ : S66) )) (Reps.c4 (show Kd.M k66 _ _ _ (⟨2, 3, 9, 0⟩ : S66) [.int .i64 2, .int .i64 3, .int .i64 9, .int .i64 0] from (k66_mkM _ _ _ (⟨2, 3, 9, 0⟩ : S66) )) (Reps.c4 (show Kd.M k66 _ _ _ (⟨3, 0, 7, 0⟩ : S66) [.int .i64 3, .int .i64 0, .int .i64 7, .int .i64 0] from (k66_mkM _ _ _ (⟨3, 0, 7, 0⟩ : S66) )) (Reps.c4 (show Kd.M k66 _ _ _ (⟨4, 5, 9, 1⟩ : S66) [.int .i64 4, .int .i64 5, .int .i64 9, .int .i64 1] from (k66_mkM _ _ _ (⟨4, 5, 9, 1⟩ : S66) )) (Reps.none _ _))))))); intro v181 w2 ho3 hb hg_ hnew_; clear hg_ hnew_; (first | rw [← Ny180.out] at ho3 | (simp only [Int.reduceToNat] at ho3; rw [← Ny180.out] at ho3)); have n0_ := zh (Kd.R_lower ho3 (below_size zb)); have n1_ := zh (blk_below (g := gb179) (o := .cells #[.int .i64 0, .int .i64 0, .int .i64 0, .slice none 0 0] 24 (0, 0)) (zc BK179) hb); have n2_ := zh (below_step zb hb); clear BK179; clear HB; have HO182 := n0_; have BK179 := n1_; have HB := n2_; clear n0_ n1_ n2_; clear hb ho3; obtain ⟨Ao4, co4, eo4⟩ := Kd.R_slice HO182.out; subst eo4; have hcz5_0 : w2.cell? ⟨gb179, 0, none⟩ = some (.int .i64 0) := vb BK179 0; have hcz5_1 : w2.cell? ⟨gb179, 1, none⟩ = some (.int .i64 0) := vb BK179 1; have hcz5_2 : w2.cell? ⟨gb179, 2, none⟩ = some (.int .i64 0) := vb BK179 2; have hcz5_3 : w2.cell? ⟨gb179, 3, none⟩ = some (.slice none 0 0) := vb BK179 3; have hfz5_0 := blk_frozen BK179.out 0; have hfz5_1 := blk_frozen BK179.out 1; have hfz5_2 := blk_frozen BK179.out 2; have hfz5_3 := blk_frozen BK179.out 3))
 refine bodyPost_ret (results_cell_row rfl _ _ gb179 24 #[.int .i64 5, .int .i64 2, .int .i64 4, .slice Ao4 y180.length co4] (0, 0) _ rfl (by (with_reducible repeat (first | refine blk_drewN ?_ _ | refine blk_drew ?_ | refine blk_alloc ?_ _)); refine blk_put (cs := #[.int .i64 5, .int .i64 2, .int .i64 4, .slice none 0 0]) ?_ 3 _ rfl; (with_reducible repeat (first | refine blk_drewN ?_ _ | refine blk_drew ?_ | refine blk_alloc ?_ _)); refine blk_put (cs := #[.int .i64 5, .int .i64 2, .int .i64 0, .slice none 0 0]) ?_ 2 _ rfl; (with_reducible repeat (first | refine blk_drewN ?_ _ | refine blk_drew ?_ | refine blk_alloc ?_ _)); refine blk_put (cs := #[.int .i64 5, .int .i64 0, .int .i64 0, .slice none 0 0]) ?_ 1 _ rfl; (with_reducible repeat (first | refine blk_drewN ?_ _ | refine blk_drew ?_ | refine blk_alloc ?_ _)); refine blk_put (cs := #[.int .i64 0, .int .i64 0, .int .i64 0, .slice none 0 0]) ?_ 0 _ rfl; (with_reducible repeat (first | refine blk_drewN ?_ _ | refine blk_drew ?_ | refine blk_alloc ?_ _)); exact BK179.out) Tryd.underlying24 rfl zk) rfl ?_
 exact ⟨_, zf, by (with_reducible repeat (first | apply Kd.R_alloc | apply Kd.R_drewN | apply Kd.R_drew)); exact Kd.R_mono (Kd.R_far (p := ⟨gb179, 3, none⟩) (Kd.R_far (p := ⟨gb179, 2, none⟩) (Kd.R_far (p := ⟨gb179, 1, none⟩) (Kd.R_far (p := ⟨gb179, 0, none⟩) (Kd.R_types HO182.out BK179.out (by decide)) (fun _ hk => hk.2) (.int .i64 5)) (fun _ hk => hk.2) (.int .i64 2)) (fun _ hk => hk.2) (.int .i64 4)) (fun _ hk => hk.2) (.slice Ao4 y180.length co4)) (fun _ hk => trivial), zb⟩
end Go.Proofs.YtagkfkdoibnhfaaDoor.H
end
section
namespace Go.Proofs.YtagkfkdoibnhfaaDoor.H
open Go.RowKit Go.Proofs.YtagkfkdoibnhfaaDoorW.PrintWords Go.Proofs.YtagkfkdoibnhfaaDoorW.PrintLast Go.Proofs.YtagkfkdoibnhfaaDoorW.PrintMore
attribute [local go_sem] max2_int min2_int max_two min_two max_three min_three max_four min_four   -- for this text's walks alone
set_option linter.unusedVariables false
set_option linter.unusedSimpArgs false
def saronlaw06_of.f (a0 : Int) (l1 : List Int) : Option (Int × List Int) := some (a0, l1)
set_option maxHeartbeats 8000000 in
set_option maxRecDepth 100000 in
theorem saronlaw06_of.calls (a0 : Int) (P1_ : Nat → Prop) (u9000_ : Value) (l1 : List Int) (r1 : Int) (r2 : List Int) (w0 w : World) (hB : Below w0.heap.size w0 w) (ho1 : Kd.R (Kd.int .i64) 3 w w0.heap.size P1_ u9000_ l1) (h : saronlaw06_of.f a0 l1 = some (r1, r2)) :
  Calls Tryd.prog 44 #[.int .i64 a0, u9000_] w fun e w' => ∃ v1_ : Value, e = .returned (.agg #[.int .i64 r1, v1_]) ∧ Kd.R (Kd.int .i64) 3 w' w0.heap.size (fun k_ => (P1_ k_ ∨ w.heap.size ≤ k_)) v1_ r2 ∧ Below w0.heap.size w0 w' ∧ Kept w w' (fun k_ => P1_ k_) := by
 have hu60 := Tryd.underlying60
 have HO1 := zh (show Kd.R (Kd.int .i64) 3 w w0.heap.size (fun k_ => (P1_ k_ ∨ w.heap.size ≤ k_)) u9000_ l1 from Kd.R_mono ho1 (fun k_ hk => (.inl hk)))
 have HK := zh (Kept.refl w (fun k_ => P1_ k_))
 have HW0 := zh hB.size
 have HB := zh hB
 clear hB
 have H : (some (a0, l1)) = some (r1, r2) := h
 clear h
 simp only [Option.some.injEq, Prod.mk.injEq] at H
 obtain ⟨rfl, rfl⟩ := H
 go_enter Tryd.func44, Tryd.ntmps44
 go_wp2_with (first | ((with_reducible refine gate_dst (N := 4) rfl ?_); refine box_event ?hg (N := 4) ?hd (cs := #[.int .i64 0, .slice none 0 0]) (t := 60) ?hr ?_; (case hd => rfl); (case hg => rfl); (case hr => first | (go_simp; done) | (go_simp; rfl)); intro gb183 hg w3 hbox hb; have n0_ := zh (Kd.R_below (zR HO1) hb); have n1_ := zh (Kept.below (S := (fun k_ => P1_ k_)) (by repeat (first | (with_reducible first | exact HK.out | apply Kept.alloc | apply Kept.drewN | apply Kept.drew) | exact HK.out)) hb); have n2_ := zh (below_step zb hb); have n3_ := zh (hbox); have n4_ := zh ((by rw [hg]; exact (by first | exact HK.out.1 | exact (show Kept w _ (fun k_ => P1_ k_) from by repeat (first | (with_reducible first | exact HK.out | apply Kept.alloc | apply Kept.drewN | apply Kept.drew) | exact HK.out)).1) : w.heap.size ≤ gb183)); have n5_ := zh ((by rw [hg]; exact (below_size zb) : w0.heap.size ≤ gb183)); clear HO1; clear HK; clear HB; have HO1 := n0_; have HK := n1_; have HB := n2_; have BK183 := n3_; have GW183 := n4_; have GE183 := n5_; clear n0_ n1_ n2_ n3_ n4_ n5_; clear hb hbox hg; obtain ⟨Ao4, co4, eo4⟩ := Kd.R_slice HO1.out; subst eo4; have hcz5_0 : w3.cell? ⟨gb183, 0, none⟩ = some (.int .i64 0) := vb BK183 0; have hcz5_1 : w3.cell? ⟨gb183, 1, none⟩ = some (.slice none 0 0) := vb BK183 1; have hfz5_0 := blk_frozen BK183.out 0; have hfz5_1 := blk_frozen BK183.out 1))
 refine bodyPost_ret (results_cell_row rfl _ _ gb183 60 #[.int .i64 a0, .slice Ao4 l1.length co4] (0, 0) _ rfl (by (with_reducible repeat (first | refine blk_drewN ?_ _ | refine blk_drew ?_ | refine blk_alloc ?_ _)); refine blk_put (cs := #[.int .i64 a0, .slice none 0 0]) ?_ 1 _ rfl; (with_reducible repeat (first | refine blk_drewN ?_ _ | refine blk_drew ?_ | refine blk_alloc ?_ _)); refine blk_put (cs := #[.int .i64 0, .slice none 0 0]) ?_ 0 _ rfl; (with_reducible repeat (first | refine blk_drewN ?_ _ | refine blk_drew ?_ | refine blk_alloc ?_ _)); exact BK183.out) Tryd.underlying60 rfl zk) rfl ?_
 exact ⟨_, zf, by (with_reducible repeat (first | apply Kd.R_alloc | apply Kd.R_drewN | apply Kd.R_drew)); exact Kd.R_mono (Kd.R_far (p := ⟨gb183, 1, none⟩) (Kd.R_far (p := ⟨gb183, 0, none⟩) (Kd.R_types HO1.out BK183.out (by decide)) (fun _ hk => hk.2) (.int .i64 a0)) (fun _ hk => hk.2) (.slice Ao4 l1.length co4)) (fun _ hk => hk.1), zb, by repeat (first | (with_reducible first | exact HK.out | apply Kept.alloc | apply Kept.drewN | apply Kept.drew | refine Kept.setCell ?_ (.inr GW183.out) _) | exact HK.out)⟩
end Go.Proofs.YtagkfkdoibnhfaaDoor.H
end
section
namespace Go.Proofs.YtagkfkdoibnhfaaDoor.H
open Go.RowKit Go.Proofs.YtagkfkdoibnhfaaDoorW.PrintWords Go.Proofs.YtagkfkdoibnhfaaDoorW.PrintLast Go.Proofs.YtagkfkdoibnhfaaDoorW.PrintMore
attribute [local go_sem] max2_int min2_int max_two min_two max_three min_three max_four min_four   -- for this text's walks alone
set_option linter.unusedVariables false
set_option linter.unusedSimpArgs false
def saronlaw06_some.f  : Option ((List (S60))) := (saronlaw06_of.f 2 (([6, 6, 7, 7, 3, 3, (-2), (-2)] : List Int))).bind fun bt204 => (some (([(⟨bt204.1, bt204.2⟩ : S60)] : List (S60))))
set_option maxHeartbeats 8000000 in
set_option maxRecDepth 100000 in
theorem saronlaw06_some.calls  (r : List (S60)) (w : World) (h : saronlaw06_some.f  = some r) :
  Calls Tryd.prog 51 #[] w fun e w' => ∃ v0_ : Value, e = .returned (v0_) ∧ Kd.N k60 60 w' w.heap.size (fun k_ => (w.heap.size ≤ k_)) v0_ r ∧ Below w.heap.size w w' := by
 have HB := zh (Below.refl w.heap.size w)
 have H : ((saronlaw06_of.f 2 (([6, 6, 7, 7, 3, 3, (-2), (-2)] : List Int))).bind fun bt204 => (some (([(⟨bt204.1, bt204.2⟩ : S60)] : List (S60))))) = some r := h
 clear h
 obtain ⟨y201, hy201⟩ : ∃ y_ : List Int, y_ = (([6, 6, 7, 7, 3, 3, (-2), (-2)] : List Int)) := ⟨_, rfl⟩
 replace H : ((saronlaw06_of.f 2 y201).bind fun bt204 => (some (([(⟨bt204.1, bt204.2⟩ : S60)] : List (S60))))) = some r := by first | (rw [hy201]; with_reducible exact H) | (have H2_ := (Option.bind_some _ _).symm.trans H; rw [hy201]; with_reducible exact H2_) | (have H2_ := (Option.bind_some _ _).symm.trans H; with_reducible exact H2_) | with_reducible exact H | (rw [hy201]; exact H) | exact H
 have Ny201 := zh hy201
 clear hy201
 replace H := Option.bind_eq_some_iff.mp H
 obtain ⟨⟨t204, t205⟩, A10, H⟩ := H
 replace H : (some (([(⟨t204, t205⟩ : S60)] : List (S60)))) = some r := H
 have A1 := zh A10
 clear A10
 obtain ⟨y208, hy208⟩ : ∃ y_ : List (S60), y_ = (([(⟨t204, t205⟩ : S60)] : List (S60))) := ⟨_, rfl⟩
 replace H : (some y208) = some r := by first | (rw [hy208]; with_reducible exact H) | (have H2_ := (Option.bind_some _ _).symm.trans H; rw [hy208]; with_reducible exact H2_) | (have H2_ := (Option.bind_some _ _).symm.trans H; with_reducible exact H2_) | with_reducible exact H | (rw [hy208]; exact H) | exact H
 have Ny208 := zh hy208
 clear hy208
 obtain rfl := Option.some.inj H
 go_enter Tryd.func51, Tryd.ntmps51
 go_wp2_with (first | ((with_reducible refine gate_dst (N := 1) rfl ?_); refine Kd.R_lit (Kd.int .i64) _ 3 ?hg (N := 1) ?hd (xs := ([6, 6, 7, 7, 3, 3, (-2), (-2)] : List Int)) (inner := [.int .i64 6, .int .i64 6, .int .i64 7, .int .i64 7, .int .i64 3, .int .i64 3, .int .i64 (-2), .int .i64 (-2)]) (ok := fun _ => True) (okp := fun _ => True) ?hr ?hp (fun _ hk => hk) trivial (Below.refl _ _) (Nat.le_refl _) (by simp) ?_; (case hd => rfl); (case hg => rfl); (case hr => first | (go_simp; done) | (go_simp; rfl)); (case hp => exact (Reps.one (show Kd.M (Kd.int .i64) _ _ _ 6 [.int .i64 6] from rfl) (Reps.one (show Kd.M (Kd.int .i64) _ _ _ 6 [.int .i64 6] from rfl) (Reps.one (show Kd.M (Kd.int .i64) _ _ _ 7 [.int .i64 7] from rfl) (Reps.one (show Kd.M (Kd.int .i64) _ _ _ 7 [.int .i64 7] from rfl) (Reps.one (show Kd.M (Kd.int .i64) _ _ _ 3 [.int .i64 3] from rfl) (Reps.one (show Kd.M (Kd.int .i64) _ _ _ 3 [.int .i64 3] from rfl) (Reps.one (show Kd.M (Kd.int .i64) _ _ _ (-2) [.int .i64 (-2)] from rfl) (Reps.one (show Kd.M (Kd.int .i64) _ _ _ (-2) [.int .i64 (-2)] from rfl) (Reps.none _ _)))))))))); intro v202 w2 ho3 hb hg_ hnew_; clear hg_ hnew_; (first | rw [← Ny201.out] at ho3 | (simp only [Int.reduceToNat] at ho3; rw [← Ny201.out] at ho3)); have n0_ := zh (Kd.R_lower (Kd.R_newM (M := fun k_ => (w.heap.size ≤ k_)) ho3 (below_size zb) (fun k_ h_ => h_)) (below_size zb)); have n1_ := zh (below_step zb hb); clear HB; have HO203 := n0_; have HB := n1_; clear n0_ n1_; clear hb ho3; obtain ⟨Ao4, co4, eo4⟩ := Kd.R_slice HO203.out; subst eo4) | ((with_reducible refine gate_callee (f := 44) rfl ?_); refine goesL_ (some 2) rfl rfl Tryd.func44 zk rfl #[.int .i64 2, .slice Ao4 y201.length co4] rfl zm ?_; (with_reducible refine (saronlaw06_of.calls 2 (fun k_ => some k_ = (.slice Ao4 y201.length co4 : Value).ownBlock) (.slice Ao4 y201.length co4) y201 t204 t205 w _ ?side1 ?side2 A1.out).mono ?_); (case side1 => repeat (first | (with_reducible first | exact HB.out | apply below_alloc | apply pw_below_drewN | apply below_drew1) | exact HB.out)); (case side2 => exact Kd.R_tight rfl HO203.out); rintro e w5 ⟨v206, rfl, ho0, hb, hkp⟩; refine ⟨_, rfl, ?_⟩; have n0_ := zh (Kd.R_mono (ok' := fun k_ => (w.heap.size ≤ k_)) ho0 (fun k_ hk_ => Or.elim hk_ (fun hs_ => (HO203.out.1 k_ (hs_).symm).1) (fun hn_ => (Nat.le_trans (below_size zb) hn_)))); have n1_ := zh (hb); clear HB; clear HO203; have HO207 := n0_; have HB := n1_; clear n0_ n1_; (try clear hb); (try clear hkp); (try clear ho0); obtain ⟨Ao6, co6, eo6⟩ := Kd.R_slice HO207.out; subst eo6) | ((with_reducible refine gate_dst (N := 3) rfl ?_); refine Kd.N_lit k60 _ 60 ?hg (N' := 3) ?hd (xs := ([(⟨t204, t205⟩ : S60)] : List (S60))) (inner := [.int .i64 t204, .slice Ao6 t205.length co6]) (ok := (fun k_ => (w.heap.size ≤ k_))) (okp := (fun k_ => (w.heap.size ≤ k_))) ?hr ?hp (fun _ hk => hk) ((show ∀ k_, w5.heap.size ≤ k_ → (fun k_ => (w.heap.size ≤ k_)) k_ from fun k_ hk => (Nat.le_trans (below_size zb) hk)) _ (Nat.le_refl _)) (Below.refl _ _) (Nat.le_refl _) (by simp) ?_; (case hd => rfl); (case hg => rfl); (case hr => first | (go_simp; done) | (go_simp; rfl)); (case hp => exact (Reps.c2 (show Kd.FK k60 _ _ (⟨t204, t205⟩ : S60) [.int .i64 t204, .slice Ao6 t205.length co6] from (k60_mkF _ _ (⟨t204, t205⟩ : S60) (Kd.R_reads' (Kd.R_mono (ok' := (fun k_ => (w.heap.size ≤ k_))) (HO207.out) (fun k_ hk => hk))).2.1 (Kd.R_F (Kd.R_mono (ok' := (fun k_ => (w.heap.size ≤ k_))) (HO207.out) (fun k_ hk => hk))))) (Reps.none _ _))); intro v209 w7 ho8 hb hg_ hnew_; clear hg_ hnew_; (first | rw [← Ny208.out] at ho8 | (simp only [Int.reduceToNat] at ho8; rw [← Ny208.out] at ho8)); have n0_ := zh (Kd.N_lower ho8 (below_size zb)); have n1_ := zh (below_step zb hb); clear HB; clear HO207; have HO210 := n0_; have HB := n1_; clear n0_ n1_; clear hb ho8))
 go_ret
 exact ⟨_, zf, (zN HO210), zb⟩
end Go.Proofs.YtagkfkdoibnhfaaDoor.H
end
section
namespace Go.Proofs.YtagkfkdoibnhfaaDoor.H
open Go.RowKit Go.Proofs.YtagkfkdoibnhfaaDoorW.PrintWords Go.Proofs.YtagkfkdoibnhfaaDoorW.PrintLast Go.Proofs.YtagkfkdoibnhfaaDoorW.PrintMore
attribute [local go_sem] max2_int min2_int max_two min_two max_three min_three max_four min_four   -- for this text's walks alone
set_option linter.unusedVariables false
set_option linter.unusedSimpArgs false
def saronlaw06_both.f  : Option ((List (S60))) := (saronlaw06_some.f).bind fun t211 => ((saronlaw06_of.f 3 (([1, (-2), (-2), 7, (-2), (-2), 3, 5] : List Int))).bind fun bt217 => (if t211.length < 4398046511104 then (some (t211 ++ [(⟨bt217.1, bt217.2⟩ : S60)])) else (none)))
set_option maxHeartbeats 8000000 in
set_option maxRecDepth 100000 in
theorem saronlaw06_both.calls  (r : List (S60)) (w : World) (h : saronlaw06_both.f  = some r) :
  Calls Tryd.prog 52 #[] w fun e w' => ∃ v0_ : Value, e = .returned (v0_) ∧ Kd.N k60 60 w' w.heap.size (fun k_ => (w.heap.size ≤ k_)) v0_ r ∧ Below w.heap.size w w' := by
 have HB := zh (Below.refl w.heap.size w)
 have H : ((saronlaw06_some.f).bind fun t211 => ((saronlaw06_of.f 3 (([1, (-2), (-2), 7, (-2), (-2), 3, 5] : List Int))).bind fun bt217 => (if t211.length < 4398046511104 then (some (t211 ++ [(⟨bt217.1, bt217.2⟩ : S60)])) else (none)))) = some r := h
 clear h
 replace H := Option.bind_eq_some_iff.mp H
 obtain ⟨t211, A10, H⟩ := H
 replace H : ((saronlaw06_of.f 3 (([1, (-2), (-2), 7, (-2), (-2), 3, 5] : List Int))).bind fun bt217 => (if t211.length < 4398046511104 then (some (t211 ++ [(⟨bt217.1, bt217.2⟩ : S60)])) else (none))) = some r := H
 have A1 := zh A10
 clear A10
 obtain ⟨y214, hy214⟩ : ∃ y_ : List Int, y_ = (([1, (-2), (-2), 7, (-2), (-2), 3, 5] : List Int)) := ⟨_, rfl⟩
 replace H : ((saronlaw06_of.f 3 y214).bind fun bt217 => (if t211.length < 4398046511104 then (some (t211 ++ [(⟨bt217.1, bt217.2⟩ : S60)])) else (none))) = some r := by first | (rw [hy214]; with_reducible exact H) | (have H2_ := (Option.bind_some _ _).symm.trans H; rw [hy214]; with_reducible exact H2_) | (have H2_ := (Option.bind_some _ _).symm.trans H; with_reducible exact H2_) | with_reducible exact H | (rw [hy214]; exact H) | exact H
 have Ny214 := zh hy214
 clear hy214
 replace H := Option.bind_eq_some_iff.mp H
 obtain ⟨⟨t217, t218⟩, A20, H⟩ := H
 replace H : (if t211.length < 4398046511104 then (some (t211 ++ [(⟨t217, t218⟩ : S60)])) else (none)) = some r := H
 have A2 := zh A20
 clear A20
 by_cases c3 : t211.length < 4398046511104
 ·rw [if_pos c3] at H
  have LMc3 := zh c3
  clear c3
  obtain ⟨y221, hy221⟩ : ∃ y_ : List (S60), y_ = (t211 ++ [(⟨t217, t218⟩ : S60)]) := ⟨_, rfl⟩
  replace H : (some y221) = some r := by first | (rw [hy221]; with_reducible exact H) | (have H2_ := (Option.bind_some _ _).symm.trans H; rw [hy221]; with_reducible exact H2_) | (have H2_ := (Option.bind_some _ _).symm.trans H; with_reducible exact H2_) | with_reducible exact H | (rw [hy221]; exact H) | exact H
  have Ny221 := zh hy221
  clear hy221
  obtain rfl := Option.some.inj H
  go_enter Tryd.func52, Tryd.ntmps52
  go_wp2_with (first | ((with_reducible refine gate_callee (f := 51) rfl ?_); refine goesL_ (some 1) rfl rfl Tryd.func51 zk rfl #[] rfl zm ?_; (with_reducible refine (saronlaw06_some.calls  t211 _ A1.out).mono ?_); rintro e w4 ⟨v212, rfl, ho0, hb⟩; refine ⟨_, rfl, ?_⟩; have n0_ := zh (Kd.N_lower (Kd.N_mono (ok' := fun k_ => (w.heap.size ≤ k_)) ho0 (fun k_ hk_ => (Nat.le_trans (below_size zb) hk_))) (below_size zb)); have n1_ := zh (below_step zb hb); clear HB; have HO213 := n0_; have HB := n1_; clear n0_ n1_; (try clear hb); (try clear hb2); (try clear hk); (try clear hi); (try clear ho0)) | ((with_reducible refine gate_dst (N := 2) rfl ?_); refine Kd.R_lit (Kd.int .i64) _ 3 ?hg (N := 2) ?hd (xs := ([1, (-2), (-2), 7, (-2), (-2), 3, 5] : List Int)) (inner := [.int .i64 1, .int .i64 (-2), .int .i64 (-2), .int .i64 7, .int .i64 (-2), .int .i64 (-2), .int .i64 3, .int .i64 5]) (ok := fun _ => True) (okp := fun _ => True) ?hr ?hp (fun _ hk => hk) trivial (Below.refl _ _) (Nat.le_refl _) (by simp) ?_; (case hd => rfl); (case hg => rfl); (case hr => first | (go_simp; done) | (go_simp; rfl)); (case hp => exact (Reps.one (show Kd.M (Kd.int .i64) _ _ _ 1 [.int .i64 1] from rfl) (Reps.one (show Kd.M (Kd.int .i64) _ _ _ (-2) [.int .i64 (-2)] from rfl) (Reps.one (show Kd.M (Kd.int .i64) _ _ _ (-2) [.int .i64 (-2)] from rfl) (Reps.one (show Kd.M (Kd.int .i64) _ _ _ 7 [.int .i64 7] from rfl) (Reps.one (show Kd.M (Kd.int .i64) _ _ _ (-2) [.int .i64 (-2)] from rfl) (Reps.one (show Kd.M (Kd.int .i64) _ _ _ (-2) [.int .i64 (-2)] from rfl) (Reps.one (show Kd.M (Kd.int .i64) _ _ _ 3 [.int .i64 3] from rfl) (Reps.one (show Kd.M (Kd.int .i64) _ _ _ 5 [.int .i64 5] from rfl) (Reps.none _ _)))))))))); intro v215 w5 ho6 hb hg_ hnew_; clear hg_ hnew_; (first | rw [← Ny214.out] at ho6 | (simp only [Int.reduceToNat] at ho6; rw [← Ny214.out] at ho6)); have n0_ := zh (Kd.N_elder' (zN HO213) (Kd.R_base ho6) hb); have n1_ := zh (Kd.R_lower (Kd.R_newM (M := fun k_ => (w.heap.size ≤ k_)) ho6 (below_size zb) (fun k_ h_ => h_)) (below_size zb)); have n2_ := zh (below_step zb hb); clear HO213; clear HB; have HO213 := n0_; have HO216 := n1_; have HB := n2_; clear n0_ n1_ n2_; clear hb ho6; obtain ⟨Ao7, co7, eo7⟩ := Kd.R_slice HO216.out; subst eo7) | ((with_reducible refine gate_callee (f := 44) rfl ?_); refine goesL_ (some 3) rfl rfl Tryd.func44 zk rfl #[.int .i64 3, .slice Ao7 y214.length co7] rfl zm ?_; (with_reducible refine (saronlaw06_of.calls 3 (fun k_ => some k_ = (.slice Ao7 y214.length co7 : Value).ownBlock) (.slice Ao7 y214.length co7) y214 t217 t218 w _ ?side1 ?side2 A2.out).mono ?_); (case side1 => repeat (first | (with_reducible first | exact HB.out | apply below_alloc | apply pw_below_drewN | apply below_drew1) | exact HB.out)); (case side2 => exact Kd.R_tight rfl HO216.out); rintro e w8 ⟨v219, rfl, ho0, hb, hkp⟩; refine ⟨_, rfl, ?_⟩; have n0_ := zh (Kd.N_mono (ok' := fun k_ => (w.heap.size ≤ k_) ∧ some k_ ≠ (v219 : Value).ownBlock) (Kd.N_keptB (HO213.out) hkp (fun k_ hk_ hs_ => (hk_.2) hs_)) (fun k_ hk_ => ⟨hk_.1.1, fun e_ => Or.elim (ho0.1 k_ e_.symm) (fun hs_ => hk_.2.1 hs_) (fun hn_ => Nat.not_le.2 hk_.2.2 hn_)⟩)); have n1_ := zh (Kd.R_mono (ok' := fun k_ => (w.heap.size ≤ k_)) ho0 (fun k_ hk_ => Or.elim hk_ (fun hs_ => (HO216.out.1 k_ (hs_).symm).1) (fun hn_ => (Nat.le_trans (below_size zb) hn_)))); have n2_ := zh (hb); clear HO213; clear HB; clear HO216; have HO213 := n0_; have HO220 := n1_; have HB := n2_; clear n0_ n1_ n2_; (try clear hb); (try clear hkp); (try clear ho0); obtain ⟨Ao10, co10, eo10⟩ := Kd.R_slice HO220.out; subst eo10) | ((with_reducible refine gate_builtin (b := .append) (xs := #[.tmp 1, .tmp 4]) rfl ?_); at_builtin; refine Kd.N_append k60 (w0 := w) w.heap.size rfl (.tmp 1) (.tmp 4) 33 60 (.agg #[(.int .i64 0), (.slice none 0 0)]) 32 rfl Tryd.underlying33 info60 rfl (by decide) (by omega) v212 t211 (⟨t217, t218⟩ : S60) [.int .i64 t217, .slice Ao10 t218.length co10] (fun k_ => (w.heap.size ≤ k_)) (fun k_ => ((fun k_ => (w.heap.size ≤ k_))) k_ ∧ some k_ ≠ (v212 : Value).ownBlock) rfl rfl ?aP (fun _ hk => hk) ?aF ?aO ?aB ?aS ?aL ?_; (case aP => exact (k60_mkF _ _ (⟨t217, t218⟩ : S60) (Kd.R_reads' (Kd.R_mono (ok' := (fun k_ => ((fun k_ => (w.heap.size ≤ k_))) k_ ∧ some k_ ≠ (v212 : Value).ownBlock)) (Kd.R_apart' (HO220.out) (Kd.N_typed HO213.out) (by decide)) (fun k_ hk => ⟨hk.1, hk.2⟩))).2.1 (Kd.R_F (Kd.R_mono (ok' := (fun k_ => ((fun k_ => (w.heap.size ≤ k_))) k_ ∧ some k_ ≠ (v212 : Value).ownBlock)) (Kd.R_apart' (HO220.out) (Kd.N_typed HO213.out) (by decide)) (fun k_ hk => ⟨hk.1, hk.2⟩))))); (case aB => exact zb); (case aF => exact (fun k_ hk => (Nat.le_trans (below_size zb) hk))); (case aO => exact (by (with_reducible repeat (first | apply Kd.N_alloc | apply Kd.N_drewN | apply Kd.N_drew)); exact Kd.N_mono HO213.out (fun _ hk => hk.1))); (case aS => exact (below_size zb)); (case aL => have := LMc3.out; omega); intro v222 w9 ho hb hg hat; rw [← Ny221.out] at ho; have n0_ := zh (hb); have n1_ := zh (ho); clear HB; clear HO213; clear HO220; have HB := n0_; have HO223 := n1_; clear n0_ n1_; clear ho hb hg hat))
  go_ret
  exact ⟨_, zf, (zN HO223), zb⟩
 ·rw [if_neg c3] at H
  exact absurd H (by simp)
end Go.Proofs.YtagkfkdoibnhfaaDoor.H
end
section
namespace Go.Proofs.YtagkfkdoibnhfaaDoor.H
open Go.RowKit Go.Proofs.YtagkfkdoibnhfaaDoorW.PrintWords Go.Proofs.YtagkfkdoibnhfaaDoorW.PrintLast Go.Proofs.YtagkfkdoibnhfaaDoorW.PrintMore
attribute [local go_sem] max2_int min2_int max_two min_two max_three min_three max_four min_four   -- for this text's walks alone
set_option linter.unusedVariables false
set_option linter.unusedSimpArgs false
def saronlaw06_torn.f  : Option ((List (S60))) := (saronlaw06_of.f 0 (([1, 7, 3, 5] : List Int))).bind fun bt187 => ((saronlaw06_of.f 1 (([3, 0] : List Int))).bind fun bt194 => (some (([(⟨bt187.1, bt187.2⟩ : S60), (⟨bt194.1, bt194.2⟩ : S60)] : List (S60)))))
set_option maxHeartbeats 8000000 in
set_option maxRecDepth 100000 in
theorem saronlaw06_torn.calls  (r : List (S60)) (w : World) (h : saronlaw06_torn.f  = some r) :
  Calls Tryd.prog 50 #[] w fun e w' => ∃ v0_ : Value, e = .returned (v0_) ∧ Kd.N k60 60 w' w.heap.size (fun k_ => (w.heap.size ≤ k_)) v0_ r ∧ Below w.heap.size w w' := by
 have HB := zh (Below.refl w.heap.size w)
 have H : ((saronlaw06_of.f 0 (([1, 7, 3, 5] : List Int))).bind fun bt187 => ((saronlaw06_of.f 1 (([3, 0] : List Int))).bind fun bt194 => (some (([(⟨bt187.1, bt187.2⟩ : S60), (⟨bt194.1, bt194.2⟩ : S60)] : List (S60)))))) = some r := h
 clear h
 obtain ⟨y184, hy184⟩ : ∃ y_ : List Int, y_ = (([1, 7, 3, 5] : List Int)) := ⟨_, rfl⟩
 replace H : ((saronlaw06_of.f 0 y184).bind fun bt187 => ((saronlaw06_of.f 1 (([3, 0] : List Int))).bind fun bt194 => (some (([(⟨bt187.1, bt187.2⟩ : S60), (⟨bt194.1, bt194.2⟩ : S60)] : List (S60)))))) = some r := by first | (rw [hy184]; with_reducible exact H) | (have H2_ := (Option.bind_some _ _).symm.trans H; rw [hy184]; with_reducible exact H2_) | (have H2_ := (Option.bind_some _ _).symm.trans H; with_reducible exact H2_) | with_reducible exact H | (rw [hy184]; exact H) | exact H
 have Ny184 := zh hy184
 clear hy184
 replace H := Option.bind_eq_some_iff.mp H
 obtain ⟨⟨t187, t188⟩, A10, H⟩ := H
 replace H : ((saronlaw06_of.f 1 (([3, 0] : List Int))).bind fun bt194 => (some (([(⟨t187, t188⟩ : S60), (⟨bt194.1, bt194.2⟩ : S60)] : List (S60))))) = some r := H
 have A1 := zh A10
 clear A10
 obtain ⟨y191, hy191⟩ : ∃ y_ : List Int, y_ = (([3, 0] : List Int)) := ⟨_, rfl⟩
 replace H : ((saronlaw06_of.f 1 y191).bind fun bt194 => (some (([(⟨t187, t188⟩ : S60), (⟨bt194.1, bt194.2⟩ : S60)] : List (S60))))) = some r := by first | (rw [hy191]; with_reducible exact H) | (have H2_ := (Option.bind_some _ _).symm.trans H; rw [hy191]; with_reducible exact H2_) | (have H2_ := (Option.bind_some _ _).symm.trans H; with_reducible exact H2_) | with_reducible exact H | (rw [hy191]; exact H) | exact H
 have Ny191 := zh hy191
 clear hy191
 replace H := Option.bind_eq_some_iff.mp H
 obtain ⟨⟨t194, t195⟩, A20, H⟩ := H
 replace H : (some (([(⟨t187, t188⟩ : S60), (⟨t194, t195⟩ : S60)] : List (S60)))) = some r := H
 have A2 := zh A20
 clear A20
 obtain ⟨y198, hy198⟩ : ∃ y_ : List (S60), y_ = (([(⟨t187, t188⟩ : S60), (⟨t194, t195⟩ : S60)] : List (S60))) := ⟨_, rfl⟩
 replace H : (some y198) = some r := by first | (rw [hy198]; with_reducible exact H) | (have H2_ := (Option.bind_some _ _).symm.trans H; rw [hy198]; with_reducible exact H2_) | (have H2_ := (Option.bind_some _ _).symm.trans H; with_reducible exact H2_) | with_reducible exact H | (rw [hy198]; exact H) | exact H
 have Ny198 := zh hy198
 clear hy198
 obtain rfl := Option.some.inj H
 go_enter Tryd.func50, Tryd.ntmps50
 go_wp2_with (first | ((with_reducible refine gate_dst (N := 1) rfl ?_); refine Kd.R_lit (Kd.int .i64) _ 3 ?hg (N := 1) ?hd (xs := ([1, 7, 3, 5] : List Int)) (inner := [.int .i64 1, .int .i64 7, .int .i64 3, .int .i64 5]) (ok := fun _ => True) (okp := fun _ => True) ?hr ?hp (fun _ hk => hk) trivial (Below.refl _ _) (Nat.le_refl _) (by simp) ?_; (case hd => rfl); (case hg => rfl); (case hr => first | (go_simp; done) | (go_simp; rfl)); (case hp => exact (Reps.one (show Kd.M (Kd.int .i64) _ _ _ 1 [.int .i64 1] from rfl) (Reps.one (show Kd.M (Kd.int .i64) _ _ _ 7 [.int .i64 7] from rfl) (Reps.one (show Kd.M (Kd.int .i64) _ _ _ 3 [.int .i64 3] from rfl) (Reps.one (show Kd.M (Kd.int .i64) _ _ _ 5 [.int .i64 5] from rfl) (Reps.none _ _)))))); intro v185 w3 ho4 hb hg_ hnew_; clear hg_ hnew_; (first | rw [← Ny184.out] at ho4 | (simp only [Int.reduceToNat] at ho4; rw [← Ny184.out] at ho4)); have n0_ := zh (Kd.R_lower (Kd.R_newM (M := fun k_ => (w.heap.size ≤ k_)) ho4 (below_size zb) (fun k_ h_ => h_)) (below_size zb)); have n1_ := zh (below_step zb hb); clear HB; have HO186 := n0_; have HB := n1_; clear n0_ n1_; clear hb ho4; obtain ⟨Ao5, co5, eo5⟩ := Kd.R_slice HO186.out; subst eo5) | ((with_reducible refine gate_callee (f := 44) rfl ?_); refine goesL_ (some 2) rfl rfl Tryd.func44 zk rfl #[.int .i64 0, .slice Ao5 y184.length co5] rfl zm ?_; (with_reducible refine (saronlaw06_of.calls 0 (fun k_ => some k_ = (.slice Ao5 y184.length co5 : Value).ownBlock) (.slice Ao5 y184.length co5) y184 t187 t188 w _ ?side1 ?side2 A1.out).mono ?_); (case side1 => repeat (first | (with_reducible first | exact HB.out | apply below_alloc | apply pw_below_drewN | apply below_drew1) | exact HB.out)); (case side2 => exact Kd.R_tight rfl HO186.out); rintro e w6 ⟨v189, rfl, ho0, hb, hkp⟩; refine ⟨_, rfl, ?_⟩; have n0_ := zh (Kd.R_mono (ok' := fun k_ => (w.heap.size ≤ k_)) ho0 (fun k_ hk_ => Or.elim hk_ (fun hs_ => (HO186.out.1 k_ (hs_).symm).1) (fun hn_ => (Nat.le_trans (below_size zb) hn_)))); have n1_ := zh (hb); clear HB; clear HO186; have HO190 := n0_; have HB := n1_; clear n0_ n1_; (try clear hb); (try clear hkp); (try clear ho0)) | ((with_reducible refine gate_dst (N := 3) rfl ?_); refine Kd.R_lit (Kd.int .i64) _ 3 ?hg (N := 3) ?hd (xs := ([3, 0] : List Int)) (inner := [.int .i64 3, .int .i64 0]) (ok := fun _ => True) (okp := fun _ => True) ?hr ?hp (fun _ hk => hk) trivial (Below.refl _ _) (Nat.le_refl _) (by simp) ?_; (case hd => rfl); (case hg => rfl); (case hr => first | (go_simp; done) | (go_simp; rfl)); (case hp => exact (Reps.one (show Kd.M (Kd.int .i64) _ _ _ 3 [.int .i64 3] from rfl) (Reps.one (show Kd.M (Kd.int .i64) _ _ _ 0 [.int .i64 0] from rfl) (Reps.none _ _)))); intro v192 w7 ho8 hb hg_ hnew_; clear hg_ hnew_; (first | rw [← Ny191.out] at ho8 | (simp only [Int.reduceToNat] at ho8; rw [← Ny191.out] at ho8)); have n0_ := zh (Kd.R_elder' (zR HO190) (Kd.R_base ho8) hb); have n1_ := zh (Kd.R_lower (Kd.R_new' (Kd.R_newM (M := fun k_ => (w.heap.size ≤ k_)) ho8 (below_size zb) (fun k_ h_ => h_)) (Kd.R_lt (zR HO190))) (below_size zb)); have n2_ := zh (below_step zb hb); clear HO190; clear HB; have HO190 := n0_; have HO193 := n1_; have HB := n2_; clear n0_ n1_ n2_; clear hb ho8; obtain ⟨Ao9, co9, eo9⟩ := Kd.R_slice HO193.out; subst eo9) | ((with_reducible refine gate_callee (f := 44) rfl ?_); refine goesL_ (some 4) rfl rfl Tryd.func44 zk rfl #[.int .i64 1, .slice Ao9 y191.length co9] rfl zm ?_; (with_reducible refine (saronlaw06_of.calls 1 (fun k_ => some k_ = (.slice Ao9 y191.length co9 : Value).ownBlock) (.slice Ao9 y191.length co9) y191 t194 t195 w _ ?side1 ?side2 A2.out).mono ?_); (case side1 => repeat (first | (with_reducible first | exact HB.out | apply below_alloc | apply pw_below_drewN | apply below_drew1) | exact HB.out)); (case side2 => exact Kd.R_tight rfl HO193.out); rintro e w10 ⟨v196, rfl, ho0, hb, hkp⟩; refine ⟨_, rfl, ?_⟩; have n0_ := zh (Kd.R_mono (ok' := fun k_ => (w.heap.size ≤ k_) ∧ some k_ ≠ (v196 : Value).ownBlock) (Kd.R_keptB (HO190.out) hkp (fun k_ hk_ hs_ => (hk_.2) hs_)) (fun k_ hk_ => ⟨hk_.1.1, fun e_ => Or.elim (ho0.1 k_ e_.symm) (fun hs_ => hk_.2.1 hs_) (fun hn_ => Nat.not_le.2 hk_.2.2 hn_)⟩)); have n1_ := zh (Kd.R_mono (ok' := fun k_ => (w.heap.size ≤ k_) ∧ some k_ ≠ (v189 : Value).ownBlock) ho0 (fun k_ hk_ => ⟨Or.elim hk_ (fun hs_ => (HO193.out.1 k_ (hs_).symm).1.1) (fun hn_ => (Nat.le_trans (below_size zb) hn_)), Or.elim hk_ (fun hs_ => fun e_ => (((HO190.out).1 k_ e_.symm).2) hs_) (fun hn_ => (Kd.fresh' (Kd.R_lt (zR HO190)) k_ hn_))⟩)); have n2_ := zh (hb); clear HO190; clear HB; clear HO193; have HO190 := n0_; have HO197 := n1_; have HB := n2_; clear n0_ n1_ n2_; (try clear hb); (try clear hkp); (try clear ho0); obtain ⟨Ao11, co11, eo11⟩ := Kd.R_slice HO190.out; subst eo11; obtain ⟨Ao12, co12, eo12⟩ := Kd.R_slice HO197.out; subst eo12) | ((with_reducible refine gate_dst (N := 5) rfl ?_); refine Kd.N_lit k60 _ 60 ?hg (N' := 5) ?hd (xs := ([(⟨t187, t188⟩ : S60), (⟨t194, t195⟩ : S60)] : List (S60))) (inner := [.int .i64 t187, .slice Ao11 t188.length co11, .int .i64 t194, .slice Ao12 t195.length co12]) (ok := (fun k_ => (w.heap.size ≤ k_))) (okp := (fun k_ => (w.heap.size ≤ k_))) ?hr ?hp (fun _ hk => hk) ((show ∀ k_, w10.heap.size ≤ k_ → (fun k_ => (w.heap.size ≤ k_)) k_ from fun k_ hk => (Nat.le_trans (below_size zb) hk)) _ (Nat.le_refl _)) (Below.refl _ _) (Nat.le_refl _) (by simp) ?_; (case hd => rfl); (case hg => rfl); (case hr => first | (go_simp; done) | (go_simp; rfl)); (case hp => exact (Reps.c2 (show Kd.FK k60 _ _ (⟨t187, t188⟩ : S60) [.int .i64 t187, .slice Ao11 t188.length co11] from (k60_mkF _ _ (⟨t187, t188⟩ : S60) (Kd.R_reads' (Kd.R_mono (ok' := (fun k_ => (w.heap.size ≤ k_))) (HO190.out) (fun k_ hk => hk.1))).2.1 (Kd.R_F (Kd.R_mono (ok' := (fun k_ => (w.heap.size ≤ k_))) (HO190.out) (fun k_ hk => hk.1))))) (Reps.c2 (show Kd.FK k60 _ _ (⟨t194, t195⟩ : S60) [.int .i64 t194, .slice Ao12 t195.length co12] from (k60_mkF _ _ (⟨t194, t195⟩ : S60) (Kd.R_reads' (Kd.R_mono (ok' := (fun k_ => (w.heap.size ≤ k_))) (HO197.out) (fun k_ hk => hk.1))).2.1 (Kd.R_F (Kd.R_mono (ok' := (fun k_ => (w.heap.size ≤ k_))) (HO197.out) (fun k_ hk => hk.1))))) (Reps.none _ _)))); intro v199 w13 ho14 hb hg_ hnew_; clear hg_ hnew_; (first | rw [← Ny198.out] at ho14 | (simp only [Int.reduceToNat] at ho14; rw [← Ny198.out] at ho14)); have n0_ := zh (Kd.N_lower ho14 (below_size zb)); have n1_ := zh (below_step zb hb); clear HB; clear HO190; clear HO197; have HO200 := n0_; have HB := n1_; clear n0_ n1_; clear hb ho14))
 go_ret
 exact ⟨_, zf, (zN HO200), zb⟩
end Go.Proofs.YtagkfkdoibnhfaaDoor.H
end
section
namespace Go.Proofs.YtagkfkdoibnhfaaDoor.H
open Go.RowKit Go.Proofs.YtagkfkdoibnhfaaDoorW.PrintWords Go.Proofs.YtagkfkdoibnhfaaDoorW.PrintLast Go.Proofs.YtagkfkdoibnhfaaDoorW.PrintMore
attribute [local go_sem] max2_int min2_int max_two min_two max_three min_three max_four min_four   -- for this text's walks alone
set_option linter.unusedVariables false
set_option linter.unusedSimpArgs false
attribute [local go_sem high] eqA61
def saronref06_SamePairs.l0 : Nat → List (S61) → List (S61) → Bool → Int → Option (Bool)
 | 0, _, _, _, _ => none
 | k + 1, x0, x1, x5, x6 => if x5 = true then (if x6 < (x0.length : Int) then (if 0 ≤ x6 then (if x6 < (x1.length : Int) then (saronref06_SamePairs.l0 k x0 x1 (((rd_T61 x0 x6).f0) == ((rd_T61 x1 x6).f0) && (((rd_T61 x0 x6).f1) == ((rd_T61 x1 x6).f1))) (wrap64 (x6 + 1))) else (none)) else (none)) else (some x5)) else (some x5)
def saronref06_SamePairs.f (k : Nat) (l0 : List (S61)) (l1 : List (S61)) : Option (Bool) := saronref06_SamePairs.l0 k l0 l1 ((l0.length : Int) == (l1.length : Int)) 0
set_option maxHeartbeats 8000000 in
set_option maxRecDepth 100000 in
theorem saronref06_SamePairs.calls (k : Nat) (A0 : Option Addr) (c0 : Nat) (l0 : List (S61)) (A1 : Option Addr) (c1 : Nat) (l1 : List (S61)) (r : Bool) (w : World) (hr0 : Kd.C k61 w A0 l0.length l0) (hc0 : l0.length ≤ c0) (hr1 : Kd.C k61 w A1 l1.length l1) (hc1 : l1.length ≤ c1) (h : saronref06_SamePairs.f k l0 l1 = some r) :
  Calls Tryd.prog 35 #[.slice A0 l0.length c0, .slice A1 l1.length c1] w fun e w' => e = .returned (.bool r) ∧ Drawn0 w w' := by
 have hu61 := Tryd.underlying61
 have HR0 := zh hr0
 have HC0 := zh hc0
 clear hr0 hc0
 have HR1 := zh hr1
 have HC1 := zh hc1
 clear hr1 hc1
 have H : (saronref06_SamePairs.l0 k l0 l1 ((l0.length : Int) == (l1.length : Int)) 0) = some r := h
 clear h
 have H' := zh H
 clear H
 go_enter Tryd.func35, Tryd.ntmps35
 go_wp2
 repeat (go_quiet (fail); try go_wp2)
 go_loopg [5, 6] k (fun kq v5 v6 w' => ∃ (x5_1 : Bool) (x6_1 : Int), v5 = .bool x5_1 ∧ v6 = .int .i64 x6_1 ∧ Aside0 (saronref06_SamePairs.l0 kq l0 l1 x5_1 x6_1 = some r) ∧ Aside0 (kq ≤ k) ∧ Drawn0 w w')
 case atStart => exact ⟨(((l0.length : Int) == (l1.length : Int))), (0), ze, ze, H', ⟨Nat.le_refl _⟩, by repeat (first | exact Drawn0.refl _ | apply Drawn0.step)⟩
 case round =>
  clear H'
  try clear c1
  try clear p2
  obtain ⟨x5_1, x6_1, rfl, rfl, HA, HK1, ⟨m1, rfl⟩⟩ := hrel
  cases gk with
  | zero => exact absurd HA.out (by simp [saronref06_SamePairs.l0])
  | succ k1 =>
   have H := HA.out
   clear HA
   simp only [saronref06_SamePairs.l0] at H
   by_cases c3 : x5_1 = true
   ·subst c3
    have H1 : (if x6_1 < (l0.length : Int) then (if 0 ≤ x6_1 then (if x6_1 < (l1.length : Int) then (saronref06_SamePairs.l0 k1 l0 l1 (((rd_T61 l0 x6_1).f0) == ((rd_T61 l1 x6_1).f0) && (((rd_T61 l0 x6_1).f1) == ((rd_T61 l1 x6_1).f1))) (wrap64 (x6_1 + 1))) else (none)) else (none)) else (some true)) = some r := by rw [if_pos rfl] at H; exact H
    clear H
    have H := H1
    clear H1
    by_cases c4 : x6_1 < (l0.length : Int)
    ·rw [if_pos c4] at H
     have c4b0 : decide (x6_1 < (l0.length : Int)) = true := decide_eq_true c4
     clear c4
     by_cases c5 : 0 ≤ x6_1
     ·rw [if_pos c5] at H
      have c5b0 : decide (0 ≤ x6_1) = true := decide_eq_true c5
      clear c5
      by_cases c6 : x6_1 < (l1.length : Int)
      ·rw [if_pos c6] at H
       have c6b0 : decide (x6_1 < (l1.length : Int)) = true := decide_eq_true c6
       clear c6
       have H' := zh H
       clear H
       have p177 : 0 ≤ (x6_1 : Int) := of_decide_eq_true zs
       have q177 : x6_1 < (l0.length : Int) := of_decide_eq_true zs
       obtain ⟨ad177, e177, hx177_0, hx177_1⟩ := at_T61 HR0.out x6_1 p177 q177
       cases e177
       replace p177 := eq_true p177
       replace q177 := eq_true q177
       have p178 : 0 ≤ (x6_1 : Int) := of_decide_eq_true zs
       have q178 : x6_1 < (l1.length : Int) := of_decide_eq_true zs
       obtain ⟨ad178, e178, hx178_0, hx178_1⟩ := at_T61 HR1.out x6_1 p178 q178
       cases e178
       replace p178 := eq_true p178
       replace q178 := eq_true q178
       go_wp2
       repeat (go_quiet (fail); try go_wp2)
       go_roundg k1
       case measure => have := HK1.out; omega
       case rel => exact ⟨((((rd_T61 l0 x6_1).f0) == ((rd_T61 l1 x6_1).f0) && (((rd_T61 l0 x6_1).f1) == ((rd_T61 l1 x6_1).f1)))), (wrap64 (x6_1 + 1)), ze, ze, H', ⟨by have := HK1.out; omega⟩, by repeat (first | exact Drawn0.refl _ | apply Drawn0.step)⟩
      ·rw [if_neg c6] at H
       exact absurd H (by simp)
     ·rw [if_neg c5] at H
      exact absurd H (by simp)
    ·rw [if_neg c4] at H
     have c4b0 : decide (x6_1 < (l0.length : Int)) = false := decide_eq_false c4
     clear c4
     obtain rfl := Option.some.inj H
     go_wp2
     repeat (go_quiet (fail); try go_wp2)
     go_ret
     exact ⟨ze, by repeat (first | exact Drawn0.refl _ | apply Drawn0.step)⟩
   ·replace c3 := Bool.eq_false_iff.mpr c3
    subst c3
    have H1 : (some false) = some r := by rw [if_neg (show ¬ (false = true) by decide)] at H; exact H
    clear H
    have H := H1
    clear H1
    obtain rfl := Option.some.inj H
    go_wp2
    repeat (go_quiet (fail); try go_wp2)
    go_ret
    exact ⟨ze, by repeat (first | exact Drawn0.refl _ | apply Drawn0.step)⟩
end Go.Proofs.YtagkfkdoibnhfaaDoor.H
end
section
namespace Go.Proofs.YtagkfkdoibnhfaaDoor.K
open Go.RowKit Go.Shelf Go.Proofs.YtagkfkdoibnhfaaDoorW.PrintWords Go.Proofs.YtagkfkdoibnhfaaDoorW.PrintLast Go.Proofs.YtagkfkdoibnhfaaDoorW.PrintMore Go.Proofs.YtagkfkdoibnhfaaDoor.H
set_option linter.unusedVariables false
set_option linter.unusedSimpArgs false
def regs5 : List S66 := [(⟨1, 0, 9, 0⟩ : S66), (⟨0, 0, 4, 0⟩ : S66), (⟨2, 3, 9, 0⟩ : S66), (⟨3, 0, 7, 0⟩ : S66), (⟨4, 5, 9, 1⟩ : S66)]
def some1 : List S60 := [⟨2, [6, 6, 7, 7, 3, 3, -2, -2]⟩]
def both2 : List S60 := [⟨2, [6, 6, 7, 7, 3, 3, -2, -2]⟩, ⟨3, [1, -2, -2, 7, -2, -2, 3, 5]⟩]
def torn2 : List S60 := [⟨0, [1, 7, 3, 5]⟩, ⟨1, [3, 0]⟩]
def lPart : List Int := [7, 6, 8, 7, 9, 8, 6, 5]
def lCan : List Int := [1, 6]
def lWon : List Int := [1, 7, 3, 5]
def lFilled : List (List Int) := [[6, 6, 7, 7, 3, 3, 5, 5], [1, 7, 1, 7, 3, 5, 3, 5]]
def lPairs : List S61 := [⟨0, 1⟩, ⟨0, 2⟩, ⟨0, 3⟩, ⟨0, 4⟩, ⟨2, 3⟩]
def lOne : List Int := [0, 0, 0, 0]
def lTwo : List Int := [0, 5, 0, 0]
theorem v_Part : Part 5 2 4 regs5 [1, 7, 3, 5] 4 = (lPart, 0) := by decide +kernel
theorem v_Many : Many 5 2 4 regs5 some1 = (40, 0) := by decide +kernel
theorem v_Can : Can 5 2 4 regs5 some1 0 = (lCan, 0) := by decide +kernel
theorem v_Won : Won 5 2 4 regs5 both2 = (lWon, 0) := by decide +kernel
theorem v_Filled : Filled 5 2 4 regs5 both2 = (lFilled, 0) := by decide +kernel
theorem v_Least : Least 5 2 4 regs5 torn2 = (1, 0) := by decide +kernel
theorem v_Twins : Twins 5 2 4 regs5 2 4 = (lOne, lTwo, 0) := by decide +kernel
theorem v_Pairs0 : ((Pairs 5 2 4 regs5).1.map fun x => (x.f0, x.f1), (Pairs 5 2 4 regs5).2) = ([(0, 1), (0, 2), (0, 3), (0, 4), (2, 3)], 0) := by decide +kernel
theorem v_Pairs : Pairs 5 2 4 regs5 = (lPairs, 0) := by
 have h := v_Pairs0
 rcases hp : Pairs 5 2 4 regs5 with ⟨l, n⟩
 rw [hp] at h
 simp only [Prod.mk.injEq] at h
 obtain ⟨h1, rfl⟩ := h
 have e : l = (l.map fun x => (x.f0, x.f1)).map fun p => (⟨p.1, p.2⟩ : S61) := by rw [List.map_map]; exact (List.map_id' l).symm
 rw [e, h1]
 rfl
theorem V_reads {α : Type} {d : Kd α} {e base : Nat} {W : World} {ok : Nat → Prop} {v : Value} {xs : List α} (h : Kd.V d e W base ok v xs) : ∃ A c, v = .slice A xs.length c ∧ xs.length ≤ c ∧ d.C W A xs.length xs := by
 obtain ⟨A, c, rfl⟩ := Kd.V_slice h
 exact ⟨A, c, rfl, (Kd.V_reads' h).2⟩
theorem equal_lit (A : Option Addr) (c : Nat) (xs lit : List Int) (n : Nat) (hn : lit.length = n) (g : Nat) (cs : Array Value) (w : World) (hC : Kd.C (Kd.int .i64) w A xs.length xs) (hl : xs.length ≤ c) (hb : w.heap[g]? = some (.cells cs 3 (0, 0))) (hc : cs.toList = nums .i64 lit) (h : saronref00_Equal.f 20 xs lit = some true) (hn100 : lit.length ≤ 9223372036854775807) :
  Calls Tryd.prog 18 #[.slice A xs.length c, .slice (some ⟨g, 0, none⟩) n n] w fun e w' => e = .returned (.bool true) ∧ Below w.heap.size w w' := by
 subst hn
 refine (saronref00_Equal.calls 20 A c xs _ _ lit true w hC hl (C_of_block hb hc hn100) (Nat.le_refl _) h).mono ?_
 rintro e w' ⟨rfl, hd⟩
 exact ⟨rfl, drawn_below hd⟩
theorem eq_lPart : saronref00_Equal.f 20 lPart [7, 6, 8, 7, 9, 8, 6, 5] = some true := by kernel_rfl
theorem eq_lCan : saronref00_Equal.f 20 lCan [1, 6] = some true := by kernel_rfl
theorem eq_lWon : saronref00_Equal.f 20 lWon [1, 7, 3, 5] = some true := by kernel_rfl
theorem eq_two : saronref00_Equal.f 20 lOne lTwo = some false := by kernel_rfl
theorem rows_lit {w : World} {g1 g2 g3 : Nat} (h1 : w.heap[g1]? = some (.cells #[.int .i64 6, .int .i64 6, .int .i64 7, .int .i64 7, .int .i64 3, .int .i64 3, .int .i64 5, .int .i64 5] 3 (0, 0))) (h2 : w.heap[g2]? = some (.cells #[.int .i64 1, .int .i64 7, .int .i64 1, .int .i64 7, .int .i64 3, .int .i64 5, .int .i64 3, .int .i64 5] 3 (0, 0)))
  (h3 : w.heap[g3]? = some (.cells #[.slice (some ⟨g1, 0, none⟩) 8 8, .slice (some ⟨g2, 0, none⟩) 8 8] 25 (0, 0))) : Kd.C (Kd.slice 3 (Kd.int .i64)) w (some ⟨g3, 0, none⟩) 2 lFilled := by
 refine ⟨rfl, by decide, fun _ => ⟨_, rfl, fun j p hj => ?_⟩⟩
 have c1 := C_of_block (xs := [6, 6, 7, 7, 3, 3, 5, 5]) h1 rfl (by decide)
 have c2 := C_of_block (xs := [1, 7, 1, 7, 3, 5, 3, 5]) h2 rfl (by decide)
 match j, hj with
 | 0, hj =>
  obtain rfl : [6, 6, 7, 7, 3, 3, 5, 5] = p := Option.some.inj hj
  refine ⟨[.slice (some ⟨g1, 0, none⟩) 8 8], rfl, ⟨_, _, rfl, Nat.le_refl _, c1⟩, fun i u hi => ?_⟩
  match i, hi with
  | 0, hi => obtain rfl := Option.some.inj hi; exact blk_cell h3 0
  | i + 1, hi => cases hi
 | 1, hj =>
  obtain rfl : [1, 7, 1, 7, 3, 5, 3, 5] = p := Option.some.inj hj
  refine ⟨[.slice (some ⟨g2, 0, none⟩) 8 8], rfl, ⟨_, _, rfl, Nat.le_refl _, c2⟩, fun i u hi => ?_⟩
  match i, hi with
  | 0, hi => obtain rfl := Option.some.inj hi; exact blk_cell h3 1
  | i + 1, hi => cases hi
 | j + 2, hj => simp [lFilled] at hj
theorem equal_rows (A : Option Addr) (c g1 g2 g3 : Nat) (w : World) (hC : Kd.C (Kd.slice 3 (Kd.int .i64)) w A lFilled.length lFilled) (hl : lFilled.length ≤ c) (h1 : w.heap[g1]? = some (.cells #[.int .i64 6, .int .i64 6, .int .i64 7, .int .i64 7, .int .i64 3, .int .i64 3, .int .i64 5, .int .i64 5] 3 (0, 0))) (h2 : w.heap[g2]? = some (.cells #[.int .i64 1, .int .i64 7, .int .i64 1, .int .i64 7, .int .i64 3, .int .i64 5, .int .i64 3, .int .i64 5] 3 (0, 0)))
  (h3 : w.heap[g3]? = some (.cells #[.slice (some ⟨g1, 0, none⟩) 8 8, .slice (some ⟨g2, 0, none⟩) 8 8] 25 (0, 0))) :
  Calls Tryd.prog 30 #[.slice A lFilled.length c, .slice (some ⟨g3, 0, none⟩) 2 2] w fun e w' => e = .returned (.bool true) ∧ Below w.heap.size w w' := by
 refine (saronref00_EqualRows.calls 20 A c lFilled (some ⟨g3, 0, none⟩) 2 lFilled true w hC hl (rows_lit h1 h2 h3) (by decide) zk).mono ?_
 rintro e w' ⟨rfl, hd⟩
 exact ⟨rfl, drawn_below hd⟩
theorem pairs_lit {w : World} {g : Nat} (h : w.heap[g]? = some (.cells #[.int .i64 0, .int .i64 1, .int .i64 0, .int .i64 2, .int .i64 0, .int .i64 3, .int .i64 0, .int .i64 4, .int .i64 2, .int .i64 3] 61 (0, 0))) : Kd.C k61 w (some ⟨g, 0, none⟩) 5 lPairs := by
 refine ⟨rfl, by decide, fun _ => ⟨_, rfl, fun j p hj => ⟨[.int .i64 p.f0, .int .i64 p.f1], rfl, k61_mk w p, fun i u hi => ?_⟩⟩⟩
 have key : ∀ j, j < 5 → lPairs[j]? = some p → ∀ i, i < 2 → [Value.int .i64 p.f0, Value.int .i64 p.f1][i]? = some u → (#[Value.int .i64 0, .int .i64 1, .int .i64 0, .int .i64 2, .int .i64 0, .int .i64 3, .int .i64 0, .int .i64 4, .int .i64 2, .int .i64 3] : Array Value)[j * 2 + i]? = some u := by
  intro j hj5 hjp i hi2 hiu
  rcases (by omega : j = 0 ∨ j = 1 ∨ j = 2 ∨ j = 3 ∨ j = 4) with rfl | rfl | rfl | rfl | rfl <;> (obtain rfl := Option.some.inj hjp; rcases (by omega : i = 0 ∨ i = 1) with rfl | rfl <;> exact hiu)
 have hj5 : j < 5 := (List.getElem?_eq_some_iff.1 hj).1
 have hi2 : i < 2 := (List.getElem?_eq_some_iff.1 hi).1
 have e := (blk_cell h (j * 2 + i)).trans (key j hj5 hj i hi2 hi)
 rw [← cell_add0] at e
 exact e
theorem same_pairs (A : Option Addr) (c g : Nat) (w : World) (hC : Kd.C k61 w A lPairs.length lPairs) (hl : lPairs.length ≤ c) (h : w.heap[g]? = some (.cells #[.int .i64 0, .int .i64 1, .int .i64 0, .int .i64 2, .int .i64 0, .int .i64 3, .int .i64 0, .int .i64 4, .int .i64 2, .int .i64 3] 61 (0, 0))) :
  Calls Tryd.prog 35 #[.slice A lPairs.length c, .slice (some ⟨g, 0, none⟩) 5 5] w fun e w' => e = .returned (.bool true) ∧ Below w.heap.size w w' := by
 refine (saronref06_SamePairs.calls 20 A c lPairs (some ⟨g, 0, none⟩) 5 lPairs true w hC hl (pairs_lit h) (by decide) zk).mono ?_
 rintro e w' ⟨rfl, hd⟩
 exact ⟨rfl, drawn_below hd⟩
set_option maxRecDepth 100000 in
set_option maxHeartbeats 40000000 in
theorem works_calls (w : World) (hG : Glob w) : Calls Tryd.prog 21 #[] w fun e w' => e = .returned (.bool true) ∧ Below w.heap.size w w' := by
 have hu24 := Tryd.underlying24
 have HB := zh (Below.refl w.heap.size w)
 have HG := zh hG
 clear hG
 go_enter Tryd.func21, Tryd.ntmps21
 go_wp2_with (first | (go_at_call 49; (with_reducible refine (saronlaw06_scale.calls 5 2 4 regs5 _ rfl).mono ?_); rintro e w_ ⟨vs_, rfl, hs_, hb⟩; obtain ⟨AS, cS, rfl, hlS, hCS⟩ := Kd.R_reads hs_; (try clear HCS); have HB_ := zh (below_step zb hb); (first | replace HCl := zA HCl hb | replace HCl := zB HCl hb | replace HCl := zC HCl hb | replace HCl := zD HCl hb | skip); (first | replace HCc := zA HCc hb | replace HCc := zB HCc hb | replace HCc := zC HCc hb | replace HCc := zD HCc hb | skip); (first | replace HCw := zA HCw hb | replace HCw := zB HCw hb | replace HCw := zC HCw hb | replace HCw := zD HCw hb | skip); (first | replace HCm := zA HCm hb | replace HCm := zB HCm hb | replace HCm := zC HCm hb | replace HCm := zD HCm hb | skip); (first | replace HCp := zA HCp hb | replace HCp := zB HCp hb | replace HCp := zC HCp hb | replace HCp := zD HCp hb | skip); (first | replace HCa := zA HCa hb | replace HCa := zB HCa hb | replace HCa := zC HCa hb | replace HCa := zD HCa hb | skip); (first | replace HCb := zA HCb hb | replace HCb := zB HCb hb | replace HCb := zC HCb hb | replace HCb := zD HCb hb | skip); (first | replace HCS := zA HCS hb | replace HCS := zB HCS hb | replace HCS := zC HCS hb | replace HCS := zD HCS hb | skip); (first | replace HCH := zA HCH hb | replace HCH := zB HCH hb | replace HCH := zC HCH hb | replace HCH := zD HCH hb | skip); clear HB; have HB := HB_; clear HB_; clear hb; have HCS := zh hCS; clear hs_ hCS) | (go_at_call 51; (with_reducible refine (saronlaw06_some.calls some1 _ rfl).mono ?_); rintro e w_ ⟨vh_, rfl, hs_, hb⟩; obtain ⟨AH, cH, rfl, hlH, hCH⟩ := Kd.N_reads hs_; (try clear HCH); have HB_ := zh (below_step zb hb); (first | replace HCl := zA HCl hb | replace HCl := zB HCl hb | replace HCl := zC HCl hb | replace HCl := zD HCl hb | skip); (first | replace HCc := zA HCc hb | replace HCc := zB HCc hb | replace HCc := zC HCc hb | replace HCc := zD HCc hb | skip); (first | replace HCw := zA HCw hb | replace HCw := zB HCw hb | replace HCw := zC HCw hb | replace HCw := zD HCw hb | skip); (first | replace HCm := zA HCm hb | replace HCm := zB HCm hb | replace HCm := zC HCm hb | replace HCm := zD HCm hb | skip); (first | replace HCp := zA HCp hb | replace HCp := zB HCp hb | replace HCp := zC HCp hb | replace HCp := zD HCp hb | skip); (first | replace HCa := zA HCa hb | replace HCa := zB HCa hb | replace HCa := zC HCa hb | replace HCa := zD HCa hb | skip); (first | replace HCb := zA HCb hb | replace HCb := zB HCb hb | replace HCb := zC HCb hb | replace HCb := zD HCb hb | skip); (first | replace HCS := zA HCS hb | replace HCS := zB HCS hb | replace HCS := zC HCS hb | replace HCS := zD HCS hb | skip); (first | replace HCH := zA HCH hb | replace HCH := zB HCH hb | replace HCH := zC HCH hb | replace HCH := zD HCH hb | skip); clear HB; have HB := HB_; clear HB_; clear hb; have HCH := zh hCH; clear hs_ hCH) | (go_at_call 52; (with_reducible refine (saronlaw06_both.calls both2 _ rfl).mono ?_); rintro e w_ ⟨vh_, rfl, hs_, hb⟩; obtain ⟨AH, cH, rfl, hlH, hCH⟩ := Kd.N_reads hs_; (try clear HCH); have HB_ := zh (below_step zb hb); (first | replace HCl := zA HCl hb | replace HCl := zB HCl hb | replace HCl := zC HCl hb | replace HCl := zD HCl hb | skip); (first | replace HCc := zA HCc hb | replace HCc := zB HCc hb | replace HCc := zC HCc hb | replace HCc := zD HCc hb | skip); (first | replace HCw := zA HCw hb | replace HCw := zB HCw hb | replace HCw := zC HCw hb | replace HCw := zD HCw hb | skip); (first | replace HCm := zA HCm hb | replace HCm := zB HCm hb | replace HCm := zC HCm hb | replace HCm := zD HCm hb | skip); (first | replace HCp := zA HCp hb | replace HCp := zB HCp hb | replace HCp := zC HCp hb | replace HCp := zD HCp hb | skip); (first | replace HCa := zA HCa hb | replace HCa := zB HCa hb | replace HCa := zC HCa hb | replace HCa := zD HCa hb | skip); (first | replace HCb := zA HCb hb | replace HCb := zB HCb hb | replace HCb := zC HCb hb | replace HCb := zD HCb hb | skip); (first | replace HCS := zA HCS hb | replace HCS := zB HCS hb | replace HCS := zC HCS hb | replace HCS := zD HCS hb | skip); (first | replace HCH := zA HCH hb | replace HCH := zB HCH hb | replace HCH := zC HCH hb | replace HCH := zD HCH hb | skip); clear HB; have HB := HB_; clear HB_; clear hb; have HCH := zh hCH; clear hs_ hCH) | (go_at_call 50; (with_reducible refine (saronlaw06_torn.calls torn2 _ rfl).mono ?_); rintro e w_ ⟨vh_, rfl, hs_, hb⟩; obtain ⟨AH, cH, rfl, hlH, hCH⟩ := Kd.N_reads hs_; (try clear HCH); have HB_ := zh (below_step zb hb); (first | replace HCl := zA HCl hb | replace HCl := zB HCl hb | replace HCl := zC HCl hb | replace HCl := zD HCl hb | skip); (first | replace HCc := zA HCc hb | replace HCc := zB HCc hb | replace HCc := zC HCc hb | replace HCc := zD HCc hb | skip); (first | replace HCw := zA HCw hb | replace HCw := zB HCw hb | replace HCw := zC HCw hb | replace HCw := zD HCw hb | skip); (first | replace HCm := zA HCm hb | replace HCm := zB HCm hb | replace HCm := zC HCm hb | replace HCm := zD HCm hb | skip); (first | replace HCp := zA HCp hb | replace HCp := zB HCp hb | replace HCp := zC HCp hb | replace HCp := zD HCp hb | skip); (first | replace HCa := zA HCa hb | replace HCa := zB HCa hb | replace HCa := zC HCa hb | replace HCa := zD HCa hb | skip); (first | replace HCb := zA HCb hb | replace HCb := zB HCb hb | replace HCb := zC HCb hb | replace HCb := zD HCb hb | skip); (first | replace HCS := zA HCS hb | replace HCS := zB HCS hb | replace HCS := zC HCS hb | replace HCS := zD HCS hb | skip); (first | replace HCH := zA HCH hb | replace HCH := zB HCH hb | replace HCH := zC HCH hb | replace HCH := zD HCH hb | skip); clear HB; have HB := HB_; clear HB_; clear hb; have HCH := zh hCH; clear hs_ hCH) | (go_at_call 16; (refine (kernel_Part.calls 5 2 4 _ _ regs5 _ _ [1, 7, 3, 5] 4 lPart 0 _ ?s1 hlS ?s3 ?s4 ?s5 (by unfold kernel_Part.f; rw [v_Part])).mono ?_); (case s1 => exact dQ3); (case s3 => exact (Kd.R_reads' (R_lit_new (base := 0) (xs := [1, 7, 3, 5]) rfl (alloc_at _ _ _ rfl) (Nat.zero_le _) (by simp [maxLen]) rfl)).2.2); (case s4 => exact Nat.le_refl _); (case s5 => exact (HG.out.below zb)); rintro e w_ ⟨vx_, rfl, hs_, hb⟩; obtain ⟨Al, cl, rfl, hll, hCl⟩ := V_reads hs_; have HB_ := zh (below_step zb hb); (first | replace HCl := zA HCl hb | replace HCl := zB HCl hb | replace HCl := zC HCl hb | replace HCl := zD HCl hb | skip); (first | replace HCc := zA HCc hb | replace HCc := zB HCc hb | replace HCc := zC HCc hb | replace HCc := zD HCc hb | skip); (first | replace HCw := zA HCw hb | replace HCw := zB HCw hb | replace HCw := zC HCw hb | replace HCw := zD HCw hb | skip); (first | replace HCm := zA HCm hb | replace HCm := zB HCm hb | replace HCm := zC HCm hb | replace HCm := zD HCm hb | skip); (first | replace HCp := zA HCp hb | replace HCp := zB HCp hb | replace HCp := zC HCp hb | replace HCp := zD HCp hb | skip); (first | replace HCa := zA HCa hb | replace HCa := zB HCa hb | replace HCa := zC HCa hb | replace HCa := zD HCa hb | skip); (first | replace HCb := zA HCb hb | replace HCb := zB HCb hb | replace HCb := zC HCb hb | replace HCb := zD HCb hb | skip); (first | replace HCS := zA HCS hb | replace HCS := zB HCS hb | replace HCS := zC HCS hb | replace HCS := zD HCS hb | skip); (first | replace HCH := zA HCH hb | replace HCH := zB HCH hb | replace HCH := zC HCH hb | replace HCH := zD HCH hb | skip); clear HB; have HB := HB_; clear HB_; clear hb; have HCl := zh hCl; have HLl := zh hll; clear hs_ hCl hll; clear HCS hlS; (try clear HCH hlH)) | (go_at_call 22; (refine (kernel_Many.calls 5 2 4 _ _ regs5 _ _ some1 40 0 _ ?s1 hlS ?s3 hlH ?s5 (by unfold kernel_Many.f; rw [v_Many])).mono ?_); (case s1 => exact dQ3); (case s3 => exact dQ6); (case s5 => exact (HG.out.below zb)); rintro e w_ ⟨rfl, hb⟩; have HB_ := zh (below_step zb hb); (first | replace HCl := zA HCl hb | replace HCl := zB HCl hb | replace HCl := zC HCl hb | replace HCl := zD HCl hb | skip); (first | replace HCc := zA HCc hb | replace HCc := zB HCc hb | replace HCc := zC HCc hb | replace HCc := zD HCc hb | skip); (first | replace HCw := zA HCw hb | replace HCw := zB HCw hb | replace HCw := zC HCw hb | replace HCw := zD HCw hb | skip); (first | replace HCm := zA HCm hb | replace HCm := zB HCm hb | replace HCm := zC HCm hb | replace HCm := zD HCm hb | skip); (first | replace HCp := zA HCp hb | replace HCp := zB HCp hb | replace HCp := zC HCp hb | replace HCp := zD HCp hb | skip); (first | replace HCa := zA HCa hb | replace HCa := zB HCa hb | replace HCa := zC HCa hb | replace HCa := zD HCa hb | skip); (first | replace HCb := zA HCb hb | replace HCb := zB HCb hb | replace HCb := zC HCb hb | replace HCb := zD HCb hb | skip); (first | replace HCS := zA HCS hb | replace HCS := zB HCS hb | replace HCS := zC HCS hb | replace HCS := zD HCS hb | skip); (first | replace HCH := zA HCH hb | replace HCH := zB HCH hb | replace HCH := zC HCH hb | replace HCH := zD HCH hb | skip); clear HB; have HB := HB_; clear HB_; clear hb; clear HCS hlS; clear HCH hlH) | (go_at_call 24; (refine (kernel_Can.calls 5 2 4 _ _ regs5 _ _ some1 0 lCan 0 _ ?s1 hlS ?s3 ?s4 ?s5 (by unfold kernel_Can.f; rw [v_Can])).mono ?_); (case s1 => exact dQ3); (case s3 => exact dQ6); (case s4 => exact hlH); (case s5 => exact (HG.out.below zb)); rintro e w_ ⟨vx_, rfl, hs_, hb⟩; obtain ⟨Ac, cc, rfl, hlc, hCc⟩ := V_reads hs_; have HB_ := zh (below_step zb hb); (first | replace HCl := zA HCl hb | replace HCl := zB HCl hb | replace HCl := zC HCl hb | replace HCl := zD HCl hb | skip); (first | replace HCc := zA HCc hb | replace HCc := zB HCc hb | replace HCc := zC HCc hb | replace HCc := zD HCc hb | skip); (first | replace HCw := zA HCw hb | replace HCw := zB HCw hb | replace HCw := zC HCw hb | replace HCw := zD HCw hb | skip); (first | replace HCm := zA HCm hb | replace HCm := zB HCm hb | replace HCm := zC HCm hb | replace HCm := zD HCm hb | skip); (first | replace HCp := zA HCp hb | replace HCp := zB HCp hb | replace HCp := zC HCp hb | replace HCp := zD HCp hb | skip); (first | replace HCa := zA HCa hb | replace HCa := zB HCa hb | replace HCa := zC HCa hb | replace HCa := zD HCa hb | skip); (first | replace HCb := zA HCb hb | replace HCb := zB HCb hb | replace HCb := zC HCb hb | replace HCb := zD HCb hb | skip); (first | replace HCS := zA HCS hb | replace HCS := zB HCS hb | replace HCS := zC HCS hb | replace HCS := zD HCS hb | skip); (first | replace HCH := zA HCH hb | replace HCH := zB HCH hb | replace HCH := zC HCH hb | replace HCH := zD HCH hb | skip); clear HB; have HB := HB_; clear HB_; clear hb; have HCc := zh hCc; have HLc := zh hlc; clear hs_ hCc hlc; clear HCS hlS; (try clear HCH hlH)) | (go_at_call 26; (refine (kernel_Won.calls 5 2 4 _ _ regs5 _ _ both2 lWon 0 _ ?s1 hlS ?s3 ?s4 ?s5 (by unfold kernel_Won.f; rw [v_Won])).mono ?_); (case s1 => exact dQ3); (case s3 => exact dQ6); (case s4 => exact hlH); (case s5 => exact (HG.out.below zb)); rintro e w_ ⟨vx_, rfl, hs_, hb⟩; obtain ⟨Aw, cw, rfl, hlw, hCw⟩ := V_reads hs_; have HB_ := zh (below_step zb hb); (first | replace HCl := zA HCl hb | replace HCl := zB HCl hb | replace HCl := zC HCl hb | replace HCl := zD HCl hb | skip); (first | replace HCc := zA HCc hb | replace HCc := zB HCc hb | replace HCc := zC HCc hb | replace HCc := zD HCc hb | skip); (first | replace HCw := zA HCw hb | replace HCw := zB HCw hb | replace HCw := zC HCw hb | replace HCw := zD HCw hb | skip); (first | replace HCm := zA HCm hb | replace HCm := zB HCm hb | replace HCm := zC HCm hb | replace HCm := zD HCm hb | skip); (first | replace HCp := zA HCp hb | replace HCp := zB HCp hb | replace HCp := zC HCp hb | replace HCp := zD HCp hb | skip); (first | replace HCa := zA HCa hb | replace HCa := zB HCa hb | replace HCa := zC HCa hb | replace HCa := zD HCa hb | skip); (first | replace HCb := zA HCb hb | replace HCb := zB HCb hb | replace HCb := zC HCb hb | replace HCb := zD HCb hb | skip); (first | replace HCS := zA HCS hb | replace HCS := zB HCS hb | replace HCS := zC HCS hb | replace HCS := zD HCS hb | skip); (first | replace HCH := zA HCH hb | replace HCH := zB HCH hb | replace HCH := zC HCH hb | replace HCH := zD HCH hb | skip); clear HB; have HB := HB_; clear HB_; clear hb; have HCw := zh hCw; have HLw := zh hlw; clear hs_ hCw hlw; clear HCS hlS; (try clear HCH hlH)) | (go_at_call 28; (refine (kernel_Filled.calls 5 2 4 _ _ regs5 _ _ both2 lFilled 0 _ ?s1 hlS ?s3 ?s4 ?s5 (by unfold kernel_Filled.f; rw [v_Filled])).mono ?_); (case s1 => exact dQ3); (case s3 => exact dQ6); (case s4 => exact hlH); (case s5 => exact (HG.out.below zb)); rintro e w_ ⟨vx_, rfl, hs_, hb⟩; obtain ⟨Am, cm, rfl, hlm, hCm⟩ := V_reads hs_; have HB_ := zh (below_step zb hb); (first | replace HCl := zA HCl hb | replace HCl := zB HCl hb | replace HCl := zC HCl hb | replace HCl := zD HCl hb | skip); (first | replace HCc := zA HCc hb | replace HCc := zB HCc hb | replace HCc := zC HCc hb | replace HCc := zD HCc hb | skip); (first | replace HCw := zA HCw hb | replace HCw := zB HCw hb | replace HCw := zC HCw hb | replace HCw := zD HCw hb | skip); (first | replace HCm := zA HCm hb | replace HCm := zB HCm hb | replace HCm := zC HCm hb | replace HCm := zD HCm hb | skip); (first | replace HCp := zA HCp hb | replace HCp := zB HCp hb | replace HCp := zC HCp hb | replace HCp := zD HCp hb | skip); (first | replace HCa := zA HCa hb | replace HCa := zB HCa hb | replace HCa := zC HCa hb | replace HCa := zD HCa hb | skip); (first | replace HCb := zA HCb hb | replace HCb := zB HCb hb | replace HCb := zC HCb hb | replace HCb := zD HCb hb | skip); (first | replace HCS := zA HCS hb | replace HCS := zB HCS hb | replace HCS := zC HCS hb | replace HCS := zD HCS hb | skip); (first | replace HCH := zA HCH hb | replace HCH := zB HCH hb | replace HCH := zC HCH hb | replace HCH := zD HCH hb | skip); clear HB; have HB := HB_; clear HB_; clear hb; have HCm := zh hCm; have HLm := zh hlm; clear hs_ hCm hlm; clear HCS hlS; (try clear HCH hlH)) | (go_at_call 31; (refine (kernel_Least.calls 5 2 4 _ _ regs5 _ _ torn2 1 0 _ ?s1 hlS ?s3 hlH ?s5 (by unfold kernel_Least.f; rw [v_Least])).mono ?_); (case s1 => exact dQ3); (case s3 => exact dQ6); (case s5 => exact (HG.out.below zb)); rintro e w_ ⟨rfl, hb⟩; have HB_ := zh (below_step zb hb); (first | replace HCl := zA HCl hb | replace HCl := zB HCl hb | replace HCl := zC HCl hb | replace HCl := zD HCl hb | skip); (first | replace HCc := zA HCc hb | replace HCc := zB HCc hb | replace HCc := zC HCc hb | replace HCc := zD HCc hb | skip); (first | replace HCw := zA HCw hb | replace HCw := zB HCw hb | replace HCw := zC HCw hb | replace HCw := zD HCw hb | skip); (first | replace HCm := zA HCm hb | replace HCm := zB HCm hb | replace HCm := zC HCm hb | replace HCm := zD HCm hb | skip); (first | replace HCp := zA HCp hb | replace HCp := zB HCp hb | replace HCp := zC HCp hb | replace HCp := zD HCp hb | skip); (first | replace HCa := zA HCa hb | replace HCa := zB HCa hb | replace HCa := zC HCa hb | replace HCa := zD HCa hb | skip); (first | replace HCb := zA HCb hb | replace HCb := zB HCb hb | replace HCb := zC HCb hb | replace HCb := zD HCb hb | skip); (first | replace HCS := zA HCS hb | replace HCS := zB HCS hb | replace HCS := zC HCS hb | replace HCS := zD HCS hb | skip); (first | replace HCH := zA HCH hb | replace HCH := zB HCH hb | replace HCH := zC HCH hb | replace HCH := zD HCH hb | skip); clear HB; have HB := HB_; clear HB_; clear hb; clear HCS hlS; clear HCH hlH) | (go_at_call 33; (refine (kernel_Pairs.calls 5 2 4 _ _ regs5 lPairs 0 _ ?s1 hlS ?s5 (by unfold kernel_Pairs.f; rw [v_Pairs])).mono ?_); (case s1 => exact dQ3); (case s5 => exact (HG.out.below zb)); rintro e w_ ⟨vx_, rfl, hs_, hb⟩; obtain ⟨Ap, cp, rfl, hlp, hCp⟩ := V_reads hs_; have HB_ := zh (below_step zb hb); (first | replace HCl := zA HCl hb | replace HCl := zB HCl hb | replace HCl := zC HCl hb | replace HCl := zD HCl hb | skip); (first | replace HCc := zA HCc hb | replace HCc := zB HCc hb | replace HCc := zC HCc hb | replace HCc := zD HCc hb | skip); (first | replace HCw := zA HCw hb | replace HCw := zB HCw hb | replace HCw := zC HCw hb | replace HCw := zD HCw hb | skip); (first | replace HCm := zA HCm hb | replace HCm := zB HCm hb | replace HCm := zC HCm hb | replace HCm := zD HCm hb | skip); (first | replace HCp := zA HCp hb | replace HCp := zB HCp hb | replace HCp := zC HCp hb | replace HCp := zD HCp hb | skip); (first | replace HCa := zA HCa hb | replace HCa := zB HCa hb | replace HCa := zC HCa hb | replace HCa := zD HCa hb | skip); (first | replace HCb := zA HCb hb | replace HCb := zB HCb hb | replace HCb := zC HCb hb | replace HCb := zD HCb hb | skip); (first | replace HCS := zA HCS hb | replace HCS := zB HCS hb | replace HCS := zC HCS hb | replace HCS := zD HCS hb | skip); (first | replace HCH := zA HCH hb | replace HCH := zB HCH hb | replace HCH := zC HCH hb | replace HCH := zD HCH hb | skip); clear HB; have HB := HB_; clear HB_; clear hb; have HCp := zh hCp; have HLp := zh hlp; clear hs_ hCp hlp; clear HCS hlS) | (go_at_call 36; (refine (kernel_Twins.calls 5 2 4 _ _ regs5 2 4 lOne lTwo 0 _ ?s1 hlS ?s5 (by unfold kernel_Twins.f; rw [v_Twins])).mono ?_); (case s1 => exact dQ3); (case s5 => exact (HG.out.below zb)); rintro e w_ ⟨vx_, vy_, rfl, hs_, ht_, hb⟩; obtain ⟨Aa, ca, rfl, hla, hCa⟩ := V_reads hs_; obtain ⟨Ab, cb, rfl, hlb, hCb⟩ := V_reads ht_; have HB_ := zh (below_step zb hb); (first | replace HCl := zA HCl hb | replace HCl := zB HCl hb | replace HCl := zC HCl hb | replace HCl := zD HCl hb | skip); (first | replace HCc := zA HCc hb | replace HCc := zB HCc hb | replace HCc := zC HCc hb | replace HCc := zD HCc hb | skip); (first | replace HCw := zA HCw hb | replace HCw := zB HCw hb | replace HCw := zC HCw hb | replace HCw := zD HCw hb | skip); (first | replace HCm := zA HCm hb | replace HCm := zB HCm hb | replace HCm := zC HCm hb | replace HCm := zD HCm hb | skip); (first | replace HCp := zA HCp hb | replace HCp := zB HCp hb | replace HCp := zC HCp hb | replace HCp := zD HCp hb | skip); (first | replace HCa := zA HCa hb | replace HCa := zB HCa hb | replace HCa := zC HCa hb | replace HCa := zD HCa hb | skip); (first | replace HCb := zA HCb hb | replace HCb := zB HCb hb | replace HCb := zC HCb hb | replace HCb := zD HCb hb | skip); (first | replace HCS := zA HCS hb | replace HCS := zB HCS hb | replace HCS := zC HCS hb | replace HCS := zD HCS hb | skip); (first | replace HCH := zA HCH hb | replace HCH := zB HCH hb | replace HCH := zC HCH hb | replace HCH := zD HCH hb | skip); clear HB; have HB := HB_; clear HB_; clear hb; have HCa := zh hCa; have HLa := zh hla; have HCb := zh hCb; have HLb := zh hlb; clear hs_ ht_ hCa hla hCb hlb; clear HCS hlS) | (go_at_call 30; ((with_reducible refine (equal_rows Am cm w_.heap.size (w_.heap.size + 1) _ _ ?s1 HLm.out ?s2 ?s3 ?s4).mono ?_)); (case s2 => exact blk_alloc (blk_alloc (alloc_at _ _ _ rfl) _) _); (case s3 => exact blk_alloc (alloc_at _ _ _ (by simp)) _); (case s4 => exact alloc_at _ _ _ (by simp)); (case s1 => exact (by repeat (first | exact HCm.out | (with_reducible refine Kd.C_alloc ?_ _) | (with_reducible refine Kd.C_drewN ?_ _) | (with_reducible refine Kd.C_drew ?_)))); rintro e w_ ⟨rfl, hb⟩; have HB_ := zh (below_step zb hb); (first | replace HCl := zA HCl hb | replace HCl := zB HCl hb | replace HCl := zC HCl hb | replace HCl := zD HCl hb | skip); (first | replace HCc := zA HCc hb | replace HCc := zB HCc hb | replace HCc := zC HCc hb | replace HCc := zD HCc hb | skip); (first | replace HCw := zA HCw hb | replace HCw := zB HCw hb | replace HCw := zC HCw hb | replace HCw := zD HCw hb | skip); (first | replace HCm := zA HCm hb | replace HCm := zB HCm hb | replace HCm := zC HCm hb | replace HCm := zD HCm hb | skip); (first | replace HCp := zA HCp hb | replace HCp := zB HCp hb | replace HCp := zC HCp hb | replace HCp := zD HCp hb | skip); (first | replace HCa := zA HCa hb | replace HCa := zB HCa hb | replace HCa := zC HCa hb | replace HCa := zD HCa hb | skip); (first | replace HCb := zA HCb hb | replace HCb := zB HCb hb | replace HCb := zC HCb hb | replace HCb := zD HCb hb | skip); (first | replace HCS := zA HCS hb | replace HCS := zB HCS hb | replace HCS := zC HCS hb | replace HCS := zD HCS hb | skip); (first | replace HCH := zA HCH hb | replace HCH := zB HCH hb | replace HCH := zC HCH hb | replace HCH := zD HCH hb | skip); clear HB; have HB := HB_; clear HB_; clear hb) | (go_at_call 35; ((with_reducible refine (same_pairs Ap cp _ _ ?s1 HLp.out ?s2).mono ?_)); (case s2 => exact alloc_at _ _ _ rfl); (case s1 => exact (by repeat (first | exact HCp.out | (with_reducible refine Kd.C_alloc ?_ _) | (with_reducible refine Kd.C_drewN ?_ _) | (with_reducible refine Kd.C_drew ?_)))); rintro e w_ ⟨rfl, hb⟩; have HB_ := zh (below_step zb hb); (first | replace HCl := zA HCl hb | replace HCl := zB HCl hb | replace HCl := zC HCl hb | replace HCl := zD HCl hb | skip); (first | replace HCc := zA HCc hb | replace HCc := zB HCc hb | replace HCc := zC HCc hb | replace HCc := zD HCc hb | skip); (first | replace HCw := zA HCw hb | replace HCw := zB HCw hb | replace HCw := zC HCw hb | replace HCw := zD HCw hb | skip); (first | replace HCm := zA HCm hb | replace HCm := zB HCm hb | replace HCm := zC HCm hb | replace HCm := zD HCm hb | skip); (first | replace HCp := zA HCp hb | replace HCp := zB HCp hb | replace HCp := zC HCp hb | replace HCp := zD HCp hb | skip); (first | replace HCa := zA HCa hb | replace HCa := zB HCa hb | replace HCa := zC HCa hb | replace HCa := zD HCa hb | skip); (first | replace HCb := zA HCb hb | replace HCb := zB HCb hb | replace HCb := zC HCb hb | replace HCb := zD HCb hb | skip); (first | replace HCS := zA HCS hb | replace HCS := zB HCS hb | replace HCS := zC HCS hb | replace HCS := zD HCS hb | skip); (first | replace HCH := zA HCH hb | replace HCH := zB HCH hb | replace HCH := zC HCH hb | replace HCH := zD HCH hb | skip); clear HB; have HB := HB_; clear HB_; clear hb) | (go_at_call 18; ((with_reducible refine (saronref00_Equal.calls 20 Aa ca lOne Ab cb lTwo false _ ?s1 HLa.out ?s2 HLb.out eq_two).mono ?_)); (case s1 => exact (by repeat (first | exact HCa.out | (with_reducible refine Kd.C_alloc ?_ _) | (with_reducible refine Kd.C_drewN ?_ _) | (with_reducible refine Kd.C_drew ?_)))); (case s2 => exact (by repeat (first | exact HCb.out | (with_reducible refine Kd.C_alloc ?_ _) | (with_reducible refine Kd.C_drewN ?_ _) | (with_reducible refine Kd.C_drew ?_)))); rintro e w_ ⟨rfl, hd_⟩; have hb := drawn_below hd_; clear hd_; have HB_ := zh (below_step zb hb); (first | replace HCl := zA HCl hb | replace HCl := zB HCl hb | replace HCl := zC HCl hb | replace HCl := zD HCl hb | skip); (first | replace HCc := zA HCc hb | replace HCc := zB HCc hb | replace HCc := zC HCc hb | replace HCc := zD HCc hb | skip); (first | replace HCw := zA HCw hb | replace HCw := zB HCw hb | replace HCw := zC HCw hb | replace HCw := zD HCw hb | skip); (first | replace HCm := zA HCm hb | replace HCm := zB HCm hb | replace HCm := zC HCm hb | replace HCm := zD HCm hb | skip); (first | replace HCp := zA HCp hb | replace HCp := zB HCp hb | replace HCp := zC HCp hb | replace HCp := zD HCp hb | skip); (first | replace HCa := zA HCa hb | replace HCa := zB HCa hb | replace HCa := zC HCa hb | replace HCa := zD HCa hb | skip); (first | replace HCb := zA HCb hb | replace HCb := zB HCb hb | replace HCb := zC HCb hb | replace HCb := zD HCb hb | skip); (first | replace HCS := zA HCS hb | replace HCS := zB HCS hb | replace HCS := zC HCS hb | replace HCS := zD HCS hb | skip); (first | replace HCH := zA HCH hb | replace HCH := zB HCH hb | replace HCH := zC HCH hb | replace HCH := zD HCH hb | skip); clear HB; have HB := HB_; clear HB_; clear hb) | (go_at_call 18; ((with_reducible refine (equal_lit Al cl lPart [7, 6, 8, 7, 9, 8, 6, 5] 8 rfl _ ?csl _ ?s1 HLl.out ?s4 ?s5 eq_lPart (by decide)).mono ?_)); (case s4 => exact alloc_at _ _ _ rfl); (case s5 => rfl); (case s1 => exact (by repeat (first | exact HCl.out | (with_reducible refine Kd.C_alloc ?_ _) | (with_reducible refine Kd.C_drewN ?_ _) | (with_reducible refine Kd.C_drew ?_)))); rintro e w_ ⟨rfl, hb⟩; have HB_ := zh (below_step zb hb); (first | replace HCl := zA HCl hb | replace HCl := zB HCl hb | replace HCl := zC HCl hb | replace HCl := zD HCl hb | skip); (first | replace HCc := zA HCc hb | replace HCc := zB HCc hb | replace HCc := zC HCc hb | replace HCc := zD HCc hb | skip); (first | replace HCw := zA HCw hb | replace HCw := zB HCw hb | replace HCw := zC HCw hb | replace HCw := zD HCw hb | skip); (first | replace HCm := zA HCm hb | replace HCm := zB HCm hb | replace HCm := zC HCm hb | replace HCm := zD HCm hb | skip); (first | replace HCp := zA HCp hb | replace HCp := zB HCp hb | replace HCp := zC HCp hb | replace HCp := zD HCp hb | skip); (first | replace HCa := zA HCa hb | replace HCa := zB HCa hb | replace HCa := zC HCa hb | replace HCa := zD HCa hb | skip); (first | replace HCb := zA HCb hb | replace HCb := zB HCb hb | replace HCb := zC HCb hb | replace HCb := zD HCb hb | skip); (first | replace HCS := zA HCS hb | replace HCS := zB HCS hb | replace HCS := zC HCS hb | replace HCS := zD HCS hb | skip); (first | replace HCH := zA HCH hb | replace HCH := zB HCH hb | replace HCH := zC HCH hb | replace HCH := zD HCH hb | skip); clear HB; have HB := HB_; clear HB_; clear hb) | (go_at_call 18; ((with_reducible refine (equal_lit Ac cc lCan [1, 6] 2 rfl _ ?csc _ ?s1 HLc.out ?s4 ?s5 eq_lCan (by decide)).mono ?_)); (case s4 => exact alloc_at _ _ _ rfl); (case s5 => rfl); (case s1 => exact (by repeat (first | exact HCc.out | (with_reducible refine Kd.C_alloc ?_ _) | (with_reducible refine Kd.C_drewN ?_ _) | (with_reducible refine Kd.C_drew ?_)))); rintro e w_ ⟨rfl, hb⟩; have HB_ := zh (below_step zb hb); (first | replace HCl := zA HCl hb | replace HCl := zB HCl hb | replace HCl := zC HCl hb | replace HCl := zD HCl hb | skip); (first | replace HCc := zA HCc hb | replace HCc := zB HCc hb | replace HCc := zC HCc hb | replace HCc := zD HCc hb | skip); (first | replace HCw := zA HCw hb | replace HCw := zB HCw hb | replace HCw := zC HCw hb | replace HCw := zD HCw hb | skip); (first | replace HCm := zA HCm hb | replace HCm := zB HCm hb | replace HCm := zC HCm hb | replace HCm := zD HCm hb | skip); (first | replace HCp := zA HCp hb | replace HCp := zB HCp hb | replace HCp := zC HCp hb | replace HCp := zD HCp hb | skip); (first | replace HCa := zA HCa hb | replace HCa := zB HCa hb | replace HCa := zC HCa hb | replace HCa := zD HCa hb | skip); (first | replace HCb := zA HCb hb | replace HCb := zB HCb hb | replace HCb := zC HCb hb | replace HCb := zD HCb hb | skip); (first | replace HCS := zA HCS hb | replace HCS := zB HCS hb | replace HCS := zC HCS hb | replace HCS := zD HCS hb | skip); (first | replace HCH := zA HCH hb | replace HCH := zB HCH hb | replace HCH := zC HCH hb | replace HCH := zD HCH hb | skip); clear HB; have HB := HB_; clear HB_; clear hb) | (go_at_call 18; ((with_reducible refine (equal_lit Aw cw lWon [1, 7, 3, 5] 4 rfl _ ?csw _ ?s1 HLw.out ?s4 ?s5 eq_lWon (by decide)).mono ?_)); (case s4 => exact alloc_at _ _ _ rfl); (case s5 => rfl); (case s1 => exact (by repeat (first | exact HCw.out | (with_reducible refine Kd.C_alloc ?_ _) | (with_reducible refine Kd.C_drewN ?_ _) | (with_reducible refine Kd.C_drew ?_)))); rintro e w_ ⟨rfl, hb⟩; have HB_ := zh (below_step zb hb); (first | replace HCl := zA HCl hb | replace HCl := zB HCl hb | replace HCl := zC HCl hb | replace HCl := zD HCl hb | skip); (first | replace HCc := zA HCc hb | replace HCc := zB HCc hb | replace HCc := zC HCc hb | replace HCc := zD HCc hb | skip); (first | replace HCw := zA HCw hb | replace HCw := zB HCw hb | replace HCw := zC HCw hb | replace HCw := zD HCw hb | skip); (first | replace HCm := zA HCm hb | replace HCm := zB HCm hb | replace HCm := zC HCm hb | replace HCm := zD HCm hb | skip); (first | replace HCp := zA HCp hb | replace HCp := zB HCp hb | replace HCp := zC HCp hb | replace HCp := zD HCp hb | skip); (first | replace HCa := zA HCa hb | replace HCa := zB HCa hb | replace HCa := zC HCa hb | replace HCa := zD HCa hb | skip); (first | replace HCb := zA HCb hb | replace HCb := zB HCb hb | replace HCb := zC HCb hb | replace HCb := zD HCb hb | skip); (first | replace HCS := zA HCS hb | replace HCS := zB HCS hb | replace HCS := zC HCS hb | replace HCS := zD HCS hb | skip); (first | replace HCH := zA HCH hb | replace HCH := zB HCH hb | replace HCH := zC HCH hb | replace HCH := zD HCH hb | skip); clear HB; have HB := HB_; clear HB_; clear hb))
 first
  | (go_ret; exact ⟨rfl, zb⟩)
def saronlaw06_works.f : Option Bool := some true
theorem saronlaw06_works.calls (r : Bool) (w : World) (hG : Glob w) (h : saronlaw06_works.f = some r) : Calls Tryd.prog 21 #[] w fun e w' => e = .returned (.bool r) ∧ Below w.heap.size w w' := by
 obtain rfl : true = r := Option.some.inj h
 exact works_calls w hG
end Go.Proofs.YtagkfkdoibnhfaaDoor.K
end
section
namespace Go.Proofs.YtagkfkdoibnhfaaDoor.K
open Go.ChangeShapes Go.WideShapes Go.ChangeAt Go.RowKit
abbrev laid1 : List (String × DataW Unit) := [("saron/kernel.rules", Rows.laid_saron_kernel_rules)]
theorem gRules : Tryd.prog.globalNamed "saron/kernel.rules" = some 0 := by kernel_rfl
theorem tRules : (Tryd.prog.globals[0]?).map (·.type) = some 117 := by kernel_rfl
theorem cells116 : Tryd.prog.cellsOf 116 = 1 := by kernel_rfl
theorem cells117 : Tryd.prog.cellsOf 117 = 5 := by kernel_rfl
set_option maxRecDepth 100000 in
theorem glob_of_laid {W : World} (h : laidMetH Tryd.prog laid1 W) : Glob W := by
 obtain ⟨g, t, cs, fuel, p, hg, ht, hv, hd⟩ := h.funcs (List.mem_singleton.2 rfl)
 obtain rfl := Option.some.inj (gRules.symm.trans hg)
 obtain rfl := Option.some.inj (tRules.symm.trans ht)
 obtain ⟨xs, m, rfl, hx, hl, hn, hel⟩ := DataW.trod_array Tryd.underlying117 hd
 rw [cells117] at hl
 rw [cells116] at hel
 have hx1 := congrArg Prod.fst hx
 have hds : xs.map (·.1) = [.held [40, 115, 97, 114, 111, 110, 47, 107, 101, 114, 110, 101, 108, 46, 115, 99, 97, 108, 101, 41, 46, 104, 97, 108, 102], .held [40, 115, 97, 114, 111, 110, 47, 107, 101, 114, 110, 101, 108, 46, 115, 99, 97, 108, 101, 41, 46, 112, 108, 97, 105, 110], .held [40, 115, 97, 114, 111, 110, 47, 107, 101, 114, 110, 101, 108, 46, 115, 99, 97, 108, 101, 41, 46, 100, 111, 117, 98, 108, 101], .held [40, 115, 97, 114, 111, 110, 47, 107, 101, 114, 110, 101, 108, 46, 115, 99, 97, 108, 101, 41, 46, 116, 119, 105, 99, 101], .held [40, 115, 97, 114, 111, 110, 47, 107, 101, 114, 110, 101, 108, 46, 115, 99, 97, 108, 101, 41, 46, 110, 101, 97, 114]] :=
  (DataW.agg.inj hx1).symm
 have five : ∀ {β : Type} (l : List β), l.length = 5 → ∃ a b c d e, l = [a, b, c, d, e] := fun l h => by
  match l, h with
  | [a, b, c, d, e], _ => exact ⟨a, b, c, d, e, rfl⟩
 obtain ⟨l⟩ := cs
 obtain ⟨c0, c1, c2, c3, c4, rfl⟩ := five l hl
 clear hl hx hx1 hd
 obtain ⟨x0, x1, x2, x3, x4, rfl⟩ := five xs hn
 clear hn
 simp only [List.map_cons, List.map_nil, List.cons.injEq, and_true] at hds
 obtain ⟨e0, e1, e2, e3, e4⟩ := hds
 have r0 : DataW.trod (funcToken Tryd.prog) Tryd.prog W 0 (fun _ => true) true m 116 [c0] = some (x0.1, x0.2) := hel 0 (by decide)
 rw [e0] at r0
 have r1 : DataW.trod (funcToken Tryd.prog) Tryd.prog W 0 (fun _ => true) true m 116 [c1] = some (x1.1, x1.2) := hel 1 (by decide)
 rw [e1] at r1
 have r2 : DataW.trod (funcToken Tryd.prog) Tryd.prog W 0 (fun _ => true) true m 116 [c2] = some (x2.1, x2.2) := hel 2 (by decide)
 rw [e2] at r2
 have r3 : DataW.trod (funcToken Tryd.prog) Tryd.prog W 0 (fun _ => true) true m 116 [c3] = some (x3.1, x3.2) := hel 3 (by decide)
 rw [e3] at r3
 have r4 : DataW.trod (funcToken Tryd.prog) Tryd.prog W 0 (fun _ => true) true m 116 [c4] = some (x4.1, x4.2) := hel 4 (by decide)
 rw [e4] at r4
 obtain rfl := func_of_trod (f0 := 107) Tryd.underlying116 zk r0
 obtain rfl := func_of_trod (f0 := 108) Tryd.underlying116 zk r1
 obtain rfl := func_of_trod (f0 := 109) Tryd.underlying116 zk r2
 obtain rfl := func_of_trod (f0 := 110) Tryd.underlying116 zk r3
 obtain rfl := func_of_trod (f0 := 111) Tryd.underlying116 zk r4
 have hc := fun i => World.var?_cell hg hv i
 refine ⟨?_, fun i hi => ?_⟩
 ·have := hc 0
  rcases Nat.lt_or_ge 0 W.heap.size with h0 | h0
  ·exact h0
  ·have e : W.heap.size = 0 := by omega
   simp [World.cell?, e] at this
 ·rw [hc i]
  match i, hi with
  | 0, _ => rfl
  | 1, _ => rfl
  | 2, _ => rfl
  | 3, _ => rfl
  | 4, _ => rfl
end Go.Proofs.YtagkfkdoibnhfaaDoor.K
end
section
namespace Go.Proofs.YtagkfkdoibnhfaaDoor.K
open Go.ChangeShapes Go.WideShapes Go.ChangeAt Go.RowKit Go.Deep Go.Proofs.YtagkfkdoibnhfaaDoorW.PrintWords
set_option linter.unusedVariables false
def Opens {α : Type} (P : Program) (t : TypeId) (d : Kd α) (ok : α → Prop) : Prop :=
 ∀ (H : Type) (enc : TypeId × Value → H) (w : World) (base : Nat) (spare : Nat → Bool) (held : Bool) (fuel : Nat) (cs : List Value) (x : DataW H × List MemPlace),
  DataW.trod enc P w base spare held fuel t cs = some x → ∃ a, d.K w a cs ∧ ok a
theorem Opens.int {P : Program} {t : TypeId} {k : IntKind} (ht : P.underlying t = some (.int k)) : Opens P t (Kd.int k) (fun n => (Lit.int k n).wf = true) := by
 intro H enc w base spare held fuel cs x h
 obtain ⟨n, rfl, _, hw⟩ := DataW.trod_int ht h
 exact ⟨n, rfl, hw⟩
theorem Opens.slice {α : Type} {P : Program} {t e : TypeId} {d : Kd α} {ok : α → Prop} (ht : P.underlying t = some (.slice e)) (hc : P.cellsOf e = d.sz) (E : Nat) (h : Opens P e d ok) :
  Opens P t (Kd.slice E d) (fun l => l.length ≤ 9223372036854775807 ∧ ∀ a ∈ l, ok a) := by
 intro H enc w base spare held fuel cs x hx
 rcases open_slice ht hx with ⟨rfl, rfl⟩ | ⟨a, len, cap, m, n, D, Pl, rfl, hb, hl, hm, hmm, rfl, hel⟩
 ·exact ⟨[], ⟨none, 0, rfl, Nat.le_refl _, rfl, by simp, by simp⟩, by simp, by simp⟩
 have hlm : len ≤ m := by rw [hmm]; split <;> omega
 have hmax : maxLen = 9223372036854775807 := rfl
 rw [hmax] at hm
 have each : ∀ i, i < len → ∃ y : α, ok y ∧ ∃ c, c.length = d.sz ∧ d.K w y c ∧ ∀ j u, c[j]? = some u → w.cell? (a.add (i * d.sz + j)) = some u := by
  intro i hi
  obtain ⟨cs', h1, h2⟩ := hel i (by omega)
  obtain ⟨y, hK, hy⟩ := h H enc w base spare held n cs' _ h2
  obtain ⟨_, hlen, hcell⟩ := World.cells?_some h1
  refine ⟨y, hy, cs', by rw [hlen, hc], hK, fun j u hu => ?_⟩
  have hj : j < P.cellsOf e := by
   have := (List.getElem?_eq_some_iff.1 hu).1
   omega
  have := hcell j hj
  rw [Go.Deep.add_add, hc] at this
  rw [this, hu]
 obtain ⟨ys, hys, hall⟩ : ∃ ys : List α, ys.length = len ∧ ∀ i y, ys[i]? = some y → ok y ∧ ∃ c, c.length = d.sz ∧ d.K w y c ∧ ∀ j u, c[j]? = some u → w.cell? (a.add (i * d.sz + j)) = some u := by
  clear hmm hlm hel hx hl
  induction len with
  | zero => exact ⟨[], rfl, by simp⟩
  | succ len ih =>
   obtain ⟨ys, h1, h2⟩ := ih (fun i hi => each i (by omega))
   obtain ⟨y, hy⟩ := each len (by omega)
   refine ⟨ys ++ [y], by simp [h1], fun i z hz => ?_⟩
   rcases Nat.lt_or_ge i len with hi | hi
   ·rw [List.getElem?_append_left (by omega)] at hz
    exact h2 i z hz
   ·rw [List.getElem?_append_right (by omega)] at hz
    obtain rfl : i = len := by
     have := (List.getElem?_eq_some_iff.1 hz).1
     simp at this
     omega
    simp [h1] at hz
    subst hz
    exact hy
 refine ⟨ys, ⟨some a, cap, by rw [hys], by omega, by rw [hys], by omega, fun _ => ⟨a, rfl, fun j p hp => (hall j p hp).2⟩⟩, by omega, fun z hz => ?_⟩
 obtain ⟨i, hi, rfl⟩ := List.getElem_of_mem hz
 exact (hall i _ (List.getElem?_eq_getElem hi)).1
def OpensF {α : Type} (P : Program) (fs : List Field) (off total : Nat) (d : Kd α) (ok : α → Prop) : Prop :=
 ∀ (H : Type) (enc : TypeId × Value → H) (w : World) (base : Nat) (spare : Nat → Bool) (held : Bool) (fuel : Nat) (cs : List Value), cs.length = total →
  (∀ (i : Nat) (f : Field), fs[i]? = some f → ∃ x, DataW.trod enc P w base spare held fuel f.type ((cs.drop f.offset).take (P.cellsOf f.type)) = some x) → ∃ a, d.K w a (cs.drop off) ∧ ok a
theorem OpensF.one {α : Type} {P : Program} {f : Field} {off total : Nat} {d : Kd α} {ok : α → Prop} (ho : f.offset = off) (ht : P.cellsOf f.type + off = total) (h : Opens P f.type d ok) : OpensF P [f] off total d ok := by
 intro H enc w base spare held fuel cs hl hx
 obtain ⟨x, h1⟩ := hx 0 f rfl
 obtain ⟨a, hK, ha⟩ := h H enc w base spare held fuel _ x h1
 rw [ho, List.take_of_length_le (by rw [List.length_drop]; omega)] at hK
 exact ⟨a, hK, ha⟩
theorem OpensF.cons {α β : Type} {P : Program} {f : Field} {fs : List Field} {off total : Nat} {d : Kd α} {d' : Kd β} {ok : α → Prop} {ok' : β → Prop} (ho : f.offset = off) (hs : P.cellsOf f.type = d.sz) (h : Opens P f.type d ok) (h' : OpensF P fs (off + d.sz) total d' ok') :
  OpensF P (f :: fs) off total (Kd.pair d d') (fun a => ok a.1 ∧ ok' a.2) := by
 intro H enc w base spare held fuel cs hl hx
 obtain ⟨x, h1⟩ := hx 0 f rfl
 obtain ⟨a, hK, ha⟩ := h H enc w base spare held fuel _ x h1
 obtain ⟨b, hK', hb⟩ := h' H enc w base spare held fuel cs hl (fun i g hg => hx (i + 1) g hg)
 rw [ho, hs] at hK
 refine ⟨(a, b), ⟨_, _, ?_, hK, hK'⟩, ha, hb⟩
 rw [← List.drop_drop, List.take_append_drop]
theorem Opens.struct {α : Type} {P : Program} {t : TypeId} {fs : Array Field} {d : Kd α} {ok : α → Prop} (ht : P.underlying t = some (.struct fs)) (total : Nat) (hc : P.cellsOf t = total) (h : OpensF P fs.toList 0 total d ok) : Opens P t d ok := by
 intro H enc w base spare held fuel cs x hx
 obtain ⟨xs, n, rfl, rfl, hl, hn, hf⟩ := DataW.trod_struct ht hx
 obtain ⟨a, hK, ha⟩ := h H enc w base spare held n cs (by omega) (fun i f hif => by
  have hif' : fs[i]? = some f := by simpa using hif
  have hi : i < fs.size := (Array.getElem?_eq_some_iff.1 hif').1
  exact ⟨xs[i]'(by omega), by rw [hf i f hif']; exact List.getElem?_eq_getElem (by omega)⟩)
 exact ⟨a, hK, ha⟩
theorem Opens.iso {α β : Type} {P : Program} {t : TypeId} {d : Kd α} {ok : α → Prop} {f : β → α} (g : α → β) (hg : ∀ a, f (g a) = a) {ok' : β → Prop} (hk : ∀ a, ok a → ok' (g a)) (h : Opens P t d ok) : Opens P t (Kd.iso d f) ok' := by
 intro H enc w base spare held fuel cs x hx
 obtain ⟨a, hK, ha⟩ := h H enc w base spare held fuel cs x hx
 refine ⟨g a, ?_, hk a ha⟩
 show d.K w (f (g a)) cs
 rw [hg]
 exact hK
theorem Opens.arg {α : Type} {P : Program} {t : TypeId} {d : Kd α} {ok : α → Prop} (h : Opens P t d ok) {H : Type} {enc : TypeId × Value → H} {w : World} {base : Nat} {spare : Nat → Bool} {held : Bool} {v : Value} {y : DataW H} {p : List MemPlace}
  (hx : DataW.Trod enc P w base spare held t v y p) : ∃ a, d.K w a v.cells.toList ∧ ok a := by
 obtain ⟨fuel, hf⟩ := hx
 exact h H enc w base spare held fuel _ _ hf
end Go.Proofs.YtagkfkdoibnhfaaDoor.K
end
section
namespace Go.Proofs.YtagkfkdoibnhfaaDoor.K
open Go.ChangeShapes Go.WideShapes Go.ChangeAt Go.RowKit Go.Proofs.YtagkfkdoibnhfaaDoorW.PrintWords Go.Proofs.YtagkfkdoibnhfaaDoor.H
def I64 (n : Int) : Prop := -9223372036854775808 ≤ n ∧ n ≤ 9223372036854775807
def Size (n : Nat) : Prop := n ≤ 9223372036854775807
theorem i64_of_wf {n : Int} (h : (Lit.int .i64 n).wf = true) : I64 n := by
 simp [Lit.wf, IntKind.min, IntKind.max, IntKind.signed, IntKind.bits] at h
 exact h
theorem opens3 : Opens Tryd.prog 3 (Kd.int .i64) I64 := by
 intro H enc w base spare held fuel cs x h
 obtain ⟨n, hK, hn⟩ := Opens.int (k := .i64) Tryd.underlying3 H enc w base spare held fuel cs x h
 exact ⟨n, hK, i64_of_wf hn⟩
def Reg64 (x : S66) : Prop := I64 x.f0 ∧ I64 x.f1 ∧ I64 x.f2 ∧ I64 x.f3
theorem opens66 : Opens Tryd.prog 66 k66 Reg64 := by
 refine Opens.iso (fun a => ⟨a.1, a.2.1, a.2.2.1, a.2.2.2⟩) (fun _ => rfl) (fun _ h => h) (Opens.struct Tryd.underlying66 4 zk ?_)
 exact OpensF.cons rfl zk opens3 (OpensF.cons rfl zk opens3 (OpensF.cons rfl zk opens3 (OpensF.one rfl zk opens3)))
theorem opens22 : Opens Tryd.prog 22 (Kd.slice 66 k66) (fun l => Size l.length ∧ ∀ a ∈ l, Reg64 a) := Opens.slice Tryd.underlying22 zk 66 opens66
theorem opens25 : Opens Tryd.prog 25 (Kd.slice 3 (Kd.int .i64)) (fun l => Size l.length ∧ ∀ a ∈ l, I64 a) := Opens.slice Tryd.underlying25 zk 3 opens3
def Heard64 (x : S60) : Prop := I64 x.f0 ∧ Size x.f1.length ∧ ∀ n ∈ x.f1, I64 n
theorem opens60 : Opens Tryd.prog 60 k60 Heard64 := by
 refine Opens.iso (ok := fun a : Int × List Int => I64 a.1 ∧ (Size a.2.length ∧ ∀ n ∈ a.2, I64 n)) (ok' := Heard64) (fun a => (⟨a.1, a.2⟩ : S60)) (fun _ => rfl) (fun _ h => h) (Opens.struct Tryd.underlying60 2 zk ?_)
 exact OpensF.cons (ok := I64) (ok' := fun l : List Int => Size l.length ∧ ∀ n ∈ l, I64 n) rfl zk opens3 (OpensF.one rfl zk opens25)
theorem opens33 : Opens Tryd.prog 33 (Kd.slice 60 k60) (fun l => Size l.length ∧ ∀ a ∈ l, Heard64 a) := Opens.slice Tryd.underlying33 zk 60 opens60
theorem opens24 : Opens Tryd.prog 24 (Kd.pair (Kd.int .i64) (Kd.pair (Kd.int .i64) (Kd.pair (Kd.int .i64) (Kd.slice 66 k66)))) (fun a => I64 a.1 ∧ (I64 a.2.1 ∧ (I64 a.2.2.1 ∧ (Size a.2.2.2.length ∧ ∀ x ∈ a.2.2.2, Reg64 x)))) := by
 refine Opens.struct Tryd.underlying24 4 zk ?_
 exact OpensF.cons (ok := I64) (ok' := fun a : Int × Int × List S66 => I64 a.1 ∧ (I64 a.2.1 ∧ (Size a.2.2.length ∧ ∀ x ∈ a.2.2, Reg64 x))) rfl zk opens3 (OpensF.cons (ok := I64) (ok' := fun a : Int × List S66 => I64 a.1 ∧ (Size a.2.length ∧ ∀ x ∈ a.2, Reg64 x)) rfl zk opens3 (OpensF.cons (ok := I64) (ok' := fun a : List S66 => Size a.length ∧ ∀ x ∈ a, Reg64 x) rfl zk opens3 (OpensF.one rfl zk opens22)))
section
variable {H : Type} {enc : TypeId × Value → H} {w : World} {base : Nat} {spare : Nat → Bool} {held : Bool} {r : Reach} {b0 : Nat} {v : Value} {y : DataW H} {p : List MemPlace}
set_option maxRecDepth 100000 in
theorem arg_scale (hv : Value.okWide Tryd.prog w r b0 24 v) (h : DataW.Trod enc Tryd.prog w base spare held 24 v y p) :
  ∃ (T O L : Int) (A : Option Addr) (R : List S66) (c : Nat), v = .agg #[.int .i64 T, .int .i64 O, .int .i64 L, .slice A R.length c] ∧ R.length ≤ c ∧ Kd.C k66 w A R.length R ∧ I64 T ∧ I64 O ∧ I64 L ∧ Size R.length ∧ ∀ x ∈ R, Reg64 x := by
 obtain ⟨cs, rfl, _⟩ := okWide_struct Tryd.underlying24 hv
 obtain ⟨⟨T, O, L, R⟩, hK, h1, h2, h3, h4, h5⟩ := Opens.arg opens24 h
 obtain ⟨_, _, e0, rfl, _, _, rfl, rfl, _, _, rfl, rfl, A, c, rfl, hc, hC⟩ := hK
 refine ⟨T, O, L, A, R, c, ?_, hc, hC, h1, h2, h3, h4, h5⟩
 have e1 : cs.toList = [.int .i64 T, .int .i64 O, .int .i64 L, .slice A R.length c] := e0
 congr 1
 rw [← Array.toArray_toList (xs := cs), e1]
set_option maxRecDepth 100000 in
theorem arg_ints (hv : Value.okWide Tryd.prog w r b0 25 v) (h : DataW.Trod enc Tryd.prog w base spare held 25 v y p) :
  ∃ (A : Option Addr) (l : List Int) (c : Nat), v = .slice A l.length c ∧ l.length ≤ c ∧ Kd.C (Kd.int .i64) w A l.length l ∧ Size l.length ∧ ∀ n ∈ l, I64 n := by
 obtain ⟨a, len, cap, rfl⟩ := okWide_slice Tryd.underlying25 hv
 obtain ⟨l, ⟨A, c, e, hc, hC⟩, h1, h2⟩ := Opens.arg opens25 h
 have e1 : [Value.slice a len cap] = [.slice A l.length c] := e
 injection e1 with e1
 exact ⟨A, l, c, e1, hc, hC, h1, h2⟩
set_option maxRecDepth 100000 in
theorem arg_heard (hv : Value.okWide Tryd.prog w r b0 33 v) (h : DataW.Trod enc Tryd.prog w base spare held 33 v y p) :
  ∃ (A : Option Addr) (l : List S60) (c : Nat), v = .slice A l.length c ∧ l.length ≤ c ∧ Kd.C k60 w A l.length l ∧ Size l.length ∧ ∀ x ∈ l, Heard64 x := by
 obtain ⟨a, len, cap, rfl⟩ := okWide_slice Tryd.underlying33 hv
 obtain ⟨l, ⟨A, c, e, hc, hC⟩, h1, h2⟩ := Opens.arg opens33 h
 have e1 : [Value.slice a len cap] = [.slice A l.length c] := e
 injection e1 with e1
 exact ⟨A, l, c, e1, hc, hC, h1, h2⟩
end
end Go.Proofs.YtagkfkdoibnhfaaDoor.K
end
