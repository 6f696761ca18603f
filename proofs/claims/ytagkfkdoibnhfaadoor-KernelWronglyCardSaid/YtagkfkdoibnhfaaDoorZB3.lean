/- Texts of this seat, joined (pruned by a program of this session to what the claim comes to). -/
import Derived.Test.YtagkfkdoibnhfaaDoorZB1
import Derived.Test.YtagkfkdoibnhfaaDoorZB2
section
namespace Go.Proofs.YtagkfkdoibnhfaaDoor.K
open Go.RowKit Go.Shelf Go.Proofs.YtagkfkdoibnhfaaDoorW.PrintWords Go.Proofs.YtagkfkdoibnhfaaDoorW.PrintLast Go.Proofs.YtagkfkdoibnhfaaDoorW.PrintMore Go.Proofs.YtagkfkdoibnhfaaDoor.H
set_option linter.unusedVariables false
set_option linter.unusedSimpArgs false
set_option maxRecDepth 100000 in
set_option maxHeartbeats 4000000 in
theorem can_calls (T O L : Int) (A : Option Addr) (R : List S66) (c m : Nat) (A1 : Option Addr) (c1 : Nat) (hs : List S60) (n N : Nat) (w0 W : World) (hx : Ctx w0 W T A R m) (hl : Kd.C k60 w0 A1 hs.length hs) (hh : okHeard L R hs = true) (hL : 2 ≤ L) (hL' : L ≤ 16) (hn : L / 2 = (n : Int)) (hN : T * O = (N : Int)) (hN' : N ≤ 100) :
  Calls Tryd.prog 63 #[.agg #[.int .i64 T, .int .i64 O, .int .i64 L, .slice A R.length c, .map (some m), .slice A1 hs.length c1]] W fun e W' => e = .returned (.bool (canAll T O L R hs)) ∧ KB T R m W W' := by
 have hu92 := Tryd.underlying92
 have hst := fun (W' : World) (a : Addr) (mo : Mode) => run_store Tryd.prog W' a (.func (.func 84) #[] #[.pointer (some ⟨W.heap.size, 0, none⟩), .pointer (some ⟨W.heap.size + 1, 0, none⟩)]) mo rfl
 have X := zh hx
 have HL := zh hl
 have HH := zh hh
 clear hx hl hh
 go_enter Tryd.func63, Tryd.ntmps63
 have K1 := zh ((KB.alloc T R m W (.cells #[.int .i64 T, .int .i64 O, .int .i64 L, .slice A R.length c, .map (some m), .slice A1 hs.length c1] 92)).trans (KB.alloc T R m (W.alloc (.cells #[.int .i64 T, .int .i64 O, .int .i64 L, .slice A R.length c, .map (some m), .slice A1 hs.length c1] 92)) (.cells #[(.func (.func 84) #[] #[.pointer (some ⟨W.heap.size, 0, none⟩), .pointer (some ⟨W.heap.size + 1, 0, none⟩)])] 120)))
 have B1 := zh (blk_alloc (alloc_at W (.cells #[.int .i64 T, .int .i64 O, .int .i64 L, .slice A R.length c, .map (some m), .slice A1 hs.length c1] 92) W.heap.size rfl) (.cells #[(.func (.func 84) #[] #[.pointer (some ⟨W.heap.size, 0, none⟩), .pointer (some ⟨W.heap.size + 1, 0, none⟩)])] 120))
 have B2 := zh (alloc_at (W.alloc (.cells #[.int .i64 T, .int .i64 O, .int .i64 L, .slice A R.length c, .map (some m), .slice A1 hs.length c1] 92)) (.cells #[(.func (.func 84) #[] #[.pointer (some ⟨W.heap.size, 0, none⟩), .pointer (some ⟨W.heap.size + 1, 0, none⟩)])] 120) (W.heap.size + 1) (by simp))
 go_wp2_with (go_at_call 84; refine ((callsIn_wide (n := 9)).1 (can1_calls T O L A R c m A1 c1 hs n N W.heap.size (W.heap.size + 1) w0 HL.out HH.out hL hL' hn hN hN' n 0 (by omega) _ (K1.out.ctx X.out) B1.out B2.out)).mono ?_; rintro e w1 ⟨rfl, hk⟩; have HK := zh hk; clear hk)
 go_ret
 exact ⟨by rw [canFrom_all T O L R hs n hn]; rfl, K1.out.trans HK.out⟩
end Go.Proofs.YtagkfkdoibnhfaaDoor.K
end
section
namespace Go.Proofs.YtagkfkdoibnhfaaDoor.H
open Go.RowKit Go.Proofs.YtagkfkdoibnhfaaDoorW.PrintWords Go.Proofs.YtagkfkdoibnhfaaDoorW.PrintLast Go.Proofs.YtagkfkdoibnhfaaDoorW.PrintMore
attribute [local go_sem] max2_int min2_int max_two min_two max_three min_three max_four min_four   -- for this text's walks alone
set_option linter.unusedVariables false
set_option linter.unusedSimpArgs false
def kernel_least_int.l0 : Nat → Int → List Int → Int → Int → Option (Int)
 | 0, _, _, _, _ => none
 | k + 1, x0, x7, x8, x9 => if x9 < x8 then (if 0 ≤ x9 then (if x9 < (x7.length : Int) then (kernel_least_int.l0 k (mn x0 (rd x7 x9)) x7 x8 (wrap64 (x9 + 1))) else (none)) else (none)) else (some x0)
def kernel_least_int.f (k : Nat) (a0 : Int) (l1 : List Int) : Option (Int) := kernel_least_int.l0 k a0 l1 (l1.length : Int) 0
set_option maxHeartbeats 8000000 in
set_option maxRecDepth 100000 in
theorem kernel_least_int.calls (k : Nat) (a0 : Int) (A1 : Option Addr) (c1 : Nat) (l1 : List Int) (r : Int) (w : World) (hr1 : Kd.C (Kd.int .i64) w A1 l1.length l1) (hc1 : l1.length ≤ c1) (h : kernel_least_int.f k a0 l1 = some r) :
  Calls Tryd.prog 65 #[.int .i64 a0, .slice A1 l1.length c1] w fun e w' => e = .returned (.int .i64 r) ∧ Below w.heap.size w w' := by
 have HR1 := zh hr1
 have HC1 := zh hc1
 clear hr1 hc1
 have HB := zh (Below.refl w.heap.size w)
 have H : (kernel_least_int.l0 k a0 l1 (l1.length : Int) 0) = some r := h
 clear h
 have H' := zh H
 clear H
 go_enter Tryd.func65, Tryd.ntmps65
 go_wp2
 go_loopg [0, 9] k (fun kq v0 v9 w' => ∃ (x0_1 : Int) (x9_1 : Int), v0 = .int .i64 x0_1 ∧ v9 = .int .i64 x9_1 ∧ Aside0 (kernel_least_int.l0 kq x0_1 l1 (l1.length : Int) x9_1 = some r) ∧ Aside0 (kq ≤ k) ∧ Aside0 (Below w.heap.size w w'))
 case atStart => exact ⟨(a0), (0), ze, ze, H', ⟨Nat.le_refl _⟩, ⟨zb⟩⟩
 case round =>
  clear H'
  try clear c1
  try clear p2
  obtain ⟨x0_1, x9_1, rfl, rfl, HA, HK1, HB⟩ := hrel
  cases gk with
  | zero => exact absurd HA.out (by simp [kernel_least_int.l0])
  | succ k1 =>
   have H := HA.out
   clear HA
   simp only [kernel_least_int.l0] at H
   by_cases c3 : x9_1 < (l1.length : Int)
   ·rw [if_pos c3] at H
    have c3b0 : decide (x9_1 < (l1.length : Int)) = true := decide_eq_true c3
    clear c3
    by_cases c4 : 0 ≤ x9_1
    ·rw [if_pos c4] at H
     have c4b0 : decide (0 ≤ x9_1) = true := decide_eq_true c4
     clear c4
     by_cases c5 : x9_1 < (l1.length : Int)
     ·rw [if_pos c5] at H
      have c5b0 : decide (x9_1 < (l1.length : Int)) = true := decide_eq_true c5
      clear c5
      obtain ⟨ji6, hji6⟩ : ∃ j_ : Int, (mn x0_1 (rd l1 x9_1)) = j_ := ⟨_, rfl⟩
      replace H : (kernel_least_int.l0 k1 ji6 l1 (l1.length : Int) (wrap64 (x9_1 + 1))) = some r := by first | (rw [hji6] at H; exact H) | (simp only [hji6] at H ⊢; exact H)
      have hji6_ : (if (rd l1 x9_1) < x0_1 then (rd l1 x9_1) else x0_1) = ji6 := hji6
      have H' := zh H
      clear H
      have p173 : 0 ≤ (x9_1 : Int) := of_decide_eq_true zs
      have q173 : x9_1 < (l1.length : Int) := of_decide_eq_true zs
      obtain ⟨ad173, e173, hx173_0⟩ := Kd.at_int HR1.out x9_1 p173 q173
      cases e173
      replace hx173_0 := ve HB.out hx173_0
      replace p173 := eq_true p173
      replace q173 := eq_true q173
      go_wp2
      go_roundg k1
      case measure => have := HK1.out; omega
      case rel => exact ⟨(ji6), (wrap64 (x9_1 + 1)), (by first | rfl | (simp; done) | (simp only [← hji6] <;> (first | rfl | simp)) | (simp [*]; done)), ze, H', ⟨by have := HK1.out; omega⟩, ⟨zb⟩⟩
     ·rw [if_neg c5] at H
      exact absurd H (by simp)
    ·rw [if_neg c4] at H
     exact absurd H (by simp)
   ·rw [if_neg c3] at H
    have c3b0 : decide (x9_1 < (l1.length : Int)) = false := decide_eq_false c3
    clear c3
    obtain rfl := Option.some.inj H
    go_wp2
    go_ret
    exact ⟨zf, zb⟩
end Go.Proofs.YtagkfkdoibnhfaaDoor.H
end
section
namespace Go.Proofs.YtagkfkdoibnhfaaDoor.K
open Go.RowKit Go.Shelf Go.Proofs.YtagkfkdoibnhfaaDoorW.PrintWords Go.Proofs.YtagkfkdoibnhfaaDoorW.PrintLast Go.Proofs.YtagkfkdoibnhfaaDoorW.PrintMore Go.Proofs.YtagkfkdoibnhfaaDoor.H
set_option linter.unusedVariables false
set_option linter.unusedSimpArgs false
attribute [local go_sem] Oper.semAt_some
def Marks (lo : Nat) : List Deferred → World → Prop
 | [], _ => True
 | d :: ds, W => (∃ D, d = { target := .collected D, args := #[] } ∧ lo ≤ D ∧ W.heap[D]? = some (.deferred (some [])) ∧ ∀ e ∈ ds, e ≠ { target := .collected D, args := #[] }) ∧ Marks lo ds W
theorem Marks.keep {lo : Nat} : ∀ {ds : List Deferred} {W W' : World}, Marks lo ds W → (∀ D, lo ≤ D → W.heap[D]? = some (.deferred (some [])) → { target := .collected D, args := #[] } ∈ ds → W'.heap[D]? = some (.deferred (some []))) → Marks lo ds W'
 | [], _, _, _, _ => trivial
 | d :: ds, W, W', ⟨⟨D, hd, hlo, hk, hn⟩, ht⟩, h => ⟨⟨D, hd, hlo, h D hlo hk (by rw [← hd]; exact List.mem_cons_self), hn⟩, Marks.keep ht (fun D' h1 h2 h3 => h D' h1 h2 (List.mem_cons_of_mem _ h3))⟩
theorem Marks.mem {lo : Nat} : ∀ {ds : List Deferred} {W : World} {d : Deferred}, Marks lo ds W → d ∈ ds → ∃ D, d = { target := .collected D, args := #[] } ∧ lo ≤ D ∧ W.heap[D]? = some (.deferred (some []))
 | _ :: _, _, _, ⟨⟨D, hd, hlo, hk, _⟩, ht⟩, hm => by
  rcases List.mem_cons.1 hm with rfl | hm
  ·exact ⟨D, hd, hlo, hk⟩
  ·exact Marks.mem ht hm
theorem leave_marks {F : Fence} {n : Nat} {fn : Func} {tmps : Array Value} {Q : Ending → World → Prop} {T : Int} {R : List S66} {m lo : Nat} (hm : m < lo) : ∀ (ds : List Deferred) (w : World), Marks lo ds w →
  (∀ w', KM T R m lo w w' → LeavesIn F n Tryd.prog fn tmps Q [] .returning w') → LeavesInM F n Tryd.prog fn tmps Q ds .returning w
 | [], w, _, h => h w ⟨rfl, rfl, rfl, Nat.le_refl _, fun _ _ h _ _ => h, id⟩
 | d :: ds, w, ⟨⟨D, hd, hlo, hk, hn⟩, ht⟩, h => ⟨by simp, .inl ⟨D, w.putObj D (.deferred none), by rw [hd], run_takeDeferred hk, leave_marks hm ds _ (ht.keep (fun D' _ h2 h3 => by
   refine (World.putObj_heap_other ?_).trans h2
   rintro rfl
   exact hn _ h3 rfl)) (fun w' hw => h w' (by
    have hp := KM.put T R (n := lo) (m := m) (.deferred none) hk rfl hlo (by omega)
    exact ⟨hw.os.trans hp.os, hw.tape.trans hp.tape, hw.output.trans hp.output, Nat.le_trans hp.size hw.size, fun i o hi hne hc => hw.block i o (hp.block i o hi hne hc) hne hc, fun x => hw.memo (hp.memo x)⟩))⟩⟩
theorem ListenedPost.bad {T O L : Int} {A : Option Addr} {R : List S66} {c : Nat} {A1 : Option Addr} {n c1 : Nat} {b : Bool} {w : World} {e : Ending} {w' : World} {x : Int} (h : ListenedPost T O L A R c A1 n c1 b w e w') (hb : okScale T O L R = false ∧ x = 60 ∨ okScale T O L R = true ∧ b = false ∧ x = 61) :
  e = .returned (.tuple #[.agg #[.int .i64 0, .int .i64 0, .int .i64 0, .slice none 0 0, .map none, .slice A1 n c1], .int .i64 x]) ∧ Below w.heap.size w w' := by
 rcases hb with ⟨g1, rfl⟩ | ⟨g1, g2, rfl⟩
 ·exact h.1 g1
 ·exact h.2.1 g1 g2
theorem ListenedPost.good {T O L : Int} {A : Option Addr} {R : List S66} {c : Nat} {A1 : Option Addr} {n c1 : Nat} {b : Bool} {w : World} {e : Ending} {w' : World} (h : ListenedPost T O L A R c A1 n c1 b w e w') (h1 : okScale T O L R = true) (h2 : b = true) :
  ∃ m, e = .returned (.tuple #[.agg #[.int .i64 T, .int .i64 O, .int .i64 L, .slice A R.length c, .map (some m), .slice A1 n c1], .int .i64 0]) ∧ Ctx w w' T A R m := h.2.2 h1 h2
set_option maxRecDepth 100000 in
set_option maxHeartbeats 4000000 in
theorem many_bad (T O L : Int) (A : Option Addr) (R : List S66) (c : Nat) (A1 : Option Addr) (c1 : Nat) (hs : List S60) (w : World) (hR : Kd.C k66 w A R.length R) (hc : R.length ≤ c) (hl : Kd.C k60 w A1 hs.length hs) (hG : Glob w)
  (x : Int) (hx0 : x ≠ 0) (hb : okScale T O L R = false ∧ x = 60 ∨ okScale T O L R = true ∧ okHeard L R hs = false ∧ x = 61) :
  Calls Tryd.prog 22 #[.agg #[.int .i64 T, .int .i64 O, .int .i64 L, .slice A R.length c], .slice A1 hs.length c1] w fun e w' => e = .returned (.tuple #[.int .i64 0, .int .i64 x]) ∧ Below w.heap.size w w' := by
 have hu24 := Tryd.underlying24
 have hu92 := Tryd.underlying92
 have HB0 := zh (below_alloc (Below.refl w.heap.size w) (.cells #[.int .i64 T, .int .i64 O, .int .i64 L, .slice A R.length c] 24))
 have HR := zh (Kd.C_below hR HB0.out)
 have HL := zh (Kd.C_below hl HB0.out)
 have HG := zh (hG.below HB0.out)
 have HBAD := zh hb
 have hx' : (x == 0) = false := beq_eq_false_iff_ne.2 hx0
 have hx'' : (x != 0) = true := bne_iff_ne.2 hx0
 clear hR hl hG hb hx0
 go_enter Tryd.func22, Tryd.ntmps22
 go_wp2_with (first | (go_at_call 62; (with_reducible refine (listened_calls T O L A R c A1 c1 hs _ HR.out hc HL.out HG.out).mono ?_); rintro e w1 hp; obtain ⟨rfl, hb1⟩ := hp.bad HBAD.out; have HB1 := zh (HB0.out.trans (hb1.mono (by simp))); clear hp hb1))
 go_ret2
 exact ⟨rfl, below_alloc HB1.out _⟩
set_option maxRecDepth 100000 in
set_option maxHeartbeats 4000000 in
theorem many_none (T O L : Int) (A : Option Addr) (R : List S66) (c : Nat) (A1 : Option Addr) (c1 : Nat) (hs : List S60) (w : World) (hR : Kd.C k66 w A R.length R) (hc : R.length ≤ c) (hl : Kd.C k60 w A1 hs.length hs) (hG : Glob w)
  (h1 : okScale T O L R = true) (h2 : okHeard L R hs = true) (h3 : canAll T O L R hs = false) :
  Calls Tryd.prog 22 #[.agg #[.int .i64 T, .int .i64 O, .int .i64 L, .slice A R.length c], .slice A1 hs.length c1] w fun e w' => e = .returned (.tuple #[.int .i64 0, .int .i64 0]) ∧ Below w.heap.size w w' := by
 have hu24 := Tryd.underlying24
 have hu78 := Tryd.underlying78
 have hu92 := Tryd.underlying92
 have HB0 := zh (below_alloc (Below.refl w.heap.size w) (.cells #[.int .i64 T, .int .i64 O, .int .i64 L, .slice A R.length c] 24))
 have HR := zh (Kd.C_below hR HB0.out)
 have HL := zh (Kd.C_below hl HB0.out)
 have HG := zh (hG.below HB0.out)
 have HL0 := zh hl
 have HR0 := zh hR
 have HG0 := zh hG
 have HOK := zh h1
 have HOH := zh h2
 obtain ⟨t1, t2, t3, t4, t5, t6, _, _, t9, _⟩ := okScale_regs h1
 have mr := mul_range t1 t2 t3 t4
 obtain ⟨N, hN⟩ : ∃ N : Nat, T * O = (N : Int) := Int.eq_ofNat_of_zero_le (by omega)
 obtain ⟨n, hn⟩ : ∃ n : Nat, L / 2 = (n : Int) := Int.eq_ofNat_of_zero_le (by omega)
 have hN' : N ≤ 100 := by omega
 have HCAN := zh h3
 clear hR hl hG h1 h2 h3 t1 t2 t3 t4 t9
 go_enter Tryd.func22, Tryd.ntmps22
 go_wp2_with (first | (go_at_call 62; (with_reducible refine (listened_calls T O L A R c A1 c1 hs _ HR.out hc HL.out HG.out).mono ?_); rintro e w1 hp; obtain ⟨m, rfl, hx⟩ := hp.good HOK.out HOH.out; have X1 := zh (hx.elder HB0.out HR0.out HG0.out); have KB1 := zh (KB.alloc T R m w1 (.cells #[.int .i64 T, .int .i64 O, .int .i64 L, .slice A R.length c, .map (some m), .slice A1 hs.length c1] 92)); have B1 := zh (alloc_at w1 (.cells #[.int .i64 T, .int .i64 O, .int .i64 L, .slice A R.length c, .map (some m), .slice A1 hs.length c1] 92) w1.heap.size rfl); clear hp hx) | (go_at_call 63; (with_reducible refine (can_calls T O L A R c m A1 c1 hs n N w _ (KB1.out.ctx X1.out) HL0.out HOH.out t5 t6 hn hN hN').mono ?_); rintro e w2 ⟨rfl, hk⟩; rw [HCAN.out]; have KB2 := zh (KB1.out.trans hk); have B2 := zh (hk.at B1.out (by have := X1.out.memo.lt; omega)); clear hk))
 go_ret2
 exact ⟨rfl, (KB2.out.ctx X1.out).base⟩
def manyTo (T O : Int) (R : List S66) (hs : List S60) (k : Nat) : Int := (List.range k).foldl (fun n i => min 1000000 (n * ((choices T O R hs ((i : Nat) : Int)).length : Int))) 1
theorem manyTo_succ (T O : Int) (R : List S66) (hs : List S60) (k : Nat) : manyTo T O R hs (k + 1) = min 1000000 (manyTo T O R hs k * ((choices T O R hs (k : Int)).length : Int)) := by
 unfold manyTo
 rw [List.range_succ, List.foldl_append]
 rfl
theorem manyTo_range (T O : Int) (R : List S66) (hs : List S60) : ∀ k, 0 ≤ manyTo T O R hs k ∧ manyTo T O R hs k ≤ 1000000
 | 0 => by simp [manyTo]
 | k + 1 => by
  have ih := manyTo_range T O R hs k
  rw [manyTo_succ]
  have h : 0 ≤ manyTo T O R hs k * ((choices T O R hs (k : Int)).length : Int) := Int.mul_nonneg ih.1 (Int.natCast_nonneg _)
  omega
theorem manyTo_all (T O L : Int) (R : List S66) (hs : List S60) (n : Nat) (h : L / 2 = (n : Int)) : manyTo T O R hs n = manyOf T O L R hs := by
 unfold manyTo manyOf irange
 rw [h, show ((n : Int) - 1 + 1 - 0).toNat = n from by omega, List.foldl_map]
 simp
theorem uptoP_len (N : Nat) : ∀ i, (uptoP N i 0).length = i * N
 | 0 => by simp [uptoP]
 | i + 1 => by
  have ih := uptoP_len N i
  rw [uptoP_row]
  unfold uptoP at ih ⊢
  simp only [List.length_append, List.length_map, List.length_range, List.range_zero, List.map_nil, List.length_nil, Nat.add_zero] at ih ⊢
  rw [ih, Nat.add_mul, Nat.one_mul]
theorem choices_len (T O : Int) (R : List S66) (hs : List S60) (p N : Nat) (hN : T * O = (N : Int)) (hN' : N ≤ 100) : (choices T O R hs (p : Int)).length ≤ 10000 := by
 have e : (pairsOf (N : Int)).length = N * N := by
  rw [← uptoP_all]
  exact uptoP_len N N
 rw [choices_filter T O R hs p N hN]
 refine Nat.le_trans (List.length_filter_le _ _) ?_
 rw [e]
 exact Nat.mul_le_mul hN' hN'
theorem least_f (a x : Int) : kernel_least_int.f 3 a [x] = some (min a x) := by
 unfold kernel_least_int.f
 simp only [kernel_least_int.l0, List.length_cons, List.length_nil]
 rw [show wrap64 (0 + 1) = 1 from w64 (by omega) (by omega)]
 simp [rd, mn]
 omega
set_option maxRecDepth 100000 in
set_option maxHeartbeats 4000000 in
theorem many_good (T O L : Int) (A : Option Addr) (R : List S66) (c : Nat) (A1 : Option Addr) (c1 : Nat) (hs : List S60) (w : World) (hR : Kd.C k66 w A R.length R) (hc : R.length ≤ c) (hl : Kd.C k60 w A1 hs.length hs) (hG : Glob w)
  (h1 : okScale T O L R = true) (h2 : okHeard L R hs = true) (h3 : canAll T O L R hs = true) :
  Calls Tryd.prog 22 #[.agg #[.int .i64 T, .int .i64 O, .int .i64 L, .slice A R.length c], .slice A1 hs.length c1] w fun e w' => e = .returned (.tuple #[.int .i64 (manyOf T O L R hs), .int .i64 0]) ∧ Below w.heap.size w w' := by
 have hu24 := Tryd.underlying24
 have hu78 := Tryd.underlying78
 have hu92 := Tryd.underlying92
 have HB0 := zh (below_alloc (Below.refl w.heap.size w) (.cells #[.int .i64 T, .int .i64 O, .int .i64 L, .slice A R.length c] 24))
 have HR := zh (Kd.C_below hR HB0.out)
 have HL := zh (Kd.C_below hl HB0.out)
 have HG := zh (hG.below HB0.out)
 have HL0 := zh hl
 have HR0 := zh hR
 have HG0 := zh hG
 have HOK := zh h1
 have HOH := zh h2
 obtain ⟨t1, t2, t3, t4, t5, t6, _, _, t9, _⟩ := okScale_regs h1
 have mr := mul_range t1 t2 t3 t4
 obtain ⟨N, hN⟩ : ∃ N : Nat, T * O = (N : Int) := Int.eq_ofNat_of_zero_le (by omega)
 obtain ⟨n, hn⟩ : ∃ n : Nat, L / 2 = (n : Int) := Int.eq_ofNat_of_zero_le (by omega)
 have hN' : N ≤ 100 := by omega
 have HCAN := zh h3
 clear hR hl hG h1 h2 h3 t1 t2 t3 t4 t9
 refine (callsIn_wide (n := 9)).1 ?_
 refine callsIn_of_wp_marks Tryd.func22 rfl trivial ?_ rfl
 simp only [Tryd.ntmps22, List.size_toArray, List.length_cons, List.length_nil, Nat.reduceAdd, Nat.reduceSub, Array.replicate_succ, Array.replicate_zero, List.push_toArray, List.append_toArray, List.nil_append, List.cons_append]
 gi_wp2_with (first | (refine ⟨trivial, ?_⟩; (gi_at_call 62; refine (callsIn_wide.2 (listened_calls T O L A R c A1 c1 hs _ HR.out hc HL.out HG.out)).mono ?_; rintro e w1 hp; obtain ⟨m, rfl, hx⟩ := hp.good HOK.out HOH.out; have X1 := zh (hx.elder HB0.out HR0.out HG0.out); have KB1 := zh (KB.alloc T R m w1 (.cells #[.int .i64 T, .int .i64 O, .int .i64 L, .slice A R.length c, .map (some m), .slice A1 hs.length c1] 92)); have B1 := zh (alloc_at w1 (.cells #[.int .i64 T, .int .i64 O, .int .i64 L, .slice A R.length c, .map (some m), .slice A1 hs.length c1] 92) w1.heap.size rfl); clear hp hx)) | (refine ⟨trivial, ?_⟩; (gi_at_call 63; refine (callsIn_wide.2 (can_calls T O L A R c m A1 c1 hs n N w _ (KB1.out.ctx X1.out) HL0.out HOH.out t5 t6 hn hN hN')).mono ?_; rintro e w2 ⟨rfl, hk⟩; rw [HCAN.out]; have KB2 := zh (KB1.out.trans hk); have B2 := zh (hk.at B1.out (by have := X1.out.memo.lt; omega)); clear hk; have q2 : w2.cell? ⟨w1.heap.size, 2, none⟩ = some (.int .i64 L) := vb B2 2)))
 rw [hn]
 have hw2 := X1.out.memo.lt
 have X2 := zh (KB2.out.ctx X1.out)
 have hlo := KB2.out.kp.size
 have hmw2 : m < w2.heap.size := X2.out.memo.lt
 have hw1m : w1.heap.size ≠ m := by omega
 clear q2
 refine wpIn_loop (fun a' wr => ∃ (k : Nat) (ds : List Deferred) (u9 u10 u31 u32 u33 u34 u35 u36 u37 u38 u39 u40 u41 u42 u43 u44 : Value), k ≤ n ∧ a' = { tmps := #[.agg #[.int .i64 T, .int .i64 O, .int .i64 L, .slice A R.length c], .slice A1 hs.length c1, .pointer (some ⟨w.heap.size, 0, none⟩), undef, .int .i64 0, .int .i64 0, .pointer (some ⟨w1.heap.size, 0, none⟩), .int .i64 0, .int .i64 (manyTo T O R hs k), u9, u10, .tuple #[.agg #[.int .i64 T, .int .i64 O, .int .i64 L, .slice A R.length c, .map (some m), .slice A1 hs.length c1], .int .i64 0], .agg #[.int .i64 T, .int .i64 O, .int .i64 L, .slice A R.length c], .slice A1 hs.length c1, .tuple #[.agg #[.int .i64 T, .int .i64 O, .int .i64 L, .slice A R.length c, .map (some m), .slice A1 hs.length c1], .int .i64 0], .agg #[.int .i64 T, .int .i64 O, .int .i64 L, .slice A R.length c, .map (some m), .slice A1 hs.length c1], .int .i64 0, .int .i64 0, .bool false, .bool false, .agg #[.int .i64 T, .int .i64 O, .int .i64 L, .slice A R.length c, .map (some m), .slice A1 hs.length c1], .bool true, .bool false, .bool false, undef, .pointer (some ⟨w1.heap.size, 0, none⟩), .pointer (some ⟨w1.heap.size, 0, none⟩), .pointer (some ⟨w1.heap.size, 2, none⟩), .int .i64 L, .int .i64 (n : Int), .int .i64 (k : Int), u31, u32, u33, u34, u35, u36, u37, u38, u39, u40, u41, u42, u43, u44, undef], defers := ds } ∧ Marks w2.heap.size ds wr ∧ KB T R m w2 wr) (fun a' _ => n - (intOf (a'.tmps.getD 30 undef)).toNat) ?atStart ?round
 case atStart => exact ⟨0, [], undef, undef, undef, undef, undef, undef, undef, undef, undef, undef, undef, undef, undef, undef, undef, undef, Nat.zero_le _, rfl, trivial, KB.refl _ _ _ _⟩
 case round =>
  rintro a' wr ⟨k, ds, u9, u10, u31, u32, u33, u34, u35, u36, u37, u38, u39, u40, u41, u42, u43, u44, hk, rfl, hM, hK⟩
  have HM := zh hM
  have HK := zh hK
  clear hM hK
  by_cases hlt : k < n
  ·have hlt' : (k : Int) < (n : Int) := by omega
   have Br := zh (HK.out.at B2.out hw1m)
   have z0 : (wr.alloc (.cells #[.int .i64 0] 3)).cell? ⟨w1.heap.size, 0, none⟩ = some (.int .i64 T) := cell_a1 (vb Br 0) (.cells #[.int .i64 0] 3)
   have z1 : (wr.alloc (.cells #[.int .i64 0] 3)).cell? ⟨w1.heap.size, 1, none⟩ = some (.int .i64 O) := cell_a1 (vb Br 1) (.cells #[.int .i64 0] 3)
   have z2 : (wr.alloc (.cells #[.int .i64 0] 3)).cell? ⟨w1.heap.size, 2, none⟩ = some (.int .i64 L) := cell_a1 (vb Br 2) (.cells #[.int .i64 0] 3)
   have z3 : (wr.alloc (.cells #[.int .i64 0] 3)).cell? ⟨w1.heap.size, 3, none⟩ = some (.slice A R.length c) := cell_a1 (vb Br 3) (.cells #[.int .i64 0] 3)
   have z4 : (wr.alloc (.cells #[.int .i64 0] 3)).cell? ⟨w1.heap.size, 4, none⟩ = some (.map (some m)) := cell_a1 (vb Br 4) (.cells #[.int .i64 0] 3)
   have z5 : (wr.alloc (.cells #[.int .i64 0] 3)).cell? ⟨w1.heap.size, 5, none⟩ = some (.slice A1 hs.length c1) := cell_a1 (vb Br 5) (.cells #[.int .i64 0] 3)
   gi_wp2_with (refine ⟨trivial, ?_⟩; gi_at_call 64; refine (callsIn_any _ (fits_calls T O L A R.length c m A1 hs.length c1 (k : Int) _)).mono ?_; rintro e w' ⟨rfl, rfl⟩)
   clear z0 z1 z2 z3 z4 z5
   obtain ⟨wo, hwo⟩ : ∃ wo, wo = wr := ⟨_, rfl⟩
   subst hwo
   have K1 := zh (((KB.alloc T R m wo (.cells #[.int .i64 0] 3)).trans (KB.alloc T R m (wo.alloc (.cells #[.int .i64 0] 3)) (.cells #[.int .i64 T, .int .i64 O, .int .i64 L, .slice A R.length c, .map (some m), .slice A1 hs.length c1] 92))).trans (KB.alloc T R m ((wo.alloc (.cells #[.int .i64 0] 3)).alloc (.cells #[.int .i64 T, .int .i64 O, .int .i64 L, .slice A R.length c, .map (some m), .slice A1 hs.length c1] 92)) (.cells #[.int .i64 (k : Int)] 3)))
   have b10 : Boxed (((wo.alloc (.cells #[.int .i64 0] 3)).alloc (.cells #[.int .i64 T, .int .i64 O, .int .i64 L, .slice A R.length c, .map (some m), .slice A1 hs.length c1] 92)).alloc (.cells #[.int .i64 (k : Int)] 3)) wo.heap.size 3 (.int .i64 0) := blk_alloc (blk_alloc (alloc_at _ _ _ rfl) _) _
   have b92 := zh (blk_alloc (alloc_at (wo.alloc (.cells #[.int .i64 0] 3)) (.cells #[.int .i64 T, .int .i64 O, .int .i64 L, .slice A R.length c, .map (some m), .slice A1 hs.length c1] 92) (wo.heap.size + 1) (by simp)) (.cells #[.int .i64 (k : Int)] 3))
   have b3 := zh (alloc_at ((wo.alloc (.cells #[.int .i64 0] 3)).alloc (.cells #[.int .i64 T, .int .i64 O, .int .i64 L, .slice A R.length c, .map (some m), .slice A1 hs.length c1] 92)) (.cells #[.int .i64 (k : Int)] 3) (wo.heap.size + 1 + 1) (by simp))
   have hsz : (((wo.alloc (.cells #[.int .i64 0] 3)).alloc (.cells #[.int .i64 T, .int .i64 O, .int .i64 L, .slice A R.length c, .map (some m), .slice A1 hs.length c1] 92)).alloc (.cells #[.int .i64 (k : Int)] 3)).heap.size = wo.heap.size + 3 := by simp
   obtain ⟨W0, hW0⟩ : ∃ W0, (((wo.alloc (.cells #[.int .i64 0] 3)).alloc (.cells #[.int .i64 T, .int .i64 O, .int .i64 L, .slice A R.length c, .map (some m), .slice A1 hs.length c1] 92)).alloc (.cells #[.int .i64 (k : Int)] 3)) = W0 := ⟨_, rfl⟩
   simp only [hW0] at K1 b10 b92 b3 hsz ⊢
   clear hW0
   have XR := zh (HK.out.ctx X2.out)
   have X0 := zh (K1.out.ctx XR.out)
   have hxb := XR.out.base.size
   have hks := HK.out.kp.size
   have hcl := choices_len T O R hs k N hN hN'
   have hmr := manyTo_range T O R hs k
   refine wpIn_range (n := 9) (by omega) (gf := 85) (lb := #[.pointer (some ⟨wo.heap.size + 1, 0, none⟩), .pointer (some ⟨wo.heap.size + 1 + 1, 0, none⟩)]) rfl (enters_of Tryd.func85 zk rfl)
    (fits_seq T O L A R c m A1 c1 hs k N (wo.heap.size + 1) (wo.heap.size + 1 + 1) (fun i => i < W0.heap.size ∧ i ≠ wo.heap.size) w W0 X0.out HL0.out HOH.out t5 t6 (by omega) b92.out b3.out ⟨by omega, by omega⟩ ⟨by omega, by omega⟩ (fun i hi => ⟨by omega, by omega⟩) (fun i hi => hi.1) hN hN') (fun i hi => hi.1) (by omega) (fun _ => rfl)
    (fun pre Wx => KR T R m (fun i => i < W0.heap.size ∧ i ≠ wo.heap.size) W0 Wx ∧ Boxed Wx wo.heap.size 3 (.int .i64 (pre.length : Int)))
    (fun _ _ _ => False)
    (fun s X Y h hk => ⟨h.1.weak hk (fun i hi _ => hi.1), hk.box h.2 (by omega)⟩)
    (fun c s X Y h hk => h)
    ⟨KR.refl _ _ _ _ _, b10⟩
    (fun x a' Wx => a' = { tmps := #[.agg #[.int .i64 T, .int .i64 O, .int .i64 L, .slice A R.length c], .slice A1 hs.length c1, .pointer (some ⟨w.heap.size, 0, none⟩), undef, .int .i64 0, .int .i64 0, .pointer (some ⟨w1.heap.size, 0, none⟩), .int .i64 0, .int .i64 (manyTo T O R hs k), .int .i64 (k : Int), .pointer (some ⟨wo.heap.size, 0, none⟩), .tuple #[.agg #[.int .i64 T, .int .i64 O, .int .i64 L, .slice A R.length c, .map (some m), .slice A1 hs.length c1], .int .i64 0], .agg #[.int .i64 T, .int .i64 O, .int .i64 L, .slice A R.length c], .slice A1 hs.length c1, .tuple #[.agg #[.int .i64 T, .int .i64 O, .int .i64 L, .slice A R.length c, .map (some m), .slice A1 hs.length c1], .int .i64 0], .agg #[.int .i64 T, .int .i64 O, .int .i64 L, .slice A R.length c, .map (some m), .slice A1 hs.length c1], .int .i64 0, .int .i64 0, .bool false, .bool false, .agg #[.int .i64 T, .int .i64 O, .int .i64 L, .slice A R.length c, .map (some m), .slice A1 hs.length c1], .bool true, .bool false, .bool false, undef, .pointer (some ⟨w1.heap.size, 0, none⟩), .pointer (some ⟨w1.heap.size, 0, none⟩), .pointer (some ⟨w1.heap.size, 2, none⟩), .int .i64 L, .int .i64 (n : Int), .int .i64 (k : Int), .bool true, .int .i64 (k : Int), .agg #[.int .i64 T, .int .i64 O, .int .i64 L, .slice A R.length c, .map (some m), .slice A1 hs.length c1], .int .i64 (k : Int), .func (.func 85) #[] #[.pointer (some ⟨wo.heap.size + 1, 0, none⟩), .pointer (some ⟨wo.heap.size + 1 + 1, 0, none⟩)], .agg #[.int .i64 x.1, .int .i64 x.2], u37, u38, u39, u40, u41, u42, u43, u44, undef], defers := [] })
    (fun x a' X Y h hk => h)
    ?assign ?body ?done ?stop
   case assign =>
    rintro l2 pre x Wx K hI hK
    dsimp only [encP]
    gi_wp2
    exact hK _ _ (KeepsFrom.refl _ _) (KR.refl _ _ _ _ _) hI (by simp)
   case body =>
    rintro l2 pre x a' Wx hl2 hok hpre ⟨hK1, hb1⟩ rfl
    have hpl : pre.length + 1 ≤ 10000 := Nat.le_trans (by have := hpre.length_le; simpa using this) hcl
    have HKx := zh hK1
    have HBx := zh hb1
    have y0 := HBx.out.cell
    have y1 := HBx.out.frozen
    clear hK1 hb1
    gi_wp2
    exact ⟨(KeepsOthers.setCell _ _ _).from _, (KR.refl _ _ _ _ _).set (.inl dQ15) (by omega) 0 _, HKx.out.set (.inl (fun h => h.2 rfl)) (by omega) 0 _, by rw [List.length_append]; exact HBx.out.set _⟩
   case done =>
    rintro D Wx hD ⟨hK1, hb1⟩ hKd
    have HKx := zh hK1
    have HBx := zh hb1
    have HD := zh hKd
    have y0 := HBx.out.cell
    clear hK1 hb1 hKd
    have hprod : manyTo T O R hs k * ((choices T O R hs (k : Int)).length : Int) ≤ 1000000 * 10000 := Int.mul_le_mul hmr.2 (by omega) (Int.natCast_nonneg _) (by omega)
    have hprod0 : 0 ≤ manyTo T O R hs k * ((choices T O R hs (k : Int)).length : Int) := Int.mul_nonneg hmr.1 (Int.natCast_nonneg _)
    have HS := zh (manyTo_succ T O R hs k)
    have HC := zh (Kd.R_reads' (R_lit_new (w := Wx.alloc (.cells #[.int .i64 (manyTo T O R hs k * ((choices T O R hs (k : Int)).length : Int))] 3)) (base := 0) (g := Wx.heap.size) (xs := [(manyTo T O R hs k * ((choices T O R hs (k : Int)).length : Int))]) rfl (alloc_at Wx (.cells #[.int .i64 (manyTo T O R hs k * ((choices T O R hs (k : Int)).length : Int))] 3) Wx.heap.size rfl) (Nat.zero_le _) (by simp [maxLen]) rfl)).2.2
    gi_wp2_with (refine ⟨trivial, ?_⟩; gi_at_call 65; refine (callsIn_wide.2 (kernel_least_int.calls 3 1000000 (some ⟨Wx.heap.size, 0, none⟩) 1 [(manyTo T O R hs k * ((choices T O R hs (k : Int)).length : Int))] (min 1000000 (manyTo T O R hs k * ((choices T O R hs (k : Int)).length : Int))) _ HC.out (by simp) (least_f _ _))).mono ?_; rintro e w5 ⟨rfl, hb5⟩; have KB5 := zh ((KB.alloc T R m Wx (.cells #[.int .i64 (manyTo T O R hs k * ((choices T O R hs (k : Int)).length : Int))] 3)).trans (KB.of_below hb5)); clear hb5)
    have hmark : ∀ D', w2.heap.size ≤ D' → wo.heap[D']? = some (.deferred (some [])) → w5.heap[D']? = some (.deferred (some [])) := fun D' h1 h2 => by
     have h3 := blk_lt h2
     exact KB5.out.at (HKx.out.at (K1.out.at h2 (by omega)) ⟨by omega, by omega⟩ (by omega)) (by omega)
    have hfresh : ∀ e ∈ ds, e ≠ ({ target := .collected D, args := #[] } : Deferred) := fun e he hed => by
     obtain ⟨D', rfl, h1, h2⟩ := HM.out.mem he
     have h3 := blk_lt h2
     injection hed with h4 _
     injection h4 with h5
     omega
    exact ⟨⟨k + 1, { target := .collected D, args := #[] } :: ds, _, _, _, _, _, _, _, _, _, _, _, _, _, _, _, _, by omega, by rw [HS.out]; rfl, ⟨⟨D, rfl, by omega, KB5.out.at HD.out (by omega), hfresh⟩, HM.out.keep (fun D' h1 h2 _ => hmark D' h1 h2)⟩, HK.out.trans ((KR.kbs K1.out HKx.out (fun i hi => ⟨by omega, by omega⟩)).trans KB5.out)⟩, by simp [intOf]; omega⟩
   case stop =>
    rintro D c pre Wx hD hpre h hKd
    exact h.elim
  ·obtain rfl : k = n := by omega
   have hlt' : ¬ (k : Int) < (k : Int) := by omega
   gi_wp2
   refine leave_marks (T := T) (R := R) hmw2 ds _ HM.out (fun w' hkm => ?_)
   exact ⟨_, results_tmp2 rfl _ _ _, by rw [manyTo_all T O L R hs k hn]; rfl, by
    have hb := (HK.out.ctx X2.out).base
    have h2 := X1.out.base.size
    exact ⟨hkm.os.trans hb.os, hkm.tape.trans hb.tape, hkm.output.trans hb.output, Nat.le_trans hb.size hkm.size, fun i hi => by
     have e := hb.block i hi
     obtain ⟨o, ho⟩ : ∃ o, w.heap[i]? = some o := ⟨_, Array.getElem?_eq_getElem hi⟩
     rw [ho] at e ⊢
     exact hkm.block i o e (by have := X1.out.hm; omega) (.inl (by omega))⟩⟩
end Go.Proofs.YtagkfkdoibnhfaaDoor.K
end
section
namespace Go.Proofs.YtagkfkdoibnhfaaDoor.K
open Go.RowKit Go.Shelf Go.Proofs.YtagkfkdoibnhfaaDoorW.PrintWords Go.Proofs.YtagkfkdoibnhfaaDoorW.PrintLast Go.Proofs.YtagkfkdoibnhfaaDoorW.PrintMore Go.Proofs.YtagkfkdoibnhfaaDoor.H
set_option linter.unusedVariables false
set_option linter.unusedSimpArgs false
set_option maxRecDepth 100000 in
theorem always_calls (T O L : Int) (A : Option Addr) (n c m : Nat) (w : World) :
  Calls Tryd.prog 70 #[.agg #[.int .i64 T, .int .i64 O, .int .i64 L, .slice A n c, .map (some m)]] w fun e w' => e = .returned (.bool true) ∧ Below w.heap.size w w' := by
 have hu78 := Tryd.underlying78
 go_enter Tryd.func70, Tryd.ntmps70
 go_wp2
 go_ret
 exact ⟨rfl, below_alloc (Below.refl _ _) _⟩
set_option maxRecDepth 100000 in
theorem canAt_calls (T O L place : Int) (A : Option Addr) (n c m b : Nat) (w : World) (h : w.heap[b]? = some (.cells #[.int .i64 place] 3 (0, 0))) (hL : 2 ≤ L) (hL' : L ≤ 16) :
  Calls Tryd.prog 69 #[.agg #[.int .i64 T, .int .i64 O, .int .i64 L, .slice A n c, .map (some m)], .pointer (some ⟨b, 0, none⟩)] w fun e w' => e = .returned (.bool (decide (0 ≤ place) && decide (place < L))) ∧ Below w.heap.size w w' := by
 have hu24 := Tryd.underlying24
 have hu78 := Tryd.underlying78
 have z0 : w.cell? ⟨b, 0, none⟩ = some (.int .i64 place) := (blk_cell h 0).trans rfl
 replace z0 := cell_a1 z0 (.cells #[.int .i64 T, .int .i64 O, .int .i64 L, .slice A n c, .map (some m)] 78)
 have HF := zh (in_f place 0 (L - 1))
 have HB := zh (below_alloc (Below.refl w.heap.size w) (.cells #[.int .i64 T, .int .i64 O, .int .i64 L, .slice A n c, .map (some m)] 78))
 go_enter Tryd.func69, Tryd.ntmps69
 go_wp2_with (first | ((go_at_call 55; (with_reducible refine (kernel_in.calls place 0 (L - 1) _ _ HF.out).mono ?_)); rintro e w1 ⟨rfl, hd⟩; have HB1 := zh (HB.out.trans ((drawn_below hd).mono (by simp))); clear hd))
 go_ret
 exact ⟨by rw [show decide (place < L) = decide (place ≤ L - 1) from by rw [decide_eq_decide]; omega]; rfl, HB1.out⟩
def AskedPost (T O L : Int) (A : Option Addr) (R : List S66) (c : Nat) (A1 : Option Addr) (hs : List S60) (c1 : Nat) (right : Bool) (w : World) (e : Ending) (w' : World) : Prop :=
 (askedErr T O L R hs right ≠ 0 → e = .returned (.tuple #[.agg #[.int .i64 0, .int .i64 0, .int .i64 0, .slice none 0 0, .map none, .slice none 0 0], .int .i64 (askedErr T O L R hs right)]) ∧ Below w.heap.size w w') ∧
 (askedErr T O L R hs right = 0 → okScale T O L R = true ∧ okHeard L R hs = true ∧ right = true ∧ canAll T O L R hs = true ∧ ∃ m, e = .returned (.tuple #[.agg #[.int .i64 T, .int .i64 O, .int .i64 L, .slice A R.length c, .map (some m), .slice A1 hs.length c1], .int .i64 0]) ∧ Ctx w w' T A R m)
set_option maxRecDepth 100000 in
set_option maxHeartbeats 4000000 in
theorem asked_always_bad (T O L : Int) (A : Option Addr) (R : List S66) (c : Nat) (A1 : Option Addr) (c1 : Nat) (hs : List S60) (w : World) (hR : Kd.C k66 w A R.length R) (hc : R.length ≤ c) (hl : Kd.C k60 w A1 hs.length hs) (hG : Glob w)
  (x : Int) (hx0 : x ≠ 0) (hb : okScale T O L R = false ∧ x = 60 ∨ okScale T O L R = true ∧ okHeard L R hs = false ∧ x = 61) :
  Calls Tryd.prog 68 #[.agg #[.int .i64 T, .int .i64 O, .int .i64 L, .slice A R.length c], .slice A1 hs.length c1, .func (.func 70) #[] #[]] w fun e w' => e = .returned (.tuple #[.agg #[.int .i64 0, .int .i64 0, .int .i64 0, .slice none 0 0, .map none, .slice none 0 0], .int .i64 x]) ∧ Below w.heap.size w w' := by
 have hu24 := Tryd.underlying24
 have hu78 := Tryd.underlying78
 have hu92 := Tryd.underlying92
 have HB0 := zh (below_alloc (below_alloc (Below.refl w.heap.size w) (.cells #[.int .i64 T, .int .i64 O, .int .i64 L, .slice A R.length c] 24)) (.cells #[.int .i64 0, .int .i64 0, .int .i64 0, .slice none 0 0, .map none, .slice none 0 0] 92))
 have HR := zh (Kd.C_below hR HB0.out)
 have HL := zh (Kd.C_below hl HB0.out)
 have HG := zh (hG.below HB0.out)
 have HL0 := zh hl
 have HR0 := zh hR
 have HG0 := zh hG
 have HBAD := zh hb
 have hx' : (x == 0) = false := beq_eq_false_iff_ne.2 hx0
 have hx'' : (x != 0) = true := bne_iff_ne.2 hx0
 clear hR hl hG hb hx0
 go_enter Tryd.func68, Tryd.ntmps68
 go_wp2_with (first | (go_at_call 62; (with_reducible refine (listened_calls T O L A R c A1 c1 hs _ HR.out hc HL.out HG.out).mono ?_); rintro e w1 hp; obtain ⟨rfl, hb1⟩ := hp.bad HBAD.out; have HBW := zh (HB0.out.trans (hb1.mono (by simp; omega))); have b2 := zh ((hb1.block (w.heap.size + 1) (by simp)).trans (alloc_at _ _ _ (by simp))); clear hp hb1; have q2 := blk_lt b2.out; have x0 := blk_frozen b2.out 0; have x1 := blk_frozen b2.out 1; have x2 := blk_frozen b2.out 2; have x3 := blk_frozen b2.out 3; have x4 := blk_frozen b2.out 4; have x5 := blk_frozen b2.out 5; have y0 := blk_cell b2.out 0; have y1 := blk_cell b2.out 1; have y2 := blk_cell b2.out 2; have y3 := blk_cell b2.out 3; have y4 := blk_cell b2.out 4; have y5 := blk_cell b2.out 5))
 refine bodyPost_ret (v := .tuple #[.agg #[.int .i64 0, .int .i64 0, .int .i64 0, .slice none 0 0, .map none, .slice none 0 0], .int .i64 x]) dQ4 rfl ?_
 exact ⟨rfl, by repeat (first | (with_reducible exact HBW.out) | (with_reducible refine below_alloc ?_ _) | refine below_set ?_ dQ10)⟩
set_option maxRecDepth 100000 in
set_option maxHeartbeats 4000000 in
theorem asked_always_none (T O L : Int) (A : Option Addr) (R : List S66) (c : Nat) (A1 : Option Addr) (c1 : Nat) (hs : List S60) (w : World) (hR : Kd.C k66 w A R.length R) (hc : R.length ≤ c) (hl : Kd.C k60 w A1 hs.length hs) (hG : Glob w)
  (h1 : okScale T O L R = true) (h2 : okHeard L R hs = true) (h3 : canAll T O L R hs = false) :
  Calls Tryd.prog 68 #[.agg #[.int .i64 T, .int .i64 O, .int .i64 L, .slice A R.length c], .slice A1 hs.length c1, .func (.func 70) #[] #[]] w fun e w' => e = .returned (.tuple #[.agg #[.int .i64 0, .int .i64 0, .int .i64 0, .slice none 0 0, .map none, .slice none 0 0], .int .i64 62]) ∧ Below w.heap.size w w' := by
 have hu24 := Tryd.underlying24
 have hu78 := Tryd.underlying78
 have hu92 := Tryd.underlying92
 have HB0 := zh (below_alloc (below_alloc (Below.refl w.heap.size w) (.cells #[.int .i64 T, .int .i64 O, .int .i64 L, .slice A R.length c] 24)) (.cells #[.int .i64 0, .int .i64 0, .int .i64 0, .slice none 0 0, .map none, .slice none 0 0] 92))
 have HR := zh (Kd.C_below hR HB0.out)
 have HL := zh (Kd.C_below hl HB0.out)
 have HG := zh (hG.below HB0.out)
 have HL0 := zh hl
 have HR0 := zh hR
 have HG0 := zh hG
 have HOK := zh h1
 have HOH := zh h2
 obtain ⟨t1, t2, t3, t4, t5, t6, _, _, t9, _⟩ := okScale_regs h1
 have mr := mul_range t1 t2 t3 t4
 obtain ⟨N, hN⟩ : ∃ N : Nat, T * O = (N : Int) := Int.eq_ofNat_of_zero_le (by omega)
 obtain ⟨n, hn⟩ : ∃ n : Nat, L / 2 = (n : Int) := Int.eq_ofNat_of_zero_le (by omega)
 have hN' : N ≤ 100 := by omega
 have HCAN := zh h3
 clear h3 hR hl hG h1 h2 t1 t2 t3 t4 t9
 go_enter Tryd.func68, Tryd.ntmps68
 go_wp2_with (first | (go_at_call 62; (with_reducible refine (listened_calls T O L A R c A1 c1 hs _ HR.out hc HL.out HG.out).mono ?_); rintro e w1 hp; obtain ⟨m, rfl, hx⟩ := hp.good HOK.out HOH.out; have X1 := zh (hx.elder HB0.out HR0.out HG0.out); have b2 := zh ((hx.base.block (w.heap.size + 1) (by simp)).trans (alloc_at _ _ _ (by simp))); have K1 := zh (KB.alloc T R m w1 (.cells #[.int .i64 T, .int .i64 O, .int .i64 L, .slice A R.length c, .map (some m), .slice A1 hs.length c1] 92)); have b8 := zh (alloc_at w1 (.cells #[.int .i64 T, .int .i64 O, .int .i64 L, .slice A R.length c, .map (some m), .slice A1 hs.length c1] 92) w1.heap.size rfl); have hmw := X1.out.memo.lt; have hm2 : w.heap.size + 1 ≠ m := dQ13; clear hp hx) | (go_at_call 70; (with_reducible refine (always_calls T O L A R.length c m _).mono ?_); rintro e w2 ⟨rfl, hb2⟩; have hkb := zh (KB.of_below (T := T) (R := R) (m := m) hb2); have K2 := zh (K1.out.trans hkb.out); have a8 := zh (blk_below b8.out hb2); clear hb2; have c2' := zh (K2.out.at b2.out hm2); have q2 := blk_lt c2'.out; have x0 := blk_frozen c2'.out 0; have x1 := blk_frozen c2'.out 1; have x2 := blk_frozen c2'.out 2; have x3 := blk_frozen c2'.out 3; have x4 := blk_frozen c2'.out 4; have x5 := blk_frozen c2'.out 5; have y0 := blk_cell c2'.out 0; have y1 := blk_cell c2'.out 1; have y2 := blk_cell c2'.out 2; have y3 := blk_cell c2'.out 3; have y4 := blk_cell c2'.out 4; have y5 := blk_cell c2'.out 5; have a10 : w2.cell? ⟨w1.heap.size, 0, none⟩ = some (.int .i64 T) := vb a8 0; have a11 : w2.cell? ⟨w1.heap.size, 1, none⟩ = some (.int .i64 O) := vb a8 1; have a12 : w2.cell? ⟨w1.heap.size, 2, none⟩ = some (.int .i64 L) := vb a8 2; have a13 : w2.cell? ⟨w1.heap.size, 3, none⟩ = some (.slice A R.length c) := vb a8 3; have a14 : w2.cell? ⟨w1.heap.size, 4, none⟩ = some (.map (some m)) := vb a8 4; have a15 : w2.cell? ⟨w1.heap.size, 5, none⟩ = some (.slice A1 hs.length c1) := vb a8 5) | (go_at_call 63; (with_reducible refine (can_calls T O L A R c m A1 c1 hs n N w _ (K2.out.ctx X1.out) HL0.out HOH.out t5 t6 hn hN hN').mono ?_); rintro e w3 ⟨rfl, hk⟩; rw [HCAN.out]; have hk3 := zh hk; have K3 := zh (K2.out.trans hk); clear hk; have c2 := zh (K3.out.at b2.out hm2); have c8 := zh ((hk3.out).at a8.out (by omega)); have q2 := blk_lt c2.out; have x0 := blk_frozen c2.out 0; have x1 := blk_frozen c2.out 1; have x2 := blk_frozen c2.out 2; have x3 := blk_frozen c2.out 3; have x4 := blk_frozen c2.out 4; have x5 := blk_frozen c2.out 5; have y0 := blk_cell c2.out 0; have y1 := blk_cell c2.out 1; have y2 := blk_cell c2.out 2; have y3 := blk_cell c2.out 3; have y4 := blk_cell c2.out 4; have y5 := blk_cell c2.out 5; have v0 : w3.cell? ⟨w1.heap.size, 0, none⟩ = some (.int .i64 T) := vb c8 0; have v1 : w3.cell? ⟨w1.heap.size, 1, none⟩ = some (.int .i64 O) := vb c8 1; have v2 : w3.cell? ⟨w1.heap.size, 2, none⟩ = some (.int .i64 L) := vb c8 2; have v3 : w3.cell? ⟨w1.heap.size, 3, none⟩ = some (.slice A R.length c) := vb c8 3; have v4 : w3.cell? ⟨w1.heap.size, 4, none⟩ = some (.map (some m)) := vb c8 4; have v5 : w3.cell? ⟨w1.heap.size, 5, none⟩ = some (.slice A1 hs.length c1) := vb c8 5))
 refine bodyPost_ret (v := .tuple #[.agg #[.int .i64 0, .int .i64 0, .int .i64 0, .slice none 0 0, .map none, .slice none 0 0], .int .i64 62]) dQ4 rfl ?_
 have hbb := (K3.out.ctx X1.out).base
 exact ⟨rfl, by repeat (first | (with_reducible exact hbb) | (with_reducible refine below_alloc ?_ _) | refine below_set ?_ dQ10)⟩
set_option maxRecDepth 100000 in
set_option maxHeartbeats 4000000 in
theorem asked_always_ok (T O L : Int) (A : Option Addr) (R : List S66) (c : Nat) (A1 : Option Addr) (c1 : Nat) (hs : List S60) (w : World) (hR : Kd.C k66 w A R.length R) (hc : R.length ≤ c) (hl : Kd.C k60 w A1 hs.length hs) (hG : Glob w)
  (h1 : okScale T O L R = true) (h2 : okHeard L R hs = true) (h3 : canAll T O L R hs = true) :
  Calls Tryd.prog 68 #[.agg #[.int .i64 T, .int .i64 O, .int .i64 L, .slice A R.length c], .slice A1 hs.length c1, .func (.func 70) #[] #[]] w fun e w' => ∃ m, e = .returned (.tuple #[.agg #[.int .i64 T, .int .i64 O, .int .i64 L, .slice A R.length c, .map (some m), .slice A1 hs.length c1], .int .i64 0]) ∧ Ctx w w' T A R m := by
 have hu24 := Tryd.underlying24
 have hu78 := Tryd.underlying78
 have hu92 := Tryd.underlying92
 have HB0 := zh (below_alloc (below_alloc (Below.refl w.heap.size w) (.cells #[.int .i64 T, .int .i64 O, .int .i64 L, .slice A R.length c] 24)) (.cells #[.int .i64 0, .int .i64 0, .int .i64 0, .slice none 0 0, .map none, .slice none 0 0] 92))
 have HR := zh (Kd.C_below hR HB0.out)
 have HL := zh (Kd.C_below hl HB0.out)
 have HG := zh (hG.below HB0.out)
 have HL0 := zh hl
 have HR0 := zh hR
 have HG0 := zh hG
 have HOK := zh h1
 have HOH := zh h2
 obtain ⟨t1, t2, t3, t4, t5, t6, _, _, t9, _⟩ := okScale_regs h1
 have mr := mul_range t1 t2 t3 t4
 obtain ⟨N, hN⟩ : ∃ N : Nat, T * O = (N : Int) := Int.eq_ofNat_of_zero_le (by omega)
 obtain ⟨n, hn⟩ : ∃ n : Nat, L / 2 = (n : Int) := Int.eq_ofNat_of_zero_le (by omega)
 have hN' : N ≤ 100 := by omega
 have HCAN := zh h3
 clear h3 hR hl hG h1 h2 t1 t2 t3 t4 t9
 go_enter Tryd.func68, Tryd.ntmps68
 go_wp2_with (first | (go_at_call 62; (with_reducible refine (listened_calls T O L A R c A1 c1 hs _ HR.out hc HL.out HG.out).mono ?_); rintro e w1 hp; obtain ⟨m, rfl, hx⟩ := hp.good HOK.out HOH.out; have X1 := zh (hx.elder HB0.out HR0.out HG0.out); have b2 := zh ((hx.base.block (w.heap.size + 1) (by simp)).trans (alloc_at _ _ _ (by simp))); have K1 := zh (KB.alloc T R m w1 (.cells #[.int .i64 T, .int .i64 O, .int .i64 L, .slice A R.length c, .map (some m), .slice A1 hs.length c1] 92)); have b8 := zh (alloc_at w1 (.cells #[.int .i64 T, .int .i64 O, .int .i64 L, .slice A R.length c, .map (some m), .slice A1 hs.length c1] 92) w1.heap.size rfl); have hmw := X1.out.memo.lt; have hm2 : w.heap.size + 1 ≠ m := dQ13; clear hp hx) | (go_at_call 70; (with_reducible refine (always_calls T O L A R.length c m _).mono ?_); rintro e w2 ⟨rfl, hb2⟩; have hkb := zh (KB.of_below (T := T) (R := R) (m := m) hb2); have K2 := zh (K1.out.trans hkb.out); have a8 := zh (blk_below b8.out hb2); clear hb2; have c2' := zh (K2.out.at b2.out hm2); have q2 := blk_lt c2'.out; have x0 := blk_frozen c2'.out 0; have x1 := blk_frozen c2'.out 1; have x2 := blk_frozen c2'.out 2; have x3 := blk_frozen c2'.out 3; have x4 := blk_frozen c2'.out 4; have x5 := blk_frozen c2'.out 5; have y0 := blk_cell c2'.out 0; have y1 := blk_cell c2'.out 1; have y2 := blk_cell c2'.out 2; have y3 := blk_cell c2'.out 3; have y4 := blk_cell c2'.out 4; have y5 := blk_cell c2'.out 5; have a10 : w2.cell? ⟨w1.heap.size, 0, none⟩ = some (.int .i64 T) := vb a8 0; have a11 : w2.cell? ⟨w1.heap.size, 1, none⟩ = some (.int .i64 O) := vb a8 1; have a12 : w2.cell? ⟨w1.heap.size, 2, none⟩ = some (.int .i64 L) := vb a8 2; have a13 : w2.cell? ⟨w1.heap.size, 3, none⟩ = some (.slice A R.length c) := vb a8 3; have a14 : w2.cell? ⟨w1.heap.size, 4, none⟩ = some (.map (some m)) := vb a8 4; have a15 : w2.cell? ⟨w1.heap.size, 5, none⟩ = some (.slice A1 hs.length c1) := vb a8 5) | (go_at_call 63; (with_reducible refine (can_calls T O L A R c m A1 c1 hs n N w _ (K2.out.ctx X1.out) HL0.out HOH.out t5 t6 hn hN hN').mono ?_); rintro e w3 ⟨rfl, hk⟩; rw [HCAN.out]; have hk3 := zh hk; have K3 := zh (K2.out.trans hk); clear hk; have c2 := zh (K3.out.at b2.out hm2); have c8 := zh ((hk3.out).at a8.out (by omega)); have q2 := blk_lt c2.out; have x0 := blk_frozen c2.out 0; have x1 := blk_frozen c2.out 1; have x2 := blk_frozen c2.out 2; have x3 := blk_frozen c2.out 3; have x4 := blk_frozen c2.out 4; have x5 := blk_frozen c2.out 5; have y0 := blk_cell c2.out 0; have y1 := blk_cell c2.out 1; have y2 := blk_cell c2.out 2; have y3 := blk_cell c2.out 3; have y4 := blk_cell c2.out 4; have y5 := blk_cell c2.out 5; have v0 : w3.cell? ⟨w1.heap.size, 0, none⟩ = some (.int .i64 T) := vb c8 0; have v1 : w3.cell? ⟨w1.heap.size, 1, none⟩ = some (.int .i64 O) := vb c8 1; have v2 : w3.cell? ⟨w1.heap.size, 2, none⟩ = some (.int .i64 L) := vb c8 2; have v3 : w3.cell? ⟨w1.heap.size, 3, none⟩ = some (.slice A R.length c) := vb c8 3; have v4 : w3.cell? ⟨w1.heap.size, 4, none⟩ = some (.map (some m)) := vb c8 4; have v5 : w3.cell? ⟨w1.heap.size, 5, none⟩ = some (.slice A1 hs.length c1) := vb c8 5))
 refine bodyPost_ret (v := .tuple #[.agg #[.int .i64 T, .int .i64 O, .int .i64 L, .slice A R.length c, .map (some m), .slice A1 hs.length c1], .int .i64 0]) dQ4 rfl ?_
 have hbb := (K3.out.ctx X1.out).base
 have hmm := (K3.out.ctx X1.out).memo
 exact ⟨m, rfl, X1.out.of_below (by repeat (first | (with_reducible exact hbb) | (with_reducible refine below_alloc ?_ _) | refine below_set ?_ dQ10)) (by repeat (first | (with_reducible exact hmm) | (with_reducible refine Memo.alloc ?_ _) | refine Memo.move_set ?_ (by show m ≠ w.heap.size + 1; omega)))⟩
set_option maxRecDepth 100000 in
set_option maxHeartbeats 4000000 in
theorem asked_at_bad (T O L : Int) (A : Option Addr) (R : List S66) (c : Nat) (A1 : Option Addr) (c1 : Nat) (hs : List S60) (w : World) (place : Int) (pb : Nat) (hpb : w.heap[pb]? = some (.cells #[.int .i64 place] 3 (0, 0))) (hR : Kd.C k66 w A R.length R) (hc : R.length ≤ c) (hl : Kd.C k60 w A1 hs.length hs) (hG : Glob w)
  (x : Int) (hx0 : x ≠ 0) (hb : okScale T O L R = false ∧ x = 60 ∨ okScale T O L R = true ∧ okHeard L R hs = false ∧ x = 61) :
  Calls Tryd.prog 68 #[.agg #[.int .i64 T, .int .i64 O, .int .i64 L, .slice A R.length c], .slice A1 hs.length c1, .func (.func 69) #[] #[.pointer (some ⟨pb, 0, none⟩)]] w fun e w' => e = .returned (.tuple #[.agg #[.int .i64 0, .int .i64 0, .int .i64 0, .slice none 0 0, .map none, .slice none 0 0], .int .i64 x]) ∧ Below w.heap.size w w' := by
 have hu24 := Tryd.underlying24
 have hu78 := Tryd.underlying78
 have hu92 := Tryd.underlying92
 have HB0 := zh (below_alloc (below_alloc (Below.refl w.heap.size w) (.cells #[.int .i64 T, .int .i64 O, .int .i64 L, .slice A R.length c] 24)) (.cells #[.int .i64 0, .int .i64 0, .int .i64 0, .slice none 0 0, .map none, .slice none 0 0] 92))
 have HR := zh (Kd.C_below hR HB0.out)
 have HL := zh (Kd.C_below hl HB0.out)
 have HG := zh (hG.below HB0.out)
 have HL0 := zh hl
 have HR0 := zh hR
 have HG0 := zh hG
 have HBAD := zh hb
 have hx' : (x == 0) = false := beq_eq_false_iff_ne.2 hx0
 have hx'' : (x != 0) = true := bne_iff_ne.2 hx0
 clear hR hl hG hb hx0
 go_enter Tryd.func68, Tryd.ntmps68
 go_wp2_with (first | (go_at_call 62; (with_reducible refine (listened_calls T O L A R c A1 c1 hs _ HR.out hc HL.out HG.out).mono ?_); rintro e w1 hp; obtain ⟨rfl, hb1⟩ := hp.bad HBAD.out; have HBW := zh (HB0.out.trans (hb1.mono (by simp; omega))); have b2 := zh ((hb1.block (w.heap.size + 1) (by simp)).trans (alloc_at _ _ _ (by simp))); clear hp hb1; have q2 := blk_lt b2.out; have x0 := blk_frozen b2.out 0; have x1 := blk_frozen b2.out 1; have x2 := blk_frozen b2.out 2; have x3 := blk_frozen b2.out 3; have x4 := blk_frozen b2.out 4; have x5 := blk_frozen b2.out 5; have y0 := blk_cell b2.out 0; have y1 := blk_cell b2.out 1; have y2 := blk_cell b2.out 2; have y3 := blk_cell b2.out 3; have y4 := blk_cell b2.out 4; have y5 := blk_cell b2.out 5))
 refine bodyPost_ret (v := .tuple #[.agg #[.int .i64 0, .int .i64 0, .int .i64 0, .slice none 0 0, .map none, .slice none 0 0], .int .i64 x]) dQ4 rfl ?_
 exact ⟨rfl, by repeat (first | (with_reducible exact HBW.out) | (with_reducible refine below_alloc ?_ _) | refine below_set ?_ dQ10)⟩
set_option maxRecDepth 100000 in
set_option maxHeartbeats 4000000 in
theorem asked_at_wrong (T O L : Int) (A : Option Addr) (R : List S66) (c : Nat) (A1 : Option Addr) (c1 : Nat) (hs : List S60) (w : World) (place : Int) (pb : Nat) (hpb : w.heap[pb]? = some (.cells #[.int .i64 place] 3 (0, 0))) (hR : Kd.C k66 w A R.length R) (hc : R.length ≤ c) (hl : Kd.C k60 w A1 hs.length hs) (hG : Glob w)
  (h1 : okScale T O L R = true) (h2 : okHeard L R hs = true) (hrt : (decide (0 ≤ place) && decide (place < L)) = false) :
  Calls Tryd.prog 68 #[.agg #[.int .i64 T, .int .i64 O, .int .i64 L, .slice A R.length c], .slice A1 hs.length c1, .func (.func 69) #[] #[.pointer (some ⟨pb, 0, none⟩)]] w fun e w' => e = .returned (.tuple #[.agg #[.int .i64 0, .int .i64 0, .int .i64 0, .slice none 0 0, .map none, .slice none 0 0], .int .i64 61]) ∧ Below w.heap.size w w' := by
 have hu24 := Tryd.underlying24
 have hu78 := Tryd.underlying78
 have hu92 := Tryd.underlying92
 have HB0 := zh (below_alloc (below_alloc (Below.refl w.heap.size w) (.cells #[.int .i64 T, .int .i64 O, .int .i64 L, .slice A R.length c] 24)) (.cells #[.int .i64 0, .int .i64 0, .int .i64 0, .slice none 0 0, .map none, .slice none 0 0] 92))
 have HR := zh (Kd.C_below hR HB0.out)
 have HL := zh (Kd.C_below hl HB0.out)
 have HG := zh (hG.below HB0.out)
 have HL0 := zh hl
 have HR0 := zh hR
 have HG0 := zh hG
 have HOK := zh h1
 have HOH := zh h2
 obtain ⟨t1, t2, t3, t4, t5, t6, _, _, t9, _⟩ := okScale_regs h1
 have mr := mul_range t1 t2 t3 t4
 obtain ⟨N, hN⟩ : ∃ N : Nat, T * O = (N : Int) := Int.eq_ofNat_of_zero_le (by omega)
 obtain ⟨n, hn⟩ : ∃ n : Nat, L / 2 = (n : Int) := Int.eq_ofNat_of_zero_le (by omega)
 have hN' : N ≤ 100 := by omega
 have HRT := zh hrt
 clear hrt hR hl hG h1 h2 t1 t2 t3 t4 t9
 go_enter Tryd.func68, Tryd.ntmps68
 go_wp2_with (first | (go_at_call 62; (with_reducible refine (listened_calls T O L A R c A1 c1 hs _ HR.out hc HL.out HG.out).mono ?_); rintro e w1 hp; obtain ⟨m, rfl, hx⟩ := hp.good HOK.out HOH.out; have X1 := zh (hx.elder HB0.out HR0.out HG0.out); have b2 := zh ((hx.base.block (w.heap.size + 1) (by simp)).trans (alloc_at _ _ _ (by simp))); have K1 := zh (KB.alloc T R m w1 (.cells #[.int .i64 T, .int .i64 O, .int .i64 L, .slice A R.length c, .map (some m), .slice A1 hs.length c1] 92)); have b8 := zh (alloc_at w1 (.cells #[.int .i64 T, .int .i64 O, .int .i64 L, .slice A R.length c, .map (some m), .slice A1 hs.length c1] 92) w1.heap.size rfl); have hmw := X1.out.memo.lt; have hm2 : w.heap.size + 1 ≠ m := dQ13; clear hp hx; have bp8 := zh (blk_alloc ((X1.out.base.block _ (blk_lt hpb)).trans hpb) (.cells #[.int .i64 T, .int .i64 O, .int .i64 L, .slice A R.length c, .map (some m), .slice A1 hs.length c1] 92))) | (go_at_call 69; (with_reducible refine (canAt_calls T O L place A R.length c m pb _ bp8.out t5 t6).mono ?_); rintro e w2 ⟨rfl, hb2⟩; rw [HRT.out]; have hkb := zh (KB.of_below (T := T) (R := R) (m := m) hb2); have K2 := zh (K1.out.trans hkb.out); have a8 := zh (blk_below b8.out hb2); clear hb2; have c2' := zh (K2.out.at b2.out hm2); have q2 := blk_lt c2'.out; have x0 := blk_frozen c2'.out 0; have x1 := blk_frozen c2'.out 1; have x2 := blk_frozen c2'.out 2; have x3 := blk_frozen c2'.out 3; have x4 := blk_frozen c2'.out 4; have x5 := blk_frozen c2'.out 5; have y0 := blk_cell c2'.out 0; have y1 := blk_cell c2'.out 1; have y2 := blk_cell c2'.out 2; have y3 := blk_cell c2'.out 3; have y4 := blk_cell c2'.out 4; have y5 := blk_cell c2'.out 5; have a10 : w2.cell? ⟨w1.heap.size, 0, none⟩ = some (.int .i64 T) := vb a8 0; have a11 : w2.cell? ⟨w1.heap.size, 1, none⟩ = some (.int .i64 O) := vb a8 1; have a12 : w2.cell? ⟨w1.heap.size, 2, none⟩ = some (.int .i64 L) := vb a8 2; have a13 : w2.cell? ⟨w1.heap.size, 3, none⟩ = some (.slice A R.length c) := vb a8 3; have a14 : w2.cell? ⟨w1.heap.size, 4, none⟩ = some (.map (some m)) := vb a8 4; have a15 : w2.cell? ⟨w1.heap.size, 5, none⟩ = some (.slice A1 hs.length c1) := vb a8 5))
 refine bodyPost_ret (v := .tuple #[.agg #[.int .i64 0, .int .i64 0, .int .i64 0, .slice none 0 0, .map none, .slice none 0 0], .int .i64 61]) dQ4 rfl ?_
 have hbb := (K2.out.ctx X1.out).base
 exact ⟨rfl, by repeat (first | (with_reducible exact hbb) | (with_reducible refine below_alloc ?_ _) | refine below_set ?_ dQ10)⟩
set_option maxRecDepth 100000 in
set_option maxHeartbeats 4000000 in
theorem asked_at_none (T O L : Int) (A : Option Addr) (R : List S66) (c : Nat) (A1 : Option Addr) (c1 : Nat) (hs : List S60) (w : World) (place : Int) (pb : Nat) (hpb : w.heap[pb]? = some (.cells #[.int .i64 place] 3 (0, 0))) (hR : Kd.C k66 w A R.length R) (hc : R.length ≤ c) (hl : Kd.C k60 w A1 hs.length hs) (hG : Glob w)
  (h1 : okScale T O L R = true) (h2 : okHeard L R hs = true) (hrt : (decide (0 ≤ place) && decide (place < L)) = true) (h3 : canAll T O L R hs = false) :
  Calls Tryd.prog 68 #[.agg #[.int .i64 T, .int .i64 O, .int .i64 L, .slice A R.length c], .slice A1 hs.length c1, .func (.func 69) #[] #[.pointer (some ⟨pb, 0, none⟩)]] w fun e w' => e = .returned (.tuple #[.agg #[.int .i64 0, .int .i64 0, .int .i64 0, .slice none 0 0, .map none, .slice none 0 0], .int .i64 62]) ∧ Below w.heap.size w w' := by
 have hu24 := Tryd.underlying24
 have hu78 := Tryd.underlying78
 have hu92 := Tryd.underlying92
 have HB0 := zh (below_alloc (below_alloc (Below.refl w.heap.size w) (.cells #[.int .i64 T, .int .i64 O, .int .i64 L, .slice A R.length c] 24)) (.cells #[.int .i64 0, .int .i64 0, .int .i64 0, .slice none 0 0, .map none, .slice none 0 0] 92))
 have HR := zh (Kd.C_below hR HB0.out)
 have HL := zh (Kd.C_below hl HB0.out)
 have HG := zh (hG.below HB0.out)
 have HL0 := zh hl
 have HR0 := zh hR
 have HG0 := zh hG
 have HOK := zh h1
 have HOH := zh h2
 obtain ⟨t1, t2, t3, t4, t5, t6, _, _, t9, _⟩ := okScale_regs h1
 have mr := mul_range t1 t2 t3 t4
 obtain ⟨N, hN⟩ : ∃ N : Nat, T * O = (N : Int) := Int.eq_ofNat_of_zero_le (by omega)
 obtain ⟨n, hn⟩ : ∃ n : Nat, L / 2 = (n : Int) := Int.eq_ofNat_of_zero_le (by omega)
 have hN' : N ≤ 100 := by omega
 have HCAN := zh h3
 clear h3
 have HRT := zh hrt
 clear hrt hR hl hG h1 h2 t1 t2 t3 t4 t9
 go_enter Tryd.func68, Tryd.ntmps68
 go_wp2_with (first | (go_at_call 62; (with_reducible refine (listened_calls T O L A R c A1 c1 hs _ HR.out hc HL.out HG.out).mono ?_); rintro e w1 hp; obtain ⟨m, rfl, hx⟩ := hp.good HOK.out HOH.out; have X1 := zh (hx.elder HB0.out HR0.out HG0.out); have b2 := zh ((hx.base.block (w.heap.size + 1) (by simp)).trans (alloc_at _ _ _ (by simp))); have K1 := zh (KB.alloc T R m w1 (.cells #[.int .i64 T, .int .i64 O, .int .i64 L, .slice A R.length c, .map (some m), .slice A1 hs.length c1] 92)); have b8 := zh (alloc_at w1 (.cells #[.int .i64 T, .int .i64 O, .int .i64 L, .slice A R.length c, .map (some m), .slice A1 hs.length c1] 92) w1.heap.size rfl); have hmw := X1.out.memo.lt; have hm2 : w.heap.size + 1 ≠ m := dQ13; clear hp hx; have bp8 := zh (blk_alloc ((X1.out.base.block _ (blk_lt hpb)).trans hpb) (.cells #[.int .i64 T, .int .i64 O, .int .i64 L, .slice A R.length c, .map (some m), .slice A1 hs.length c1] 92))) | (go_at_call 69; (with_reducible refine (canAt_calls T O L place A R.length c m pb _ bp8.out t5 t6).mono ?_); rintro e w2 ⟨rfl, hb2⟩; rw [HRT.out]; have hkb := zh (KB.of_below (T := T) (R := R) (m := m) hb2); have K2 := zh (K1.out.trans hkb.out); have a8 := zh (blk_below b8.out hb2); clear hb2; have c2' := zh (K2.out.at b2.out hm2); have q2 := blk_lt c2'.out; have x0 := blk_frozen c2'.out 0; have x1 := blk_frozen c2'.out 1; have x2 := blk_frozen c2'.out 2; have x3 := blk_frozen c2'.out 3; have x4 := blk_frozen c2'.out 4; have x5 := blk_frozen c2'.out 5; have y0 := blk_cell c2'.out 0; have y1 := blk_cell c2'.out 1; have y2 := blk_cell c2'.out 2; have y3 := blk_cell c2'.out 3; have y4 := blk_cell c2'.out 4; have y5 := blk_cell c2'.out 5; have a10 : w2.cell? ⟨w1.heap.size, 0, none⟩ = some (.int .i64 T) := vb a8 0; have a11 : w2.cell? ⟨w1.heap.size, 1, none⟩ = some (.int .i64 O) := vb a8 1; have a12 : w2.cell? ⟨w1.heap.size, 2, none⟩ = some (.int .i64 L) := vb a8 2; have a13 : w2.cell? ⟨w1.heap.size, 3, none⟩ = some (.slice A R.length c) := vb a8 3; have a14 : w2.cell? ⟨w1.heap.size, 4, none⟩ = some (.map (some m)) := vb a8 4; have a15 : w2.cell? ⟨w1.heap.size, 5, none⟩ = some (.slice A1 hs.length c1) := vb a8 5) | (go_at_call 63; (with_reducible refine (can_calls T O L A R c m A1 c1 hs n N w _ (K2.out.ctx X1.out) HL0.out HOH.out t5 t6 hn hN hN').mono ?_); rintro e w3 ⟨rfl, hk⟩; rw [HCAN.out]; have hk3 := zh hk; have K3 := zh (K2.out.trans hk); clear hk; have c2 := zh (K3.out.at b2.out hm2); have c8 := zh ((hk3.out).at a8.out (by omega)); have q2 := blk_lt c2.out; have x0 := blk_frozen c2.out 0; have x1 := blk_frozen c2.out 1; have x2 := blk_frozen c2.out 2; have x3 := blk_frozen c2.out 3; have x4 := blk_frozen c2.out 4; have x5 := blk_frozen c2.out 5; have y0 := blk_cell c2.out 0; have y1 := blk_cell c2.out 1; have y2 := blk_cell c2.out 2; have y3 := blk_cell c2.out 3; have y4 := blk_cell c2.out 4; have y5 := blk_cell c2.out 5; have v0 : w3.cell? ⟨w1.heap.size, 0, none⟩ = some (.int .i64 T) := vb c8 0; have v1 : w3.cell? ⟨w1.heap.size, 1, none⟩ = some (.int .i64 O) := vb c8 1; have v2 : w3.cell? ⟨w1.heap.size, 2, none⟩ = some (.int .i64 L) := vb c8 2; have v3 : w3.cell? ⟨w1.heap.size, 3, none⟩ = some (.slice A R.length c) := vb c8 3; have v4 : w3.cell? ⟨w1.heap.size, 4, none⟩ = some (.map (some m)) := vb c8 4; have v5 : w3.cell? ⟨w1.heap.size, 5, none⟩ = some (.slice A1 hs.length c1) := vb c8 5))
 refine bodyPost_ret (v := .tuple #[.agg #[.int .i64 0, .int .i64 0, .int .i64 0, .slice none 0 0, .map none, .slice none 0 0], .int .i64 62]) dQ4 rfl ?_
 have hbb := (K3.out.ctx X1.out).base
 exact ⟨rfl, by repeat (first | (with_reducible exact hbb) | (with_reducible refine below_alloc ?_ _) | refine below_set ?_ dQ10)⟩
set_option maxRecDepth 100000 in
set_option maxHeartbeats 4000000 in
theorem asked_at_ok (T O L : Int) (A : Option Addr) (R : List S66) (c : Nat) (A1 : Option Addr) (c1 : Nat) (hs : List S60) (w : World) (place : Int) (pb : Nat) (hpb : w.heap[pb]? = some (.cells #[.int .i64 place] 3 (0, 0))) (hR : Kd.C k66 w A R.length R) (hc : R.length ≤ c) (hl : Kd.C k60 w A1 hs.length hs) (hG : Glob w)
  (h1 : okScale T O L R = true) (h2 : okHeard L R hs = true) (hrt : (decide (0 ≤ place) && decide (place < L)) = true) (h3 : canAll T O L R hs = true) :
  Calls Tryd.prog 68 #[.agg #[.int .i64 T, .int .i64 O, .int .i64 L, .slice A R.length c], .slice A1 hs.length c1, .func (.func 69) #[] #[.pointer (some ⟨pb, 0, none⟩)]] w fun e w' => ∃ m, e = .returned (.tuple #[.agg #[.int .i64 T, .int .i64 O, .int .i64 L, .slice A R.length c, .map (some m), .slice A1 hs.length c1], .int .i64 0]) ∧ Ctx w w' T A R m := by
 have hu24 := Tryd.underlying24
 have hu78 := Tryd.underlying78
 have hu92 := Tryd.underlying92
 have HB0 := zh (below_alloc (below_alloc (Below.refl w.heap.size w) (.cells #[.int .i64 T, .int .i64 O, .int .i64 L, .slice A R.length c] 24)) (.cells #[.int .i64 0, .int .i64 0, .int .i64 0, .slice none 0 0, .map none, .slice none 0 0] 92))
 have HR := zh (Kd.C_below hR HB0.out)
 have HL := zh (Kd.C_below hl HB0.out)
 have HG := zh (hG.below HB0.out)
 have HL0 := zh hl
 have HR0 := zh hR
 have HG0 := zh hG
 have HOK := zh h1
 have HOH := zh h2
 obtain ⟨t1, t2, t3, t4, t5, t6, _, _, t9, _⟩ := okScale_regs h1
 have mr := mul_range t1 t2 t3 t4
 obtain ⟨N, hN⟩ : ∃ N : Nat, T * O = (N : Int) := Int.eq_ofNat_of_zero_le (by omega)
 obtain ⟨n, hn⟩ : ∃ n : Nat, L / 2 = (n : Int) := Int.eq_ofNat_of_zero_le (by omega)
 have hN' : N ≤ 100 := by omega
 have HCAN := zh h3
 clear h3
 have HRT := zh hrt
 clear hrt hR hl hG h1 h2 t1 t2 t3 t4 t9
 go_enter Tryd.func68, Tryd.ntmps68
 go_wp2_with (first | (go_at_call 62; (with_reducible refine (listened_calls T O L A R c A1 c1 hs _ HR.out hc HL.out HG.out).mono ?_); rintro e w1 hp; obtain ⟨m, rfl, hx⟩ := hp.good HOK.out HOH.out; have X1 := zh (hx.elder HB0.out HR0.out HG0.out); have b2 := zh ((hx.base.block (w.heap.size + 1) (by simp)).trans (alloc_at _ _ _ (by simp))); have K1 := zh (KB.alloc T R m w1 (.cells #[.int .i64 T, .int .i64 O, .int .i64 L, .slice A R.length c, .map (some m), .slice A1 hs.length c1] 92)); have b8 := zh (alloc_at w1 (.cells #[.int .i64 T, .int .i64 O, .int .i64 L, .slice A R.length c, .map (some m), .slice A1 hs.length c1] 92) w1.heap.size rfl); have hmw := X1.out.memo.lt; have hm2 : w.heap.size + 1 ≠ m := dQ13; clear hp hx; have bp8 := zh (blk_alloc ((X1.out.base.block _ (blk_lt hpb)).trans hpb) (.cells #[.int .i64 T, .int .i64 O, .int .i64 L, .slice A R.length c, .map (some m), .slice A1 hs.length c1] 92))) | (go_at_call 69; (with_reducible refine (canAt_calls T O L place A R.length c m pb _ bp8.out t5 t6).mono ?_); rintro e w2 ⟨rfl, hb2⟩; rw [HRT.out]; have hkb := zh (KB.of_below (T := T) (R := R) (m := m) hb2); have K2 := zh (K1.out.trans hkb.out); have a8 := zh (blk_below b8.out hb2); clear hb2; have c2' := zh (K2.out.at b2.out hm2); have q2 := blk_lt c2'.out; have x0 := blk_frozen c2'.out 0; have x1 := blk_frozen c2'.out 1; have x2 := blk_frozen c2'.out 2; have x3 := blk_frozen c2'.out 3; have x4 := blk_frozen c2'.out 4; have x5 := blk_frozen c2'.out 5; have y0 := blk_cell c2'.out 0; have y1 := blk_cell c2'.out 1; have y2 := blk_cell c2'.out 2; have y3 := blk_cell c2'.out 3; have y4 := blk_cell c2'.out 4; have y5 := blk_cell c2'.out 5; have a10 : w2.cell? ⟨w1.heap.size, 0, none⟩ = some (.int .i64 T) := vb a8 0; have a11 : w2.cell? ⟨w1.heap.size, 1, none⟩ = some (.int .i64 O) := vb a8 1; have a12 : w2.cell? ⟨w1.heap.size, 2, none⟩ = some (.int .i64 L) := vb a8 2; have a13 : w2.cell? ⟨w1.heap.size, 3, none⟩ = some (.slice A R.length c) := vb a8 3; have a14 : w2.cell? ⟨w1.heap.size, 4, none⟩ = some (.map (some m)) := vb a8 4; have a15 : w2.cell? ⟨w1.heap.size, 5, none⟩ = some (.slice A1 hs.length c1) := vb a8 5) | (go_at_call 63; (with_reducible refine (can_calls T O L A R c m A1 c1 hs n N w _ (K2.out.ctx X1.out) HL0.out HOH.out t5 t6 hn hN hN').mono ?_); rintro e w3 ⟨rfl, hk⟩; rw [HCAN.out]; have hk3 := zh hk; have K3 := zh (K2.out.trans hk); clear hk; have c2 := zh (K3.out.at b2.out hm2); have c8 := zh ((hk3.out).at a8.out (by omega)); have q2 := blk_lt c2.out; have x0 := blk_frozen c2.out 0; have x1 := blk_frozen c2.out 1; have x2 := blk_frozen c2.out 2; have x3 := blk_frozen c2.out 3; have x4 := blk_frozen c2.out 4; have x5 := blk_frozen c2.out 5; have y0 := blk_cell c2.out 0; have y1 := blk_cell c2.out 1; have y2 := blk_cell c2.out 2; have y3 := blk_cell c2.out 3; have y4 := blk_cell c2.out 4; have y5 := blk_cell c2.out 5; have v0 : w3.cell? ⟨w1.heap.size, 0, none⟩ = some (.int .i64 T) := vb c8 0; have v1 : w3.cell? ⟨w1.heap.size, 1, none⟩ = some (.int .i64 O) := vb c8 1; have v2 : w3.cell? ⟨w1.heap.size, 2, none⟩ = some (.int .i64 L) := vb c8 2; have v3 : w3.cell? ⟨w1.heap.size, 3, none⟩ = some (.slice A R.length c) := vb c8 3; have v4 : w3.cell? ⟨w1.heap.size, 4, none⟩ = some (.map (some m)) := vb c8 4; have v5 : w3.cell? ⟨w1.heap.size, 5, none⟩ = some (.slice A1 hs.length c1) := vb c8 5))
 refine bodyPost_ret (v := .tuple #[.agg #[.int .i64 T, .int .i64 O, .int .i64 L, .slice A R.length c, .map (some m), .slice A1 hs.length c1], .int .i64 0]) dQ4 rfl ?_
 have hbb := (K3.out.ctx X1.out).base
 have hmm := (K3.out.ctx X1.out).memo
 exact ⟨m, rfl, X1.out.of_below (by repeat (first | (with_reducible exact hbb) | (with_reducible refine below_alloc ?_ _) | refine below_set ?_ dQ10)) (by repeat (first | (with_reducible exact hmm) | (with_reducible refine Memo.alloc ?_ _) | refine Memo.move_set ?_ (by show m ≠ w.heap.size + 1; omega)))⟩
theorem asked_always_calls (T O L : Int) (A : Option Addr) (R : List S66) (c : Nat) (A1 : Option Addr) (c1 : Nat) (hs : List S60) (w : World) (hR : Kd.C k66 w A R.length R) (hc : R.length ≤ c) (hl : Kd.C k60 w A1 hs.length hs) (hG : Glob w) :
  Calls Tryd.prog 68 #[.agg #[.int .i64 T, .int .i64 O, .int .i64 L, .slice A R.length c], .slice A1 hs.length c1, .func (.func 70) #[] #[]] w (AskedPost T O L A R c A1 hs c1 true w) := by
 cases h1 : okScale T O L R with
 | false =>
  have e : askedErr T O L R hs true = 60 := by simp [askedErr, h1]
  refine (asked_always_bad T O L A R c A1 c1 hs w hR hc hl hG 60 (by omega) (.inl ⟨h1, rfl⟩)).mono ?_
  rintro e' w' ⟨rfl, hb⟩
  exact ⟨fun _ => ⟨by rw [e], hb⟩, fun h => by rw [e] at h; exact absurd h (by omega)⟩
 | true =>
  cases h2 : okHeard L R hs with
  | false =>
   have e : askedErr T O L R hs true = 61 := by simp [askedErr, h1, h2]
   refine (asked_always_bad T O L A R c A1 c1 hs w hR hc hl hG 61 (by omega) (.inr ⟨h1, h2, rfl⟩)).mono ?_
   rintro e' w' ⟨rfl, hb⟩
   exact ⟨fun _ => ⟨by rw [e], hb⟩, fun h => by rw [e] at h; exact absurd h (by omega)⟩
  | true =>
   cases h3 : canAll T O L R hs with
   | false =>
    have e : askedErr T O L R hs true = 62 := by simp [askedErr, h1, h2, h3]
    refine (asked_always_none T O L A R c A1 c1 hs w hR hc hl hG h1 h2 h3).mono ?_
    rintro e' w' ⟨rfl, hb⟩
    exact ⟨fun _ => ⟨by rw [e], hb⟩, fun h => by rw [e] at h; exact absurd h (by omega)⟩
   | true =>
    have e : askedErr T O L R hs true = 0 := by simp [askedErr, h1, h2, h3]
    refine (asked_always_ok T O L A R c A1 c1 hs w hR hc hl hG h1 h2 h3).mono ?_
    rintro e' w' ⟨m, rfl, hx⟩
    exact ⟨fun h => absurd e h, fun _ => ⟨h1, h2, rfl, h3, m, rfl, hx⟩⟩
theorem asked_at_calls (T O L : Int) (A : Option Addr) (R : List S66) (c : Nat) (A1 : Option Addr) (c1 : Nat) (hs : List S60) (w : World) (place : Int) (pb : Nat) (hpb : w.heap[pb]? = some (.cells #[.int .i64 place] 3 (0, 0))) (hR : Kd.C k66 w A R.length R) (hc : R.length ≤ c) (hl : Kd.C k60 w A1 hs.length hs) (hG : Glob w) :
  Calls Tryd.prog 68 #[.agg #[.int .i64 T, .int .i64 O, .int .i64 L, .slice A R.length c], .slice A1 hs.length c1, .func (.func 69) #[] #[.pointer (some ⟨pb, 0, none⟩)]] w (AskedPost T O L A R c A1 hs c1 (decide (0 ≤ place) && decide (place < L)) w) := by
 cases h1 : okScale T O L R with
 | false =>
  have e : askedErr T O L R hs (decide (0 ≤ place) && decide (place < L)) = 60 := by simp [askedErr, h1]
  refine (asked_at_bad T O L A R c A1 c1 hs w place pb hpb hR hc hl hG 60 (by omega) (.inl ⟨h1, rfl⟩)).mono ?_
  rintro e' w' ⟨rfl, hb⟩
  exact ⟨fun _ => ⟨by rw [e], hb⟩, fun h => by rw [e] at h; exact absurd h (by omega)⟩
 | true =>
  cases h2 : okHeard L R hs with
  | false =>
   have e : askedErr T O L R hs (decide (0 ≤ place) && decide (place < L)) = 61 := by simp [askedErr, h1, h2]
   refine (asked_at_bad T O L A R c A1 c1 hs w place pb hpb hR hc hl hG 61 (by omega) (.inr ⟨h1, h2, rfl⟩)).mono ?_
   rintro e' w' ⟨rfl, hb⟩
   exact ⟨fun _ => ⟨by rw [e], hb⟩, fun h => by rw [e] at h; exact absurd h (by omega)⟩
  | true =>
   cases hrt : (decide (0 ≤ place) && decide (place < L)) with
   | false =>
    have e : askedErr T O L R hs false = 61 := by simp [askedErr, h1, h2]
    refine (asked_at_wrong T O L A R c A1 c1 hs w place pb hpb hR hc hl hG h1 h2 hrt).mono ?_
    rintro e' w' ⟨rfl, hb⟩
    exact ⟨fun _ => ⟨by rw [e], hb⟩, fun h => by rw [e] at h; exact absurd h (by omega)⟩
   | true =>
    cases h3 : canAll T O L R hs with
    | false =>
     have e : askedErr T O L R hs true = 62 := by simp [askedErr, h1, h2, h3]
     refine (asked_at_none T O L A R c A1 c1 hs w place pb hpb hR hc hl hG h1 h2 hrt h3).mono ?_
     rintro e' w' ⟨rfl, hb⟩
     exact ⟨fun _ => ⟨by rw [e], hb⟩, fun h => by rw [e] at h; exact absurd h (by omega)⟩
    | true =>
     have e : askedErr T O L R hs true = 0 := by simp [askedErr, h1, h2, h3]
     refine (asked_at_ok T O L A R c A1 c1 hs w place pb hpb hR hc hl hG h1 h2 hrt h3).mono ?_
     rintro e' w' ⟨m, rfl, hx⟩
     exact ⟨fun h => absurd e h, fun _ => ⟨h1, h2, rfl, h3, m, rfl, hx⟩⟩
end Go.Proofs.YtagkfkdoibnhfaaDoor.K
end
section
namespace Go.Proofs.YtagkfkdoibnhfaaDoor.K
open Go.RowKit Go.Shelf Go.Proofs.YtagkfkdoibnhfaaDoorW.PrintWords Go.Proofs.YtagkfkdoibnhfaaDoorW.PrintLast Go.Proofs.YtagkfkdoibnhfaaDoorW.PrintMore Go.Proofs.YtagkfkdoibnhfaaDoor.H
set_option linter.unusedVariables false
set_option linter.unusedSimpArgs false
set_option maxRecDepth 100000 in
set_option maxHeartbeats 4000000 in
theorem least_bad (T O L : Int) (A : Option Addr) (R : List S66) (c : Nat) (A1 : Option Addr) (c1 : Nat) (hs : List S60) (w : World) (hR : Kd.C k66 w A R.length R) (hc : R.length ≤ c) (hl : Kd.C k60 w A1 hs.length hs) (hG : Glob w)
  (x : Int) (hx0 : x ≠ 0) (hb : okScale T O L R = false ∧ x = 60 ∨ okScale T O L R = true ∧ okHeard L R hs = false ∧ x = 61) :
  Calls Tryd.prog 31 #[.agg #[.int .i64 T, .int .i64 O, .int .i64 L, .slice A R.length c], .slice A1 hs.length c1] w fun e w' => e = .returned (.tuple #[.int .i64 0, .int .i64 x]) ∧ Below w.heap.size w w' := by
 have hu24 := Tryd.underlying24
 have hu92 := Tryd.underlying92
 have HB0 := zh (below_alloc (Below.refl w.heap.size w) (.cells #[.int .i64 T, .int .i64 O, .int .i64 L, .slice A R.length c] 24))
 have HR := zh (Kd.C_below hR HB0.out)
 have HL := zh (Kd.C_below hl HB0.out)
 have HG := zh (hG.below HB0.out)
 have HBAD := zh hb
 have hx' : (x == 0) = false := beq_eq_false_iff_ne.2 hx0
 have hx'' : (x != 0) = true := bne_iff_ne.2 hx0
 clear hR hl hG hb hx0
 go_enter Tryd.func31, Tryd.ntmps31
 go_wp2_with (first | (go_at_call 62; (with_reducible refine (listened_calls T O L A R c A1 c1 hs _ HR.out hc HL.out HG.out).mono ?_); rintro e w1 hp; obtain ⟨rfl, hb1⟩ := hp.bad HBAD.out; have HB1 := zh (HB0.out.trans (hb1.mono (by simp))); clear hp hb1))
 go_ret2
 exact ⟨rfl, below_alloc HB1.out _⟩
set_option maxRecDepth 100000 in
set_option maxHeartbeats 4000000 in
theorem twins1_calls (T O L one other : Int) (A : Option Addr) (n c m b1 b2 : Nat) (w : World) (h1 : w.heap[b1]? = some (.cells #[.int .i64 one] 3 (0, 0))) (h2 : w.heap[b2]? = some (.cells #[.int .i64 other] 3 (0, 0))) (hn : n ≤ 5) :
  Calls Tryd.prog 79 #[.agg #[.int .i64 T, .int .i64 O, .int .i64 L, .slice A n c, .map (some m)], .pointer (some ⟨b1, 0, none⟩), .pointer (some ⟨b2, 0, none⟩)] w fun e w' => e = .returned (.bool ((decide (0 ≤ one) && decide (one < (n : Int))) && (decide (0 ≤ other) && decide (other < (n : Int))))) ∧ Below w.heap.size w w' := by
 have hu24 := Tryd.underlying24
 have hu78 := Tryd.underlying78
 have z0 : w.cell? ⟨b1, 0, none⟩ = some (.int .i64 one) := (blk_cell h1 0).trans rfl
 have z1 : w.cell? ⟨b2, 0, none⟩ = some (.int .i64 other) := (blk_cell h2 0).trans rfl
 have HB := zh (below_alloc (Below.refl w.heap.size w) (.cells #[.int .i64 T, .int .i64 O, .int .i64 L, .slice A n c, .map (some m)] 78))
 have A0 := zh (alloc_at w (.cells #[.int .i64 T, .int .i64 O, .int .i64 L, .slice A n c, .map (some m)] 78) w.heap.size rfl)
 have y1 := zh (cell_a1 z1 (.cells #[.int .i64 T, .int .i64 O, .int .i64 L, .slice A n c, .map (some m)] 78))
 replace z0 := cell_a1 z0 (.cells #[.int .i64 T, .int .i64 O, .int .i64 L, .slice A n c, .map (some m)] 78)
 have HF := zh (in_le one n)
 have HG := zh (in_le other n)
 cases hq : (decide (0 ≤ one) && decide (one < (n : Int))) with
 | true =>
  rw [hq] at HF
  go_enter Tryd.func79, Tryd.ntmps79
  go_wp2_with (first | ((go_at_call 55; (with_reducible refine (kernel_in.calls one 0 ((n : Int) - 1) _ _ HF.out).mono ?_)); rintro e w1 ⟨rfl, hd⟩; have HB1 := zh (drawn_below hd); have q1 := pw_cell_below HB1.out y1.out; have q3 : w1.cell? ⟨w.heap.size, 3, none⟩ = some (.slice A n c) := (blk_cell (blk_below A0.out HB1.out) 3).trans rfl; clear hd) | ((go_at_call 55; (with_reducible refine (kernel_in.calls other 0 ((n : Int) - 1) _ _ HG.out).mono ?_)); rintro e w2 ⟨rfl, hd⟩; have HB2 := zh (drawn_below hd); clear hd))
  go_ret
  exact ⟨by rw [Bool.true_and]; rfl, (HB.out.trans (HB1.out.mono (by simp))).trans (HB2.out.mono (by have := HB1.out.size; simp at this; omega))⟩
 | false =>
  rw [hq] at HF
  go_enter Tryd.func79, Tryd.ntmps79
  go_wp2_with (first | ((go_at_call 55; (with_reducible refine (kernel_in.calls one 0 ((n : Int) - 1) _ _ HF.out).mono ?_)); rintro e w1 ⟨rfl, hd⟩; have HB1 := zh (drawn_below hd); clear hd))
  go_ret
  exact ⟨by rw [Bool.false_and]; rfl, HB.out.trans (HB1.out.mono (by simp))⟩
end Go.Proofs.YtagkfkdoibnhfaaDoor.K
end
section
namespace Go.Proofs.YtagkfkdoibnhfaaDoor.K
open Go.RowKit Go.Shelf Go.Proofs.YtagkfkdoibnhfaaDoorW.PrintWords Go.Proofs.YtagkfkdoibnhfaaDoorW.PrintLast Go.Proofs.YtagkfkdoibnhfaaDoorW.PrintMore Go.Proofs.YtagkfkdoibnhfaaDoor.H
set_option linter.unusedVariables false
set_option linter.unusedSimpArgs false
def fLeast.T8 : Bool × List (List Nat × List Nat) := (true, [([], []), ([], []), ([], []), ([], []), ([0, 1, 2, 3, 3], [0, 1, 2, 3]), ([], []), ([5, 4, 4, 0, 1, 2, 3, 4, 5], [4, 5])])
def fLeast.B8 : List Nat := [0, 0, 0, 0, 15, 0, 63]
theorem fLeast.tab8 : rtab .any (opsOf Tryd.f31 8) = fLeast.T8 := by kernel_rfl
theorem fLeast.bits8 : waitsOk fLeast.T8.2 fLeast.B8 = true := by kernel_rfl
set_option maxRecDepth 100000 in
set_option maxHeartbeats 8000000 in
theorem least_first (T O L : Int) (A : Option Addr) (R : List S66) (c m : Nat) (A1 : Option Addr) (c1 : Nat) (hs : List S60) (p H P : Nat) (w0 W_ : World) (hx : Ctx w0 W_ T A R m) (hl : Kd.C k60 w0 A1 hs.length hs) (hh : okHeard L R hs = true) (hL : 2 ≤ L) (hL' : L ≤ 16) (hp : (p : Int) < L / 2)
  (h1 : W_.heap[H]? = some (.cells #[.int .i64 T, .int .i64 O, .int .i64 L, .slice A R.length c, .map (some m), .slice A1 hs.length c1] 92 (0, 0))) (h2 : W_.heap[P]? = some (.cells #[.int .i64 (p : Int)] 3 (0, 0))) (t0 t1 t2 t3 t4 t5 t7 t8 t10 t11 t12 t13 t14 t15 t16 t17 t18 t19 t20 t21 t22 t23 t24 t25 t26 t27 t28 t29 t30 t31 t32 t33 t34 t35 t36 t37 t38 t39 t40 t41 t42 t43 t44 t45 t46 t47 t48 t49 t50 : Value) (ds : List Deferred) :
  (Code.region 8 (opsOf Tryd.f31 8) true).wp Tryd.prog (fun e a' w' => e = .normal ∧ ∃ (g : Nat) (u29 u30 u31 u32 u33 : Value), a' = { tmps := #[t0, t1, t2, t3, t4, t5, .pointer (some ⟨H, 0, none⟩), t7, t8, .pointer (some ⟨P, 0, none⟩), .pointer (some ⟨g, 0, none⟩), t11, t12, t13, t14, t15, t16, t17, t18, t19, t20, t21, t22, t23, t24, t25, t26, t27, t28, u29, u30, u31, u32, u33, t34, t35, t36, t37, t38, t39, t40, t41, t42, t43, t44, t45, t46, t47, t48, t49, t50], defers := ds } ∧ KB T R m W_ w' ∧ Boxed w' g 3 (.int .i64 (miss T R hs (p : Int) 0 0 : Int)) ∧ W_.heap.size ≤ g) { tmps := #[t0, t1, t2, t3, t4, t5, .pointer (some ⟨H, 0, none⟩), t7, t8, .pointer (some ⟨P, 0, none⟩), t10, t11, t12, t13, t14, t15, t16, t17, t18, t19, t20, t21, t22, t23, t24, t25, t26, t27, t28, t29, t30, t31, t32, t33, t34, t35, t36, t37, t38, t39, t40, t41, t42, t43, t44, t45, t46, t47, t48, t49, t50], defers := ds } W_ := by
 conv in opsOf _ _ => whnf
 have hu84 := Tryd.underlying84
 have hu92 := Tryd.underlying92
 have hHm : H ≠ m := by rintro rfl; exact hx.memo.no_cells h1
 have hPm : P ≠ m := by rintro rfl; exact hx.memo.no_cells h2
 have XC_ := zh hx
 have HL := zh hl
 have HO_ := zh hh
 have HH := zh h1
 have PP := zh h2
 clear hx hl hh h1 h2
 have KB0_ := zh (KB.of_below (T := T) (R := R) (m := m) (below_drew1 (Below.refl W_.heap.size W_)))
 have HH_ := zh (show W_.drew.heap[H]? = _ from HH.out)
 have PP_ := zh (show W_.drew.heap[P]? = _ from PP.out)
 have XC := zh (KB0_.out.ctx XC_.out)
 have KB0 := zh (KB.refl T R m W_.drew)
 refine start_ (n := 7) (S := fun w' => w'.cell? ⟨H, 0, none⟩ = some (.int .i64 T) ∧ w'.cell? ⟨H, 1, none⟩ = some (.int .i64 O) ∧ w'.cell? ⟨H, 2, none⟩ = some (.int .i64 L) ∧ w'.cell? ⟨H, 3, none⟩ = some (.slice A R.length c) ∧ w'.cell? ⟨H, 4, none⟩ = some (.map (some m)) ∧ w'.cell? ⟨H, 5, none⟩ = some (.slice A1 hs.length c1) ∧ w'.cell? ⟨P, 0, none⟩ = some (.int .i64 (p : Int))) (ds := []) (Array.replicate 7 false) zk rfl rfl ⟨(blk_cell (KB0.out.at HH_.out hHm) 0).trans rfl, (blk_cell (KB0.out.at HH_.out hHm) 1).trans rfl, (blk_cell (KB0.out.at HH_.out hHm) 2).trans rfl, (blk_cell (KB0.out.at HH_.out hHm) 3).trans rfl, (blk_cell (KB0.out.at HH_.out hHm) 4).trans rfl, (blk_cell (KB0.out.at HH_.out hHm) 5).trans rfl, (blk_cell (KB0.out.at PP_.out hPm) 0).trans rfl⟩ (fun hHeld => ?_)
 refine with_tabW fLeast.tab8 fLeast.bits8 (fun HT_ HW_ => ?_)
 generalize W_.drew = W at KB0_ HH_ PP_ XC KB0 hHeld ⊢
 refine pure_ (i := 2) (N := some 31) (v := ?_) (a' := ?_) #[false, false, true, false, false, false, false] rfl rfl (any_of HT_.out zk) (fun _ _ _ h => (nomatch h.1)) (Or.inl ⟨by rfl, ?_⟩) ?_ ?_
 rotate_left
 ·intro w'
  go_simp
  with_reducible rfl
 rotate_left
 ·simp only [Act.put, List.setIfInBounds_toArray, List.set_cons_zero, List.set_cons_succ, i64_w, i32_w]
  rfl
 refine take_ (i := 0) (N := some 29) (v := ?_) (a' := ?_) #[true, false, true, false, false, false, false] rfl rfl (take_ofW HT_.out HW_.out zk) (fun _ _ _ h => (nomatch h.1)) (Or.inl ⟨by rfl, ?_⟩) hHeld ?_ ?_
 rotate_left
 ·rintro w' ⟨s0, s1, s2, s3, s4, s5, s6⟩
  go_simp
  with_reducible rfl
 rotate_left
 ·simp only [Act.put, List.setIfInBounds_toArray, List.set_cons_zero, List.set_cons_succ, i64_w, i32_w]
  rfl
 refine take_ (i := 1) (N := some 30) (v := ?_) (a' := ?_) #[true, true, true, false, false, false, false] rfl rfl (take_ofW HT_.out HW_.out zk) (fun _ _ _ h => (nomatch h.1)) (Or.inl ⟨by rfl, ?_⟩) hHeld ?_ ?_
 rotate_left
 ·rintro w' ⟨s0, s1, s2, s3, s4, s5, s6⟩
  go_simp
  with_reducible rfl
 rotate_left
 ·simp only [Act.put, List.setIfInBounds_toArray, List.set_cons_zero, List.set_cons_succ, i64_w, i32_w]
  rfl
 refine two_ (i := 3) (j := 5) (Ni := some 32) (Nj := some 10) #[true, true, true, true, false, false, false] #[true, true, true, false, false, true, false] rfl rfl rfl rfl (two_of HT_.out zk) (by decide) (by decide) (fun K hK => ?_) (fun K hK => ?_)
 ·refine goes_ Tryd.func74 zk rfl #[] (by rfl) rfl rfl (by simp) ?_
  with_reducible refine (otherwise_calls _).mono ?_
  rintro e v1 ⟨rfl, hb_⟩
  refine ⟨_, rfl, ?_⟩
  have KB1 := zh (KB0.out.trans (KB.of_below (T := T) (R := R) (m := m) hb_))
  clear hb_
  refine hK.out _ _ ⟨(blk_cell (KB1.out.at HH_.out hHm) 0).trans rfl, (blk_cell (KB1.out.at HH_.out hHm) 1).trans rfl, (blk_cell (KB1.out.at HH_.out hHm) 2).trans rfl, (blk_cell (KB1.out.at HH_.out hHm) 3).trans rfl, (blk_cell (KB1.out.at HH_.out hHm) 4).trans rfl, (blk_cell (KB1.out.at HH_.out hHm) 5).trans rfl, (blk_cell (KB1.out.at PP_.out hPm) 0).trans rfl⟩ (fun hHeld => ?_)
  clear hK K
  refine zr 32 _ ?_
  refine two_ (i := 4) (j := 5) (Ni := some 33) (Nj := some 10) #[true, true, true, true, true, false, false] #[true, true, true, true, false, true, false] rfl rfl rfl rfl (two_of HT_.out zk) (by decide) (by decide) (fun K hK => ?_) (fun K hK => ?_)
  ·refine goes_ Tryd.func73 zk rfl #[.agg #[.int .i64 T, .int .i64 O, .int .i64 L, .slice A R.length c, .map (some m), .slice A1 hs.length c1], .int .i64 (p : Int), .agg #[.int .i64 0, .int .i64 0], .agg #[.func (.func 87) #[] #[]]] (by rfl) rfl rfl dQ5 ?_
   with_reducible refine (counted_calls T O L A R c m A1 c1 hs p 0 0 w0 _ (KB1.out.ctx XC.out) HL.out HO_.out hL hL' hp (by omega) (by omega) (by omega) (by omega)).mono ?_
   rintro e v2 ⟨rfl, hm_, hk_⟩
   refine ⟨_, rfl, ?_⟩
   have KC_ : KB T R m _ v2 := ⟨hk_, fun _ => hm_⟩
   have KB2 := zh (KB1.out.trans KC_)
   clear hm_ hk_ KC_
   refine hK.out _ _ ⟨(blk_cell (KB2.out.at HH_.out hHm) 0).trans rfl, (blk_cell (KB2.out.at HH_.out hHm) 1).trans rfl, (blk_cell (KB2.out.at HH_.out hHm) 2).trans rfl, (blk_cell (KB2.out.at HH_.out hHm) 3).trans rfl, (blk_cell (KB2.out.at HH_.out hHm) 4).trans rfl, (blk_cell (KB2.out.at HH_.out hHm) 5).trans rfl, (blk_cell (KB2.out.at PP_.out hPm) 0).trans rfl⟩ (fun hHeld => ?_)
   clear hK K
   refine zr 33 _ ?_
   refine zo 5 (fun K hK => ?_)
   refine box_step (by rfl) (N := 10) rfl (cs := #[.int .i64 0]) (t := 3) ?hr2 ?_
   (case hr2 => first | (go_simp; done) | (go_simp; rfl))
   intro g hg v3 hB_ hb_
   have hgm : g ≠ m := by have := (KB2.out.ctx XC.out).memo.lt; omega
   have hgs : W.heap.size ≤ g := by have := KB2.out.kp.size; omega
   have KB3 := zh (KB2.out.trans (KB.of_below (T := T) (R := R) (m := m) hb_))
   have BX3 : Aside0 (Boxed v3 g 3 (.int .i64 0)) := ⟨hB_⟩
   clear hb_ hB_ hg
   refine hK.out _ _ ⟨(blk_cell (KB3.out.at HH_.out hHm) 0).trans rfl, (blk_cell (KB3.out.at HH_.out hHm) 1).trans rfl, (blk_cell (KB3.out.at HH_.out hHm) 2).trans rfl, (blk_cell (KB3.out.at HH_.out hHm) 3).trans rfl, (blk_cell (KB3.out.at HH_.out hHm) 4).trans rfl, (blk_cell (KB3.out.at HH_.out hHm) 5).trans rfl, (blk_cell (KB3.out.at PP_.out hPm) 0).trans rfl⟩ (fun hHeld => ?_)
   clear hK K
   refine zr 10 _ ?_
   refine zp 6 (fun K hK => ?_)
   have y0_ := BX3.out.cell
   have y1_ := BX3.out.frozen
   refine skip_ (w1 := v3.setCell ⟨g, 0, none⟩ (.int .i64 (miss T R hs (p : Int) 0 0 : Int))) (by rfl) rfl ?hs3 ?_
   (case hs3 => first | (go_simp; done) | (go_simp; rfl))
   have BX4 := zh (BX3.out.set (.int .i64 (miss T R hs (p : Int) 0 0 : Int)))
   have KB4 : Aside0 (KB T R m W (v3.setCell ⟨g, 0, none⟩ (.int .i64 (miss T R hs (p : Int) 0 0 : Int)))) := ⟨⟨KB3.out.kp.set hgs 0 _, fun x => (KB3.out.memo x).move_set (fun e => hgm e.symm)⟩⟩
   refine hK.out _ _ ⟨(blk_cell (KB4.out.at HH_.out hHm) 0).trans rfl, (blk_cell (KB4.out.at HH_.out hHm) 1).trans rfl, (blk_cell (KB4.out.at HH_.out hHm) 2).trans rfl, (blk_cell (KB4.out.at HH_.out hHm) 3).trans rfl, (blk_cell (KB4.out.at HH_.out hHm) 4).trans rfl, (blk_cell (KB4.out.at HH_.out hHm) 5).trans rfl, (blk_cell (KB4.out.at PP_.out hPm) 0).trans rfl⟩ (fun hHeld => ?_)
   clear hK K
   refine zd ?_
   exact ⟨rfl, g, _, _, _, _, _, rfl, KB0_.out.trans KB4.out, BX4.out, by have := KB0_.out.kp.size; omega⟩
  ·refine box_step (by rfl) (N := 10) rfl (cs := #[.int .i64 0]) (t := 3) ?hr1 ?_
   (case hr1 => first | (go_simp; done) | (go_simp; rfl))
   intro g hg v2 hB_ hb_
   have hgm : g ≠ m := by have := (KB1.out.ctx XC.out).memo.lt; omega
   have hgs : W.heap.size ≤ g := by have := KB1.out.kp.size; omega
   have KB2 := zh (KB1.out.trans (KB.of_below (T := T) (R := R) (m := m) hb_))
   have BX2 : Aside0 (Boxed v2 g 3 (.int .i64 0)) := ⟨hB_⟩
   clear hb_ hB_ hg
   refine hK.out _ _ ⟨(blk_cell (KB2.out.at HH_.out hHm) 0).trans rfl, (blk_cell (KB2.out.at HH_.out hHm) 1).trans rfl, (blk_cell (KB2.out.at HH_.out hHm) 2).trans rfl, (blk_cell (KB2.out.at HH_.out hHm) 3).trans rfl, (blk_cell (KB2.out.at HH_.out hHm) 4).trans rfl, (blk_cell (KB2.out.at HH_.out hHm) 5).trans rfl, (blk_cell (KB2.out.at PP_.out hPm) 0).trans rfl⟩ (fun hHeld => ?_)
   clear hK K
   refine zr 10 _ ?_
   refine zo 4 (fun K hK => ?_)
   refine goes_ Tryd.func73 zk rfl #[.agg #[.int .i64 T, .int .i64 O, .int .i64 L, .slice A R.length c, .map (some m), .slice A1 hs.length c1], .int .i64 (p : Int), .agg #[.int .i64 0, .int .i64 0], .agg #[.func (.func 87) #[] #[]]] (by rfl) rfl rfl dQ5 ?_
   with_reducible refine (counted_calls T O L A R c m A1 c1 hs p 0 0 w0 _ (KB2.out.ctx XC.out) HL.out HO_.out hL hL' hp (by omega) (by omega) (by omega) (by omega)).mono ?_
   rintro e v3 ⟨rfl, hm_, hk_⟩
   refine ⟨_, rfl, ?_⟩
   have KC_ : KB T R m _ v3 := ⟨hk_, fun _ => hm_⟩
   have KB3 := zh (KB2.out.trans KC_)
   have BX3 := zh (KC_.box BX2.out hgm)
   clear hm_ hk_ KC_
   refine hK.out _ _ ⟨(blk_cell (KB3.out.at HH_.out hHm) 0).trans rfl, (blk_cell (KB3.out.at HH_.out hHm) 1).trans rfl, (blk_cell (KB3.out.at HH_.out hHm) 2).trans rfl, (blk_cell (KB3.out.at HH_.out hHm) 3).trans rfl, (blk_cell (KB3.out.at HH_.out hHm) 4).trans rfl, (blk_cell (KB3.out.at HH_.out hHm) 5).trans rfl, (blk_cell (KB3.out.at PP_.out hPm) 0).trans rfl⟩ (fun hHeld => ?_)
   clear hK K
   refine zr 33 _ ?_
   refine zp 6 (fun K hK => ?_)
   have y0_ := BX3.out.cell
   have y1_ := BX3.out.frozen
   refine skip_ (w1 := v3.setCell ⟨g, 0, none⟩ (.int .i64 (miss T R hs (p : Int) 0 0 : Int))) (by rfl) rfl ?hs3 ?_
   (case hs3 => first | (go_simp; done) | (go_simp; rfl))
   have BX4 := zh (BX3.out.set (.int .i64 (miss T R hs (p : Int) 0 0 : Int)))
   have KB4 : Aside0 (KB T R m W (v3.setCell ⟨g, 0, none⟩ (.int .i64 (miss T R hs (p : Int) 0 0 : Int)))) := ⟨⟨KB3.out.kp.set hgs 0 _, fun x => (KB3.out.memo x).move_set (fun e => hgm e.symm)⟩⟩
   refine hK.out _ _ ⟨(blk_cell (KB4.out.at HH_.out hHm) 0).trans rfl, (blk_cell (KB4.out.at HH_.out hHm) 1).trans rfl, (blk_cell (KB4.out.at HH_.out hHm) 2).trans rfl, (blk_cell (KB4.out.at HH_.out hHm) 3).trans rfl, (blk_cell (KB4.out.at HH_.out hHm) 4).trans rfl, (blk_cell (KB4.out.at HH_.out hHm) 5).trans rfl, (blk_cell (KB4.out.at PP_.out hPm) 0).trans rfl⟩ (fun hHeld => ?_)
   clear hK K
   refine zd ?_
   exact ⟨rfl, g, _, _, _, _, _, rfl, KB0_.out.trans KB4.out, BX4.out, by have := KB0_.out.kp.size; omega⟩
 ·refine box_step (by rfl) (N := 10) rfl (cs := #[.int .i64 0]) (t := 3) ?hr0 ?_
  (case hr0 => first | (go_simp; done) | (go_simp; rfl))
  intro g hg v1 hB_ hb_
  have hgm : g ≠ m := by have := (KB0.out.ctx XC.out).memo.lt; omega
  have hgs : W.heap.size ≤ g := by have := KB0.out.kp.size; omega
  have KB1 := zh (KB0.out.trans (KB.of_below (T := T) (R := R) (m := m) hb_))
  have BX1 : Aside0 (Boxed v1 g 3 (.int .i64 0)) := ⟨hB_⟩
  clear hb_ hB_ hg
  refine hK.out _ _ ⟨(blk_cell (KB1.out.at HH_.out hHm) 0).trans rfl, (blk_cell (KB1.out.at HH_.out hHm) 1).trans rfl, (blk_cell (KB1.out.at HH_.out hHm) 2).trans rfl, (blk_cell (KB1.out.at HH_.out hHm) 3).trans rfl, (blk_cell (KB1.out.at HH_.out hHm) 4).trans rfl, (blk_cell (KB1.out.at HH_.out hHm) 5).trans rfl, (blk_cell (KB1.out.at PP_.out hPm) 0).trans rfl⟩ (fun hHeld => ?_)
  clear hK K
  refine zr 10 _ ?_
  refine zo 3 (fun K hK => ?_)
  refine goes_ Tryd.func74 zk rfl #[] (by rfl) rfl rfl (by simp) ?_
  with_reducible refine (otherwise_calls _).mono ?_
  rintro e v2 ⟨rfl, hb_⟩
  refine ⟨_, rfl, ?_⟩
  have KB2 := zh (KB1.out.trans (KB.of_below (T := T) (R := R) (m := m) hb_))
  have BX2 := zh ((KB.of_below (T := T) (R := R) (m := m) hb_).box BX1.out hgm)
  clear hb_
  refine hK.out _ _ ⟨(blk_cell (KB2.out.at HH_.out hHm) 0).trans rfl, (blk_cell (KB2.out.at HH_.out hHm) 1).trans rfl, (blk_cell (KB2.out.at HH_.out hHm) 2).trans rfl, (blk_cell (KB2.out.at HH_.out hHm) 3).trans rfl, (blk_cell (KB2.out.at HH_.out hHm) 4).trans rfl, (blk_cell (KB2.out.at HH_.out hHm) 5).trans rfl, (blk_cell (KB2.out.at PP_.out hPm) 0).trans rfl⟩ (fun hHeld => ?_)
  clear hK K
  refine zr 32 _ ?_
  refine zo 4 (fun K hK => ?_)
  refine goes_ Tryd.func73 zk rfl #[.agg #[.int .i64 T, .int .i64 O, .int .i64 L, .slice A R.length c, .map (some m), .slice A1 hs.length c1], .int .i64 (p : Int), .agg #[.int .i64 0, .int .i64 0], .agg #[.func (.func 87) #[] #[]]] (by rfl) rfl rfl dQ5 ?_
  with_reducible refine (counted_calls T O L A R c m A1 c1 hs p 0 0 w0 _ (KB2.out.ctx XC.out) HL.out HO_.out hL hL' hp (by omega) (by omega) (by omega) (by omega)).mono ?_
  rintro e v3 ⟨rfl, hm_, hk_⟩
  refine ⟨_, rfl, ?_⟩
  have KC_ : KB T R m _ v3 := ⟨hk_, fun _ => hm_⟩
  have KB3 := zh (KB2.out.trans KC_)
  have BX3 := zh (KC_.box BX2.out hgm)
  clear hm_ hk_ KC_
  refine hK.out _ _ ⟨(blk_cell (KB3.out.at HH_.out hHm) 0).trans rfl, (blk_cell (KB3.out.at HH_.out hHm) 1).trans rfl, (blk_cell (KB3.out.at HH_.out hHm) 2).trans rfl, (blk_cell (KB3.out.at HH_.out hHm) 3).trans rfl, (blk_cell (KB3.out.at HH_.out hHm) 4).trans rfl, (blk_cell (KB3.out.at HH_.out hHm) 5).trans rfl, (blk_cell (KB3.out.at PP_.out hPm) 0).trans rfl⟩ (fun hHeld => ?_)
  clear hK K
  refine zr 33 _ ?_
  refine zp 6 (fun K hK => ?_)
  have y0_ := BX3.out.cell
  have y1_ := BX3.out.frozen
  refine skip_ (w1 := v3.setCell ⟨g, 0, none⟩ (.int .i64 (miss T R hs (p : Int) 0 0 : Int))) (by rfl) rfl ?hs3 ?_
  (case hs3 => first | (go_simp; done) | (go_simp; rfl))
  have BX4 := zh (BX3.out.set (.int .i64 (miss T R hs (p : Int) 0 0 : Int)))
  have KB4 : Aside0 (KB T R m W (v3.setCell ⟨g, 0, none⟩ (.int .i64 (miss T R hs (p : Int) 0 0 : Int)))) := ⟨⟨KB3.out.kp.set hgs 0 _, fun x => (KB3.out.memo x).move_set (fun e => hgm e.symm)⟩⟩
  refine hK.out _ _ ⟨(blk_cell (KB4.out.at HH_.out hHm) 0).trans rfl, (blk_cell (KB4.out.at HH_.out hHm) 1).trans rfl, (blk_cell (KB4.out.at HH_.out hHm) 2).trans rfl, (blk_cell (KB4.out.at HH_.out hHm) 3).trans rfl, (blk_cell (KB4.out.at HH_.out hHm) 4).trans rfl, (blk_cell (KB4.out.at HH_.out hHm) 5).trans rfl, (blk_cell (KB4.out.at PP_.out hPm) 0).trans rfl⟩ (fun hHeld => ?_)
  clear hK K
  refine zd ?_
  exact ⟨rfl, g, _, _, _, _, _, rfl, KB0_.out.trans KB4.out, BX4.out, by have := KB0_.out.kp.size; omega⟩
def fLeast.T11 : Bool × List (List Nat × List Nat) := (true, [([], []), ([], []), ([], []), ([], []), ([], []), ([1, 2, 3, 4, 4], [1, 2, 3, 4]), ([5], [5]), ([0, 6, 5], [0, 6]), ([7, 7, 0, 1, 2, 3, 4, 5, 6, 7], [7])])
def fLeast.B11 : List Nat := [0, 0, 0, 0, 0, 30, 62, 127, 255]
theorem fLeast.tab11 : rtab .any (opsOf Tryd.f31 11) = fLeast.T11 := by kernel_rfl
theorem fLeast.bits11 : waitsOk fLeast.T11.2 fLeast.B11 = true := by kernel_rfl
set_option maxRecDepth 100000 in
set_option maxHeartbeats 8000000 in
theorem least_round (T O L : Int) (A : Option Addr) (R : List S66) (c m : Nat) (A1 : Option Addr) (c1 : Nat) (hs : List S60) (p H P Bt g l₂ nn : Nat) (best xa xb : Int) (w0 W_ : World) (hx : Ctx w0 W_ T A R m) (hl : Kd.C k60 w0 A1 hs.length hs) (hh : okHeard L R hs = true) (hL : 2 ≤ L) (hL' : L ≤ 16) (hp : (p : Int) < L / 2)
  (oa : 0 ≤ xa) (oa' : xa ≤ 100) (ob : 0 ≤ xb) (ob' : xb ≤ 100)
  (h1 : W_.heap[H]? = some (.cells #[.int .i64 T, .int .i64 O, .int .i64 L, .slice A R.length c, .map (some m), .slice A1 hs.length c1] 92 (0, 0))) (h2 : W_.heap[P]? = some (.cells #[.int .i64 (p : Int)] 3 (0, 0))) (h3 : W_.heap[Bt]? = some (.cells #[.int .i64 best] 3 (0, 0))) (h4 : W_.heap[g]? = some (.cells #[.int .i64 xa, .int .i64 xb] 84 (0, 0))) (t0 t1 t2 t3 t4 t5 t7 t8 t12 t13 t14 t15 t16 t17 t18 t19 t20 t21 t22 t23 t24 t25 t26 t27 t28 t29 t30 t31 t32 t33 t34 t35 t36 t37 t38 t39 t40 t41 t42 t43 t44 t45 t46 t47 t48 t49 t50 : Value) (ds : List Deferred) :
  (Code.region 11 (opsOf Tryd.f31 11) true).wpIn (Fence.wide.inRound l₂) nn Tryd.prog (fun e a' w' => e = .normal ∧ ∃ (w5 : World) (u38 u39 u40 u41 u42 u43 u44 u45 : Value), a' = { tmps := #[t0, t1, t2, t3, t4, t5, .pointer (some ⟨H, 0, none⟩), t7, t8, .pointer (some ⟨P, 0, none⟩), .pointer (some ⟨Bt, 0, none⟩), .pointer (some ⟨g, 0, none⟩), t12, t13, t14, t15, t16, t17, t18, t19, t20, t21, t22, t23, t24, t25, t26, t27, t28, t29, t30, t31, t32, t33, t34, t35, t36, t37, u38, u39, u40, u41, u42, u43, u44, u45, t46, t47, t48, t49, t50], defers := ds } ∧ KB T R m W_ w5 ∧ w' = w5.setCell ⟨Bt, 0, none⟩ (.int .i64 (min best (miss T R hs (p : Int) xa xb : Int)))) { tmps := #[t0, t1, t2, t3, t4, t5, .pointer (some ⟨H, 0, none⟩), t7, t8, .pointer (some ⟨P, 0, none⟩), .pointer (some ⟨Bt, 0, none⟩), .pointer (some ⟨g, 0, none⟩), t12, t13, t14, t15, t16, t17, t18, t19, t20, t21, t22, t23, t24, t25, t26, t27, t28, t29, t30, t31, t32, t33, t34, t35, t36, t37, t38, t39, t40, t41, t42, t43, t44, t45, t46, t47, t48, t49, t50], defers := ds } W_ := by
 conv in opsOf _ _ => whnf
 have hu84 := Tryd.underlying84
 have hu92 := Tryd.underlying92
 have hHm : H ≠ m := by rintro rfl; exact hx.memo.no_cells h1
 have hPm : P ≠ m := by rintro rfl; exact hx.memo.no_cells h2
 have hBm : Bt ≠ m := by rintro rfl; exact hx.memo.no_cells h3
 have hGm : g ≠ m := by rintro rfl; exact hx.memo.no_cells h4
 have XC_ := zh hx
 have HL := zh hl
 have HO_ := zh hh
 have HH := zh h1
 have PP := zh h2
 have BT := zh h3
 have GG := zh h4
 clear hx hl hh h1 h2 h3 h4
 have KB0_ := zh (KB.of_below (T := T) (R := R) (m := m) (below_drew1 (Below.refl W_.heap.size W_)))
 have HH_ := zh (show W_.drew.heap[H]? = _ from HH.out)
 have PP_ := zh (show W_.drew.heap[P]? = _ from PP.out)
 have BT_ := zh (show W_.drew.heap[Bt]? = _ from BT.out)
 have GG_ := zh (show W_.drew.heap[g]? = _ from GG.out)
 have XC := zh (KB0_.out.ctx XC_.out)
 have KB0 := zh (KB.refl T R m W_.drew)
 refine start_in (n := 9) (S := fun w' => w'.cell? ⟨H, 0, none⟩ = some (.int .i64 T) ∧ w'.cell? ⟨H, 1, none⟩ = some (.int .i64 O) ∧ w'.cell? ⟨H, 2, none⟩ = some (.int .i64 L) ∧ w'.cell? ⟨H, 3, none⟩ = some (.slice A R.length c) ∧ w'.cell? ⟨H, 4, none⟩ = some (.map (some m)) ∧ w'.cell? ⟨H, 5, none⟩ = some (.slice A1 hs.length c1) ∧ w'.cell? ⟨P, 0, none⟩ = some (.int .i64 (p : Int)) ∧ w'.cell? ⟨Bt, 0, none⟩ = some (.int .i64 best) ∧ w'.cell? ⟨g, 0, none⟩ = some (.int .i64 xa) ∧ w'.cell? ⟨g, 1, none⟩ = some (.int .i64 xb)) (ds := [8]) #[false, false, false, false, false, false, false, false, false] zk rfl rfl zk (by rintro ⟨_, _, h⟩; exact (nomatch h.1)) ⟨(blk_cell (KB0.out.at HH_.out hHm) 0).trans rfl, (blk_cell (KB0.out.at HH_.out hHm) 1).trans rfl, (blk_cell (KB0.out.at HH_.out hHm) 2).trans rfl, (blk_cell (KB0.out.at HH_.out hHm) 3).trans rfl, (blk_cell (KB0.out.at HH_.out hHm) 4).trans rfl, (blk_cell (KB0.out.at HH_.out hHm) 5).trans rfl, (blk_cell (KB0.out.at PP_.out hPm) 0).trans rfl, (blk_cell (KB0.out.at BT_.out hBm) 0).trans rfl, (blk_cell (KB0.out.at GG_.out hGm) 0).trans rfl, (blk_cell (KB0.out.at GG_.out hGm) 1).trans rfl⟩ (fun hHeld => ?_)
 refine with_tabW fLeast.tab11 fLeast.bits11 (fun HT_ HW_ => ?_)
 generalize W_.drew = W at KB0_ HH_ PP_ BT_ GG_ XC KB0 hHeld ⊢
 refine take_ (i := 0) (N := some 38) (v := ?_) (a' := ?_) #[true, false, false, false, false, false, false, false, false] rfl rfl (take_ofW HT_.out HW_.out zk) (fun _ _ _ h => (nomatch h.1)) (Or.inl ⟨by rfl, ?_⟩) hHeld ?_ ?_
 rotate_left
 ·rintro w' ⟨s0, s1, s2, s3, s4, s5, s6, s7, s8, s9⟩
  go_simp
  with_reducible rfl
 rotate_left
 ·simp only [Act.put, List.setIfInBounds_toArray, List.set_cons_zero, List.set_cons_succ, i64_w, i32_w]
  rfl
 refine take_ (i := 1) (N := some 39) (v := ?_) (a' := ?_) #[true, true, false, false, false, false, false, false, false] rfl rfl (take_ofW HT_.out HW_.out zk) (fun _ _ _ h => (nomatch h.1)) (Or.inl ⟨by rfl, ?_⟩) hHeld ?_ ?_
 rotate_left
 ·rintro w' ⟨s0, s1, s2, s3, s4, s5, s6, s7, s8, s9⟩
  go_simp
  with_reducible rfl
 rotate_left
 ·simp only [Act.put, List.setIfInBounds_toArray, List.set_cons_zero, List.set_cons_succ, i64_w, i32_w]
  rfl
 refine take_ (i := 2) (N := some 40) (v := ?_) (a' := ?_) #[true, true, true, false, false, false, false, false, false] rfl rfl (take_ofW HT_.out HW_.out zk) (fun _ _ _ h => (nomatch h.1)) (Or.inl ⟨by rfl, ?_⟩) hHeld ?_ ?_
 rotate_left
 ·rintro w' ⟨s0, s1, s2, s3, s4, s5, s6, s7, s8, s9⟩
  go_simp
  with_reducible rfl
 rotate_left
 ·simp only [Act.put, List.setIfInBounds_toArray, List.set_cons_zero, List.set_cons_succ, i64_w, i32_w]
  rfl
 refine take_ (i := 3) (N := some 41) (v := ?_) (a' := ?_) #[true, true, true, true, false, false, false, false, false] rfl rfl (take_ofW HT_.out HW_.out zk) (fun _ _ _ h => (nomatch h.1)) (Or.inl ⟨by rfl, ?_⟩) hHeld ?_ ?_
 rotate_left
 ·rintro w' ⟨s0, s1, s2, s3, s4, s5, s6, s7, s8, s9⟩
  go_simp
  with_reducible rfl
 rotate_left
 ·simp only [Act.put, List.setIfInBounds_toArray, List.set_cons_zero, List.set_cons_succ, i64_w, i32_w]
  rfl
 refine zo 4 (fun K hK => ?_)
 refine goes_ Tryd.func74 zk rfl #[] (by rfl) rfl rfl (by simp) ?_
 with_reducible refine (otherwise_calls _).mono ?_
 rintro e v1 ⟨rfl, hb_⟩
 refine ⟨_, rfl, ?_⟩
 have KB1 := zh (KB0.out.trans (KB.of_below (T := T) (R := R) (m := m) hb_))
 clear hb_
 refine hK.out _ _ ⟨(blk_cell (KB1.out.at HH_.out hHm) 0).trans rfl, (blk_cell (KB1.out.at HH_.out hHm) 1).trans rfl, (blk_cell (KB1.out.at HH_.out hHm) 2).trans rfl, (blk_cell (KB1.out.at HH_.out hHm) 3).trans rfl, (blk_cell (KB1.out.at HH_.out hHm) 4).trans rfl, (blk_cell (KB1.out.at HH_.out hHm) 5).trans rfl, (blk_cell (KB1.out.at PP_.out hPm) 0).trans rfl, (blk_cell (KB1.out.at BT_.out hBm) 0).trans rfl, (blk_cell (KB1.out.at GG_.out hGm) 0).trans rfl, (blk_cell (KB1.out.at GG_.out hGm) 1).trans rfl⟩ (fun hHeld => ?_)
 clear hK K
 refine zr 42 _ ?_
 refine zo 5 (fun K hK => ?_)
 refine goes_ Tryd.func73 zk rfl #[.agg #[.int .i64 T, .int .i64 O, .int .i64 L, .slice A R.length c, .map (some m), .slice A1 hs.length c1], .int .i64 (p : Int), .agg #[.int .i64 xa, .int .i64 xb], .agg #[.func (.func 87) #[] #[]]] (by rfl) rfl rfl dQ5 ?_
 with_reducible refine (counted_calls T O L A R c m A1 c1 hs p xa xb w0 _ (KB1.out.ctx XC.out) HL.out HO_.out hL hL' hp oa oa' ob ob').mono ?_
 rintro e v2 ⟨rfl, hm_, hk_⟩
 refine ⟨_, rfl, ?_⟩
 have KC_ : KB T R m _ v2 := ⟨hk_, fun _ => hm_⟩
 have KB2 := zh (KB1.out.trans KC_)
 clear hm_ hk_ KC_
 refine hK.out _ _ ⟨(blk_cell (KB2.out.at HH_.out hHm) 0).trans rfl, (blk_cell (KB2.out.at HH_.out hHm) 1).trans rfl, (blk_cell (KB2.out.at HH_.out hHm) 2).trans rfl, (blk_cell (KB2.out.at HH_.out hHm) 3).trans rfl, (blk_cell (KB2.out.at HH_.out hHm) 4).trans rfl, (blk_cell (KB2.out.at HH_.out hHm) 5).trans rfl, (blk_cell (KB2.out.at PP_.out hPm) 0).trans rfl, (blk_cell (KB2.out.at BT_.out hBm) 0).trans rfl, (blk_cell (KB2.out.at GG_.out hGm) 0).trans rfl, (blk_cell (KB2.out.at GG_.out hGm) 1).trans rfl⟩ (fun hHeld => ?_)
 clear hK K
 refine zr 43 _ ?_
 refine zo 6 (fun K hK => ?_)
 refine value_ (v := .slice (some ⟨v2.heap.size, 0, none⟩) 1 1) (w1 := v2.alloc (.cells #[.int .i64 (miss T R hs (p : Int) xa xb : Int)] 3)) (by rfl) rfl ?hr2 ?_
 (case hr2 => first | (go_simp; done) | (go_simp; rfl))
 have HC_ := zh (Kd.R_reads' (R_lit_new (w := v2.alloc (.cells #[.int .i64 (miss T R hs (p : Int) xa xb : Int)] 3)) (base := 0) (g := v2.heap.size) (xs := [(miss T R hs (p : Int) xa xb : Int)]) rfl (alloc_at v2 (.cells #[.int .i64 (miss T R hs (p : Int) xa xb : Int)] 3) v2.heap.size rfl) (Nat.zero_le _) (by simp [maxLen]) rfl)).2.2
 have KB3 := zh (KB2.out.trans (KB.alloc T R m v2 (.cells #[.int .i64 (miss T R hs (p : Int) xa xb : Int)] 3)))
 refine hK.out _ _ ⟨(blk_cell (KB3.out.at HH_.out hHm) 0).trans rfl, (blk_cell (KB3.out.at HH_.out hHm) 1).trans rfl, (blk_cell (KB3.out.at HH_.out hHm) 2).trans rfl, (blk_cell (KB3.out.at HH_.out hHm) 3).trans rfl, (blk_cell (KB3.out.at HH_.out hHm) 4).trans rfl, (blk_cell (KB3.out.at HH_.out hHm) 5).trans rfl, (blk_cell (KB3.out.at PP_.out hPm) 0).trans rfl, (blk_cell (KB3.out.at BT_.out hBm) 0).trans rfl, (blk_cell (KB3.out.at GG_.out hGm) 0).trans rfl, (blk_cell (KB3.out.at GG_.out hGm) 1).trans rfl⟩ (fun hHeld => ?_)
 clear hK K
 refine zr 44 _ ?_
 refine zo 7 (fun K hK => ?_)
 refine goes_ Tryd.func65 zk rfl #[.int .i64 best, .slice (some ⟨v2.heap.size, 0, none⟩) 1 1] (by rfl) rfl rfl dQ5 ?_
 refine (kernel_least_int.calls 3 best (some ⟨v2.heap.size, 0, none⟩) 1 [(miss T R hs (p : Int) xa xb : Int)] (min best (miss T R hs (p : Int) xa xb : Int)) _ HC_.out (by simp) (least_f _ _)).mono ?_
 rintro e v4 ⟨rfl, hb_⟩
 refine ⟨_, rfl, ?_⟩
 have KB4 := zh (KB3.out.trans (KB.of_below (T := T) (R := R) (m := m) hb_))
 clear hb_
 refine hK.out _ _ ⟨(blk_cell (KB4.out.at HH_.out hHm) 0).trans rfl, (blk_cell (KB4.out.at HH_.out hHm) 1).trans rfl, (blk_cell (KB4.out.at HH_.out hHm) 2).trans rfl, (blk_cell (KB4.out.at HH_.out hHm) 3).trans rfl, (blk_cell (KB4.out.at HH_.out hHm) 4).trans rfl, (blk_cell (KB4.out.at HH_.out hHm) 5).trans rfl, (blk_cell (KB4.out.at PP_.out hPm) 0).trans rfl, (blk_cell (KB4.out.at BT_.out hBm) 0).trans rfl, (blk_cell (KB4.out.at GG_.out hGm) 0).trans rfl, (blk_cell (KB4.out.at GG_.out hGm) 1).trans rfl⟩ (fun hHeld => ?_)
 clear hK K
 refine zr 45 _ ?_
 refine zq 8 (fun K hK => ?_)
 have BX_ : Boxed v4 Bt 3 (.int .i64 best) := KB4.out.at BT_.out hBm
 have y0_ := BX_.cell
 have y1_ := BX_.frozen
 refine skip_ (w1 := v4.setCell ⟨Bt, 0, none⟩ (.int .i64 (min best (miss T R hs (p : Int) xa xb : Int)))) (by rfl) rfl ?hs ?_
 (case hs => first | (go_simp; done) | (go_simp; rfl))
 refine hK.out _ _ ?_
 clear hK K
 refine zd ?_
 exact ⟨rfl, v4, _, _, _, _, _, _, _, _, rfl, KB0_.out.trans KB4.out, rfl⟩
end Go.Proofs.YtagkfkdoibnhfaaDoor.K
end
section
namespace Go.Proofs.YtagkfkdoibnhfaaDoor.K
open Go.RowKit Go.Shelf Go.Proofs.YtagkfkdoibnhfaaDoorW.PrintWords Go.Proofs.YtagkfkdoibnhfaaDoorW.PrintLast Go.Proofs.YtagkfkdoibnhfaaDoorW.PrintMore Go.Proofs.YtagkfkdoibnhfaaDoor.H
set_option linter.unusedVariables false
set_option linter.unusedSimpArgs false
attribute [local go_sem] Oper.semAt_some
def leastTo (T O : Int) (R : List S66) (hs : List S60) (k : Nat) : Int := ((List.range k).map fun i : Nat => leastAt T O R hs (i : Int)).sum
theorem leastTo_succ (T O : Int) (R : List S66) (hs : List S60) (k : Nat) : leastTo T O R hs (k + 1) = leastTo T O R hs k + leastAt T O R hs (k : Int) := by
 unfold leastTo
 rw [List.range_succ, List.map_append, List.sum_append]
 simp
theorem leastTo_all (T O L : Int) (R : List S66) (hs : List S60) (n : Nat) (h : L / 2 = (n : Int)) : leastTo T O R hs n = leastOf T O L R hs := by
 unfold leastTo leastOf irange
 rw [h, show ((n : Int) - 1 + 1 - 0).toNat = n from by omega, List.map_map]
 congr 1
 exact List.map_congr_left fun i _ => by simp
def bestOf (T : Int) (R : List S66) (hs : List S60) (p : Nat) (pre : List (Int × Int)) : Int := pre.foldl (fun n x => min n (miss T R hs (p : Int) x.1 x.2 : Int)) (miss T R hs (p : Int) 0 0 : Int)
theorem bestOf_snoc (T : Int) (R : List S66) (hs : List S60) (p : Nat) (pre : List (Int × Int)) (x : Int × Int) : bestOf T R hs p (pre ++ [x]) = min (bestOf T R hs p pre) (miss T R hs (p : Int) x.1 x.2 : Int) := by
 unfold bestOf
 rw [List.foldl_append]
 rfl
theorem fold_range (f : Int × Int → Int) (hf : ∀ x, 0 ≤ f x) : ∀ (l : List (Int × Int)) (b : Int), 0 ≤ b → b ≤ 20 → 0 ≤ l.foldl (fun n x => min n (f x)) b ∧ l.foldl (fun n x => min n (f x)) b ≤ 20
 | [], b, h0, h1 => ⟨h0, h1⟩
 | x :: l, b, h0, h1 => by
  have := hf x
  exact fold_range f hf l (min b (f x)) (by omega) (by omega)
theorem bestOf_range (T : Int) (R : List S66) (hs : List S60) (p : Nat) (h : hs.length ≤ 5) (pre : List (Int × Int)) : 0 ≤ bestOf T R hs p pre ∧ bestOf T R hs p pre ≤ 20 := by
 have hm : (miss T R hs (p : Int) 0 0 : Int) ≤ 20 := by
  have := missUpto_le T R hs p 0 0 hs.length (Nat.le_refl _)
  rw [missUpto_all] at this
  omega
 exact fold_range (fun x => (miss T R hs (p : Int) x.1 x.2 : Int)) (fun x => Int.natCast_nonneg _) pre _ (Int.natCast_nonneg _) hm
theorem leastTo_range (T O : Int) (R : List S66) (hs : List S60) (h : hs.length ≤ 5) : ∀ k, 0 ≤ leastTo T O R hs k ∧ leastTo T O R hs k ≤ 20 * (k : Int)
 | 0 => by simp [leastTo]
 | k + 1 => by
  have ih := leastTo_range T O R hs h k
  have hb : 0 ≤ leastAt T O R hs (k : Int) ∧ leastAt T O R hs (k : Int) ≤ 20 := bestOf_range T R hs k h (pairsOf (T * O))
  rw [leastTo_succ]
  omega
set_option maxRecDepth 100000 in
set_option maxHeartbeats 4000000 in
theorem least_good (T O L : Int) (A : Option Addr) (R : List S66) (c : Nat) (A1 : Option Addr) (c1 : Nat) (hs : List S60) (w : World) (hR : Kd.C k66 w A R.length R) (hc : R.length ≤ c) (hl : Kd.C k60 w A1 hs.length hs) (hG : Glob w)
  (h1 : okScale T O L R = true) (h2 : okHeard L R hs = true) :
  Calls Tryd.prog 31 #[.agg #[.int .i64 T, .int .i64 O, .int .i64 L, .slice A R.length c], .slice A1 hs.length c1] w fun e w' => e = .returned (.tuple #[.int .i64 (leastOf T O L R hs), .int .i64 0]) ∧ Below w.heap.size w w' := by
 have hu24 := Tryd.underlying24
 have hu78 := Tryd.underlying78
 have hu92 := Tryd.underlying92
 have HB0 := zh (below_alloc (Below.refl w.heap.size w) (.cells #[.int .i64 T, .int .i64 O, .int .i64 L, .slice A R.length c] 24))
 have HR := zh (Kd.C_below hR HB0.out)
 have HL := zh (Kd.C_below hl HB0.out)
 have HG := zh (hG.below HB0.out)
 have HL0 := zh hl
 have HR0 := zh hR
 have HG0 := zh hG
 have HOK := zh h1
 have HOH := zh h2
 obtain ⟨t1, t2, t3, t4, t5, t6, _, _, t9, _⟩ := okScale_regs h1
 have mr := mul_range t1 t2 t3 t4
 obtain ⟨N, hN⟩ : ∃ N : Nat, T * O = (N : Int) := Int.eq_ofNat_of_zero_le (by omega)
 obtain ⟨n, hn⟩ : ∃ n : Nat, L / 2 = (n : Int) := Int.eq_ofNat_of_zero_le (by omega)
 have hN' : N ≤ 100 := by omega
 clear hR hl hG h1 h2 t1 t2 t3 t4 t9
 refine (callsIn_wide (n := 9)).1 ?_
 refine callsIn_of_wp_marks Tryd.func31 rfl trivial ?_ rfl
 simp only [Tryd.ntmps31, List.size_toArray, List.length_cons, List.length_nil, Nat.reduceAdd, Nat.reduceSub, Array.replicate_succ, Array.replicate_zero, List.push_toArray, List.append_toArray, List.nil_append, List.cons_append]
 gi_wp2_with (refine ⟨trivial, ?_⟩; (gi_at_call 62; refine (callsIn_wide.2 (listened_calls T O L A R c A1 c1 hs _ HR.out hc HL.out HG.out)).mono ?_; rintro e w1 hp; obtain ⟨m, rfl, hx⟩ := hp.good HOK.out HOH.out; have X1 := zh (hx.elder HB0.out HR0.out HG0.out); have KB1 := zh (KB.alloc T R m w1 (.cells #[.int .i64 T, .int .i64 O, .int .i64 L, .slice A R.length c, .map (some m), .slice A1 hs.length c1] 92)); have B1 := zh (alloc_at w1 (.cells #[.int .i64 T, .int .i64 O, .int .i64 L, .slice A R.length c, .map (some m), .slice A1 hs.length c1] 92) w1.heap.size rfl); clear hp hx; have q2 : (w1.alloc (.cells #[.int .i64 T, .int .i64 O, .int .i64 L, .slice A R.length c, .map (some m), .slice A1 hs.length c1] 92)).cell? ⟨w1.heap.size, 2, none⟩ = some (.int .i64 L) := vb B1 2))
 rw [hn]
 have hw2 := X1.out.memo.lt
 obtain ⟨w2, hw2e⟩ : ∃ w2, w1.alloc (.cells #[.int .i64 T, .int .i64 O, .int .i64 L, .slice A R.length c, .map (some m), .slice A1 hs.length c1] 92) = w2 := ⟨_, rfl⟩
 simp only [hw2e] at KB1 B1 ⊢
 clear hw2e q2
 have X2 := zh (KB1.out.ctx X1.out)
 have hmw2 : m < w2.heap.size := X2.out.memo.lt
 have hw1m : w1.heap.size ≠ m := by omega
 have h5 := (okHeard_get HOH.out).1
 refine wpIn_loop (fun a' wr => ∃ (k : Nat) (ds : List Deferred) (u9 u10 u11 u27 u28 u29 u30 u31 u32 u33 u34 u35 u36 u37 u38 u39 u40 u41 u42 u43 u44 u45 u46 u47 u48 u49 : Value), k ≤ n ∧ a' = { tmps := #[.agg #[.int .i64 T, .int .i64 O, .int .i64 L, .slice A R.length c], .slice A1 hs.length c1, .pointer (some ⟨w.heap.size, 0, none⟩), undef, .int .i64 0, .int .i64 0, .pointer (some ⟨w1.heap.size, 0, none⟩), .int .i64 0, .int .i64 (leastTo T O R hs k), u9, u10, u11, .tuple #[.agg #[.int .i64 T, .int .i64 O, .int .i64 L, .slice A R.length c, .map (some m), .slice A1 hs.length c1], .int .i64 0], .agg #[.int .i64 T, .int .i64 O, .int .i64 L, .slice A R.length c], .slice A1 hs.length c1, .tuple #[.agg #[.int .i64 T, .int .i64 O, .int .i64 L, .slice A R.length c, .map (some m), .slice A1 hs.length c1], .int .i64 0], .agg #[.int .i64 T, .int .i64 O, .int .i64 L, .slice A R.length c, .map (some m), .slice A1 hs.length c1], .int .i64 0, .int .i64 0, .bool false, undef, .pointer (some ⟨w1.heap.size, 0, none⟩), .pointer (some ⟨w1.heap.size, 0, none⟩), .pointer (some ⟨w1.heap.size, 2, none⟩), .int .i64 L, .int .i64 (n : Int), .int .i64 (k : Int), u27, u28, u29, u30, u31, u32, u33, u34, u35, u36, u37, u38, u39, u40, u41, u42, u43, u44, u45, u46, u47, u48, u49, undef], defers := ds } ∧ Marks w2.heap.size ds wr ∧ KB T R m w2 wr) (fun a' _ => n - (intOf (a'.tmps.getD 26 undef)).toNat) ?atStart ?round
 case atStart => exact ⟨0, [], undef, undef, undef, undef, undef, undef, undef, undef, undef, undef, undef, undef, undef, undef, undef, undef, undef, undef, undef, undef, undef, undef, undef, undef, undef, undef, Nat.zero_le _, rfl, trivial, KB.refl _ _ _ _⟩
 case round =>
  rintro a' wr ⟨k, ds, u9, u10, u11, u27, u28, u29, u30, u31, u32, u33, u34, u35, u36, u37, u38, u39, u40, u41, u42, u43, u44, u45, u46, u47, u48, u49, hk, rfl, hM, hK⟩
  have HM := zh hM
  have HK := zh hK
  clear hM hK
  by_cases hlt : k < n
  ·have hlt' : (k : Int) < (n : Int) := by omega
   have Br := zh (HK.out.at B1.out hw1m)
   have KP := zh (HK.out.trans (KB.alloc T R m wr (.cells #[.int .i64 (k : Int)] 3)))
   have P1 := zh (alloc_at wr (.cells #[.int .i64 (k : Int)] 3) wr.heap.size rfl)
   have Br1 := zh (blk_alloc Br.out (.cells #[.int .i64 (k : Int)] 3))
   gi_wp2
   refine wpIn_mono (wpIn_wide.2 (least_first T O L A R c m A1 c1 hs k w1.heap.size wr.heap.size w _ (KP.out.ctx X2.out) HL0.out HOH.out t5 t6 (by omega) Br1.out P1.out _ _ _ _ _ _ _ _ _ _ _ _ _ _ _ _ _ _ _ _ _ _ _ _ _ _ _ _ _ _ _ _ _ _ _ _ _ _ _ _ _ _ _ _ _ _ _ _ _ ds)) ?_
   rintro e a' w3 ⟨rfl, g, v29, v30, v31, v32, v33, rfl, hk3, hb3, hg3⟩
   obtain ⟨wo, hwo⟩ : ∃ wo, wo = wr := ⟨_, rfl⟩
   subst hwo
   have K3 := zh (KP.out.trans hk3)
   have K3w := zh ((KB.alloc T R m wo (.cells #[.int .i64 (k : Int)] 3)).trans hk3)
   have BX3 := zh hb3
   have B3 := zh (hk3.at Br1.out hw1m)
   have hks := HK.out.kp.size
   have P3 := zh (hk3.at P1.out (by omega))
   have hgs : wo.heap.size + 1 ≤ g := by simpa using hg3
   have hs3 : wo.heap.size + 1 ≤ w3.heap.size := by have := hk3.kp.size; simpa using this
   have hg3' := BX3.out.lt
   clear hk3 hb3
   have z0 : w3.cell? ⟨w1.heap.size, 0, none⟩ = some (.int .i64 T) := vb B3 0
   have z1 : w3.cell? ⟨w1.heap.size, 1, none⟩ = some (.int .i64 O) := vb B3 1
   have z2 : w3.cell? ⟨w1.heap.size, 2, none⟩ = some (.int .i64 L) := vb B3 2
   have z3 : w3.cell? ⟨w1.heap.size, 3, none⟩ = some (.slice A R.length c) := vb B3 3
   have z4 : w3.cell? ⟨w1.heap.size, 4, none⟩ = some (.map (some m)) := vb B3 4
   gi_wp2_with (refine ⟨trivial, ?_⟩; gi_at_call 75; refine (callsIn_any _ (all_calls T O L A R.length c m _)).mono ?_; rintro e w' ⟨rfl, rfl⟩)
   clear z0 z1 z2 z3 z4
   have K1 := zh (KB.alloc T R m w3 (.cells #[.int .i64 T, .int .i64 O, .int .i64 L, .slice A R.length c, .map (some m)] 78))
   have b78 := zh (alloc_at w3 (.cells #[.int .i64 T, .int .i64 O, .int .i64 L, .slice A R.length c, .map (some m)] 78) w3.heap.size rfl)
   have hsz : (w3.alloc (.cells #[.int .i64 T, .int .i64 O, .int .i64 L, .slice A R.length c, .map (some m)] 78)).heap.size = w3.heap.size + 1 := by simp
   obtain ⟨W0, hW0⟩ : ∃ W0, w3.alloc (.cells #[.int .i64 T, .int .i64 O, .int .i64 L, .slice A R.length c, .map (some m)] 78) = W0 := ⟨_, rfl⟩
   simp only [hW0] at K1 b78 hsz ⊢
   clear hW0
   have X0 := zh ((K3.out.trans K1.out).ctx X2.out)
   have hxb := X2.out.base.size
   have hlt1 := blk_lt B1.out
   refine wpIn_range (n := 9) (by omega) (gf := 88) (lb := #[.pointer (some ⟨w3.heap.size, 0, none⟩)]) rfl (enters_of Tryd.func88 zk rfl)
    (all_seq T O L A R c m w3.heap.size N (fun i => i < W0.heap.size ∧ i ≠ g) W0 b78.out ⟨by omega, by omega⟩ (by omega) hN hN') (fun i hi => hi.1) (by omega) (fun _ => rfl)
    (fun pre Wx => KR T R m (fun i => i < W0.heap.size ∧ i ≠ g) W0 Wx ∧ Boxed Wx g 3 (.int .i64 (bestOf T R hs k pre)))
    (fun _ _ _ => False)
    (fun s X Y h hk => ⟨h.1.weak hk (fun i hi _ => hi.1), hk.box h.2 (by omega)⟩)
    (fun c s X Y h hk => h)
    ⟨KR.refl _ _ _ _ _, K1.out.box BX3.out (by omega)⟩
    (fun x a' Wx => ∃ gp, gp ≠ m ∧ Wx.heap[gp]? = some (.cells #[.int .i64 x.1, .int .i64 x.2] 84 (0, 0)) ∧ a' = { tmps := #[.agg #[.int .i64 T, .int .i64 O, .int .i64 L, .slice A R.length c], .slice A1 hs.length c1, .pointer (some ⟨w.heap.size, 0, none⟩), undef, .int .i64 0, .int .i64 0, .pointer (some ⟨w1.heap.size, 0, none⟩), .int .i64 0, .int .i64 (leastTo T O R hs k), .pointer (some ⟨wo.heap.size, 0, none⟩), .pointer (some ⟨g, 0, none⟩), .pointer (some ⟨gp, 0, none⟩), .tuple #[.agg #[.int .i64 T, .int .i64 O, .int .i64 L, .slice A R.length c, .map (some m), .slice A1 hs.length c1], .int .i64 0], .agg #[.int .i64 T, .int .i64 O, .int .i64 L, .slice A R.length c], .slice A1 hs.length c1, .tuple #[.agg #[.int .i64 T, .int .i64 O, .int .i64 L, .slice A R.length c, .map (some m), .slice A1 hs.length c1], .int .i64 0], .agg #[.int .i64 T, .int .i64 O, .int .i64 L, .slice A R.length c, .map (some m), .slice A1 hs.length c1], .int .i64 0, .int .i64 0, .bool false, undef, .pointer (some ⟨w1.heap.size, 0, none⟩), .pointer (some ⟨w1.heap.size, 0, none⟩), .pointer (some ⟨w1.heap.size, 2, none⟩), .int .i64 L, .int .i64 (n : Int), .int .i64 (k : Int), .bool true, .int .i64 (k : Int), v29, v30, v31, v32, v33, .pointer (some ⟨w1.heap.size, 0, none⟩), .agg #[.int .i64 T, .int .i64 O, .int .i64 L, .slice A R.length c, .map (some m)], .func (.func 88) #[] #[.pointer (some ⟨w3.heap.size, 0, none⟩)], .agg #[.int .i64 x.1, .int .i64 x.2], u38, u39, u40, u41, u42, u43, u44, u45, u46, u47, u48, u49, undef], defers := [] })
    (fun x a' X Y h hk => by obtain ⟨gp, h1, h2, h3⟩ := h; exact ⟨gp, h1, hk.cells h2 h1, h3⟩)
    ?assign ?body ?done ?stop
   case assign =>
    rintro l2 pre x Wx K ⟨hI1, hI2⟩ hK
    dsimp only [encP]
    gi_wp2
    exact hK _ _ ((KeepsOthers.alloc _ _).from _) ((KB.alloc T R m Wx _).round _) ⟨hI1.step (KB.alloc T R m Wx _), (KB.alloc T R m Wx _).box hI2 (by omega)⟩ ⟨Wx.heap.size, by have := hI1.size; omega, heap_alloc_new Wx _, rfl⟩
   case body =>
    rintro l2 pre ⟨xa, xb⟩ a' Wx hl2 hok hpre ⟨hK1, hb1⟩ ⟨gp, hgm, hgp, rfl⟩
    obtain ⟨oa, oa', ob, ob'⟩ := hok
    dsimp only at oa oa' ob ob' hgp ⊢
    have HKx := zh hK1
    have Hx := zh (hK1.at (K1.out.at B3.out hw1m) ⟨by omega, by omega⟩ hw1m)
    have Px := zh (hK1.at (K1.out.at P3.out (by omega)) ⟨by omega, by omega⟩ (by omega))
    have Xx := zh (hK1.ctx X0.out (fun i hi => ⟨by omega, by omega⟩))
    have Bx := zh hb1
    have Gx := zh hgp
    clear hK1 hb1 hgp
    gi_wp2
    refine wpIn_mono (least_round T O L A R c m A1 c1 hs k w1.heap.size wo.heap.size g gp l2 _ (bestOf T R hs k pre) xa xb w Wx Xx.out HL0.out HOH.out t5 t6 (by omega) oa (by omega) ob (by omega) Hx.out Px.out Bx.out Gx.out _ _ _ _ _ _ _ _ _ _ _ _ _ _ _ _ _ _ _ _ _ _ _ _ _ _ _ _ _ _ _ _ _ _ _ _ _ _ _ _ _ _ _ _ _ _ _ []) ?_
    rintro e a' w5 ⟨rfl, w6, q38, q39, q40, q41, q42, q43, q44, q45, rfl, hk6, rfl⟩
    have HK6 := zh hk6
    have HB6 := zh (hk6.box Bx.out (by omega))
    clear hk6
    gi_wp2
    exact ⟨((HK6.out.round (fun _ => True)).keeps (fun _ _ _ => trivial) (by omega)).trans ((KeepsOthers.setCell _ _ _).from _), (HK6.out.round _).set (.inl dQ15) (by omega) 0 _, (HKx.out.step HK6.out).set (.inl (fun h => h.2 rfl)) (by omega) 0 _, by rw [bestOf_snoc]; exact HB6.out.set _⟩
   case done =>
    rintro D Wx hD ⟨hK1, hb1⟩ hKd
    have HKx := zh hK1
    have HD := zh hKd
    have eb : bestOf T R hs k (pairsOf (N : Int)) = leastAt T O R hs (k : Int) := by unfold bestOf leastAt; rw [hN]
    rw [eb] at hb1
    have y0 := hb1.cell
    have hlr := leastTo_range T O R hs h5 k
    have hbr := bestOf_range T R hs k h5 (pairsOf (N : Int))
    rw [eb] at hbr
    have HS := zh (leastTo_succ T O R hs k)
    have hn8 : n ≤ 8 := by omega
    clear hK1 hb1 hKd eb
    gi_wp2
    have hmark : ∀ D', w2.heap.size ≤ D' → wo.heap[D']? = some (.deferred (some [])) → Wx.heap[D']? = some (.deferred (some [])) := fun D' h1 h2 => by
     have h3 := blk_lt h2
     exact HKx.out.at (K1.out.at (K3w.out.at h2 (by omega)) (by omega)) ⟨by omega, by omega⟩ (by omega)
    have hfresh : ∀ e ∈ ds, e ≠ ({ target := .collected D, args := #[] } : Deferred) := fun e he hed => by
     obtain ⟨D', rfl, h1, h2⟩ := HM.out.mem he
     have h3 := blk_lt h2
     injection hed with h4 _
     injection h4 with h5
     omega
    exact ⟨⟨k + 1, { target := .collected D, args := #[] } :: ds, _, _, _, _, _, _, _, _, _, _, _, _, _, _, _, _, _, _, _, _, _, _, _, _, _, _, by omega, by rw [HS.out]; rfl, ⟨⟨D, rfl, by omega, HD.out, hfresh⟩, HM.out.keep (fun D' h1 h2 _ => hmark D' h1 h2)⟩, (KR.kbs (K3.out.trans K1.out) HKx.out (fun i hi => ⟨by omega, by omega⟩))⟩, by simp [intOf]; omega⟩
   case stop =>
    rintro D c pre Wx hD hpre h hKd
    exact h.elim
  ·obtain rfl : k = n := by omega
   have hlt' : ¬ (k : Int) < (k : Int) := by omega
   gi_wp2
   refine leave_marks (T := T) (R := R) hmw2 ds _ HM.out (fun w' hkm => ?_)
   exact ⟨_, results_tmp2 rfl _ _ _, by rw [leastTo_all T O L R hs k hn]; rfl, by
    have hb := (HK.out.ctx X2.out).base
    have h2 := X2.out.base.size
    exact ⟨hkm.os.trans hb.os, hkm.tape.trans hb.tape, hkm.output.trans hb.output, Nat.le_trans hb.size hkm.size, fun i hi => by
     have e := hb.block i hi
     obtain ⟨o, ho⟩ : ∃ o, w.heap[i]? = some o := ⟨_, Array.getElem?_eq_getElem hi⟩
     rw [ho] at e ⊢
     exact hkm.block i o e (by have := X1.out.hm; omega) (.inl (by omega))⟩⟩
end Go.Proofs.YtagkfkdoibnhfaaDoor.K
end
section
namespace Go.Proofs.YtagkfkdoibnhfaaDoor.K
open Go.RowKit Go.Shelf Go.Proofs.YtagkfkdoibnhfaaDoorW.PrintWords Go.Proofs.YtagkfkdoibnhfaaDoorW.PrintLast Go.Proofs.YtagkfkdoibnhfaaDoorW.PrintMore Go.Proofs.YtagkfkdoibnhfaaDoor.H
set_option linter.unusedVariables false
set_option linter.unusedSimpArgs false
set_option maxRecDepth 100000 in
set_option maxHeartbeats 4000000 in
theorem filled_bad (T O L : Int) (A : Option Addr) (R : List S66) (c : Nat) (A1 : Option Addr) (c1 : Nat) (hs : List S60) (w : World) (hR : Kd.C k66 w A R.length R) (hc : R.length ≤ c) (hl : Kd.C k60 w A1 hs.length hs) (hG : Glob w) (he : askedErr T O L R hs true ≠ 0) :
  Calls Tryd.prog 28 #[.agg #[.int .i64 T, .int .i64 O, .int .i64 L, .slice A R.length c], .slice A1 hs.length c1] w fun e w' => e = .returned (.tuple #[.slice none 0 0, .int .i64 (askedErr T O L R hs true)]) ∧ Below w.heap.size w w' := by
 have hu24 := Tryd.underlying24
 have hu92 := Tryd.underlying92
 have HB0 := zh (below_alloc (Below.refl w.heap.size w) (.cells #[.int .i64 T, .int .i64 O, .int .i64 L, .slice A R.length c] 24))
 have HR := zh (Kd.C_below hR HB0.out)
 have HL := zh (Kd.C_below hl HB0.out)
 have HG := zh (hG.below HB0.out)
 have HE := zh he
 have hx' : (askedErr T O L R hs true == 0) = false := beq_eq_false_iff_ne.2 he
 have hx'' : (askedErr T O L R hs true != 0) = true := bne_iff_ne.2 he
 clear hR hl hG he
 go_enter Tryd.func28, Tryd.ntmps28
 go_wp2_with (first | (go_at_call 68; (with_reducible refine (asked_always_calls T O L A R c A1 c1 hs _ HR.out hc HL.out HG.out).mono ?_); rintro e w1 hp; obtain ⟨rfl, hb1⟩ := hp.1 HE.out; have HB1 := zh (HB0.out.trans (hb1.mono (by simp; try omega))); clear hp hb1))
 go_ret2
 exact ⟨rfl, below_alloc HB1.out _⟩
set_option maxRecDepth 100000 in
set_option maxHeartbeats 4000000 in
theorem canat_bad (T O L : Int) (A : Option Addr) (R : List S66) (c : Nat) (A1 : Option Addr) (c1 : Nat) (hs : List S60) (place : Int) (w : World) (hR : Kd.C k66 w A R.length R) (hc : R.length ≤ c) (hl : Kd.C k60 w A1 hs.length hs) (hG : Glob w) (he : askedErr T O L R hs (decide (0 ≤ place) && decide (place < L)) ≠ 0) :
  Calls Tryd.prog 24 #[.agg #[.int .i64 T, .int .i64 O, .int .i64 L, .slice A R.length c], .slice A1 hs.length c1, .int .i64 place] w fun e w' => e = .returned (.tuple #[.slice none 0 0, .int .i64 (askedErr T O L R hs (decide (0 ≤ place) && decide (place < L)))]) ∧ Below w.heap.size w w' := by
 have hu24 := Tryd.underlying24
 have hu92 := Tryd.underlying92
 have HB0 := zh (below_alloc (below_alloc (Below.refl w.heap.size w) (.cells #[.int .i64 T, .int .i64 O, .int .i64 L, .slice A R.length c] 24)) (.cells #[.int .i64 place] 3))
 have HR := zh (Kd.C_below hR HB0.out)
 have HL := zh (Kd.C_below hl HB0.out)
 have HG := zh (hG.below HB0.out)
 have HE := zh he
 have hx' : (askedErr T O L R hs (decide (0 ≤ place) && decide (place < L)) == 0) = false := beq_eq_false_iff_ne.2 he
 have hx'' : (askedErr T O L R hs (decide (0 ≤ place) && decide (place < L)) != 0) = true := bne_iff_ne.2 he
 clear hR hl hG he
 go_enter Tryd.func24, Tryd.ntmps24
 go_wp2_with (first | (go_at_call 68; (with_reducible refine (asked_at_calls T O L A R c A1 c1 hs _ place (w.heap.size + 1) (alloc_at _ _ _ (by simp)) HR.out hc HL.out HG.out).mono ?_); rintro e w1 hp; obtain ⟨rfl, hb1⟩ := hp.1 HE.out; have HB1 := zh (HB0.out.trans (hb1.mono (by simp; try omega))); clear hp hb1))
 go_ret2
 exact ⟨rfl, below_alloc HB1.out _⟩
end Go.Proofs.YtagkfkdoibnhfaaDoor.K
end
section
namespace Go.Proofs.YtagkfkdoibnhfaaDoor.K
open Go.RowKit Go.Shelf Go.Proofs.YtagkfkdoibnhfaaDoorW.PrintWords Go.Proofs.YtagkfkdoibnhfaaDoorW.PrintLast Go.Proofs.YtagkfkdoibnhfaaDoorW.PrintMore Go.Proofs.YtagkfkdoibnhfaaDoor.H
set_option linter.unusedVariables false
set_option linter.unusedSimpArgs false
attribute [local go_sem] Oper.semAt_some
theorem KB.grown {T : Int} {R : List S66} {m : Nat} {A B C : World} {row : Option Nat} (h : KB T R m A B) (hg : B.grownBy C row) (hr : ∀ k, row = some k → A.heap.size ≤ k) (hm : row ≠ some m) (hmB : m < B.heap.size) : KB T R m A C :=
 ⟨⟨hg.os.trans h.kp.os, hg.tape.trans h.kp.tape, hg.output.trans h.kp.output, Nat.le_trans h.kp.size hg.size, fun i hi hne => (hg.block i (Nat.lt_of_lt_of_le hi h.kp.size) (fun e => absurd (hr i e.symm) (by omega))).trans (h.kp.block i hi hne)⟩,
  fun x => (h.memo x).move (hg.block m hmB (fun e => hm e.symm))⟩
theorem KB.set {T : Int} {R : List S66} {m : Nat} {A B : World} (h : KB T R m A B) {g : Nat} (hg : A.heap.size ≤ g) (hm : m ≠ g) (j : Nat) (v : Value) : KB T R m A (B.setCell ⟨g, j, none⟩ v) :=
 ⟨h.kp.set hg j v, fun x => (h.memo x).move (Below.heap_setCell B ⟨g, j, none⟩ v m hm)⟩
theorem KB.ctx' {T : Int} {A : Option Addr} {R : List S66} {m : Nat} {w0 w W : World} (h : KB T R m w W) (hx : Ctx w0 w T A R m) : Ctx w0 W T A R m := hx.step h.kp (h.memo hx.memo)
def cells8 (l : List Int) (k : Nat) : Array Value := #[.int .i64 (if 0 < k then l.getD 0 0 else 0), .int .i64 (if 1 < k then l.getD 1 0 else 0), .int .i64 (if 2 < k then l.getD 2 0 else 0), .int .i64 (if 3 < k then l.getD 3 0 else 0), .int .i64 (if 4 < k then l.getD 4 0 else 0), .int .i64 (if 5 < k then l.getD 5 0 else 0), .int .i64 (if 6 < k then l.getD 6 0 else 0), .int .i64 (if 7 < k then l.getD 7 0 else 0)]
theorem cells8_zero (l : List Int) : cells8 l 0 = #[.int .i64 0, .int .i64 0, .int .i64 0, .int .i64 0, .int .i64 0, .int .i64 0, .int .i64 0, .int .i64 0] := rfl
theorem cells8_at (l : List Int) (k : Nat) (h : k < 8) : (cells8 l k)[k]? = some (.int .i64 0) := by
 rcases (by omega : k = 0 ∨ k = 1 ∨ k = 2 ∨ k = 3 ∨ k = 4 ∨ k = 5 ∨ k = 6 ∨ k = 7) with rfl | rfl | rfl | rfl | rfl | rfl | rfl | rfl <;> rfl
theorem cells8_set (l : List Int) (k : Nat) (h : k < 8) : (cells8 l k).setIfInBounds k (.int .i64 (l.getD k 0)) = cells8 l (k + 1) := by
 rcases (by omega : k = 0 ∨ k = 1 ∨ k = 2 ∨ k = 3 ∨ k = 4 ∨ k = 5 ∨ k = 6 ∨ k = 7) with rfl | rfl | rfl | rfl | rfl | rfl | rfl | rfl <;> rfl
def enc8 (l : List Int) : Value := .agg #[.int .i64 (l.getD 0 0), .int .i64 (l.getD 1 0), .int .i64 (l.getD 2 0), .int .i64 (l.getD 3 0), .int .i64 (l.getD 4 0), .int .i64 (l.getD 5 0), .int .i64 (l.getD 6 0), .int .i64 (l.getD 7 0)]
theorem cells8_all (l : List Int) (h : l.length ≤ 8) : cells8 l l.length = #[.int .i64 (l.getD 0 0), .int .i64 (l.getD 1 0), .int .i64 (l.getD 2 0), .int .i64 (l.getD 3 0), .int .i64 (l.getD 4 0), .int .i64 (l.getD 5 0), .int .i64 (l.getD 6 0), .int .i64 (l.getD 7 0)] := by
 have e : ∀ i : Nat, (if i < l.length then l.getD i 0 else 0) = l.getD i 0 := fun i => by
  split
  ·rfl
  ·rw [List.getD_eq_getElem?_getD, List.getElem?_eq_none (by omega)]; rfl
 unfold cells8
 rw [e 0, e 1, e 2, e 3, e 4, e 5, e 6, e 7]
theorem cells8_some (l : List Int) (h : l.length ≤ 8) : ∃ x0 x1 x2 x3 x4 x5 x6 x7 : Int, cells8 l l.length = #[.int .i64 x0, .int .i64 x1, .int .i64 x2, .int .i64 x3, .int .i64 x4, .int .i64 x5, .int .i64 x6, .int .i64 x7] ∧ enc8 l = .agg #[.int .i64 x0, .int .i64 x1, .int .i64 x2, .int .i64 x3, .int .i64 x4, .int .i64 x5, .int .i64 x6, .int .i64 x7] :=
 ⟨_, _, _, _, _, _, _, _, cells8_all l h, rfl⟩
def fBoth.T2 : Bool × List (List Nat × List Nat) := (true, [([], []), ([], []), ([], []), ([0, 1, 2], [0, 1, 2]), ([], []), ([], []), ([], []), ([4, 5, 6, 3], [4, 5, 6]), ([3, 7, 7], [3, 7]), ([8], [8]), ([], [])])
def fBoth.B2 : List Nat := [0, 0, 0, 7, 0, 0, 0, 127, 255, 511, 0]
theorem fBoth.tab2 : rtab .any (opsOf Tryd.f89 2) = fBoth.T2 := by kernel_rfl
theorem fBoth.bits2 : waitsOk fBoth.T2.2 fBoth.B2 = true := by kernel_rfl
set_option maxRecDepth 100000 in
set_option maxHeartbeats 4000000 in
theorem both_calls (T O L one other a b : Int) (A : Option Addr) (R : List S66) (c m : Nat) (w0 W : World) (hx : Ctx w0 W T A R m) (r0 : 0 ≤ one) (r1 : one < R.length) (q0 : 0 ≤ other) (q1 : other < R.length) (ha : 0 ≤ a) (ha' : a ≤ 100) (hb : 0 ≤ b) (hb' : b ≤ 100) :
  Calls Tryd.prog 89 #[.agg #[.int .i64 T, .int .i64 O, .int .i64 L, .slice A R.length c, .map (some m)], .int .i64 one, .int .i64 other, .agg #[.int .i64 a, .int .i64 b]] W fun e W' => e = .returned (enc8 (both T R one other (a, b))) ∧ KB T R m W W' := by
 have hu24 := Tryd.underlying24
 have hu78 := Tryd.underlying78
 have hu84 := Tryd.underlying84
 have hu126 := Tryd.underlying126
 have hu124 := Tryd.underlying124
 have hl1 := strokes_len T R one a b
 have hl2 := strokes_len T R other a b
 have X := zh hx
 have hmW := hx.memo.lt
 have KA := zh ((((KB.alloc T R m W (.cells #[.int .i64 T, .int .i64 O, .int .i64 L, .slice A R.length c, .map (some m)] 78)).trans (KB.alloc T R m _ (.cells #[.int .i64 a, .int .i64 b] 84))).trans (KB.alloc T R m _ (.cells #[.int .i64 0, .int .i64 0, .int .i64 0, .int .i64 0, .int .i64 0, .int .i64 0, .int .i64 0, .int .i64 0] 126))).trans (KB.alloc T R m _ (.cells #[.int .i64 0, .int .i64 0, .int .i64 0, .int .i64 0, .int .i64 0, .int .i64 0, .int .i64 0, .int .i64 0] 126)))
 have P2 := zh (blk_alloc (blk_alloc (blk_alloc (alloc_at W (.cells #[.int .i64 T, .int .i64 O, .int .i64 L, .slice A R.length c, .map (some m)] 78) W.heap.size rfl) (.cells #[.int .i64 a, .int .i64 b] 84)) (.cells #[.int .i64 0, .int .i64 0, .int .i64 0, .int .i64 0, .int .i64 0, .int .i64 0, .int .i64 0, .int .i64 0] 126)) (.cells #[.int .i64 0, .int .i64 0, .int .i64 0, .int .i64 0, .int .i64 0, .int .i64 0, .int .i64 0, .int .i64 0] 126))
 have Q2 := zh (blk_alloc (blk_alloc (alloc_at (W.alloc (.cells #[.int .i64 T, .int .i64 O, .int .i64 L, .slice A R.length c, .map (some m)] 78)) (.cells #[.int .i64 a, .int .i64 b] 84) (W.heap.size + 1) (by simp)) (.cells #[.int .i64 0, .int .i64 0, .int .i64 0, .int .i64 0, .int .i64 0, .int .i64 0, .int .i64 0, .int .i64 0] 126)) (.cells #[.int .i64 0, .int .i64 0, .int .i64 0, .int .i64 0, .int .i64 0, .int .i64 0, .int .i64 0, .int .i64 0] 126))
 have F2 := zh (blk_alloc (alloc_at ((W.alloc (.cells #[.int .i64 T, .int .i64 O, .int .i64 L, .slice A R.length c, .map (some m)] 78)).alloc (.cells #[.int .i64 a, .int .i64 b] 84)) (.cells #[.int .i64 0, .int .i64 0, .int .i64 0, .int .i64 0, .int .i64 0, .int .i64 0, .int .i64 0, .int .i64 0] 126) (W.heap.size + 1 + 1) (by simp)) (.cells #[.int .i64 0, .int .i64 0, .int .i64 0, .int .i64 0, .int .i64 0, .int .i64 0, .int .i64 0, .int .i64 0] 126))
 have G2 := zh (alloc_at (((W.alloc (.cells #[.int .i64 T, .int .i64 O, .int .i64 L, .slice A R.length c, .map (some m)] 78)).alloc (.cells #[.int .i64 a, .int .i64 b] 84)).alloc (.cells #[.int .i64 0, .int .i64 0, .int .i64 0, .int .i64 0, .int .i64 0, .int .i64 0, .int .i64 0, .int .i64 0] 126)) (.cells #[.int .i64 0, .int .i64 0, .int .i64 0, .int .i64 0, .int .i64 0, .int .i64 0, .int .i64 0, .int .i64 0] 126) (W.heap.size + 1 + 1 + 1) (by simp))
 have hz2 : ((((W.alloc (.cells #[.int .i64 T, .int .i64 O, .int .i64 L, .slice A R.length c, .map (some m)] 78)).alloc (.cells #[.int .i64 a, .int .i64 b] 84)).alloc (.cells #[.int .i64 0, .int .i64 0, .int .i64 0, .int .i64 0, .int .i64 0, .int .i64 0, .int .i64 0, .int .i64 0] 126)).alloc (.cells #[.int .i64 0, .int .i64 0, .int .i64 0, .int .i64 0, .int .i64 0, .int .i64 0, .int .i64 0, .int .i64 0] 126)).heap.size = W.heap.size + 4 := by simp
 clear hx
 go_enter Tryd.func89, Tryd.ntmps89
 go_wp2
 obtain ⟨W1, hW1⟩ : ∃ W1, ((((W.alloc (.cells #[.int .i64 T, .int .i64 O, .int .i64 L, .slice A R.length c, .map (some m)] 78)).alloc (.cells #[.int .i64 a, .int .i64 b] 84)).alloc (.cells #[.int .i64 0, .int .i64 0, .int .i64 0, .int .i64 0, .int .i64 0, .int .i64 0, .int .i64 0, .int .i64 0] 126)).alloc (.cells #[.int .i64 0, .int .i64 0, .int .i64 0, .int .i64 0, .int .i64 0, .int .i64 0, .int .i64 0, .int .i64 0] 126)) = W1 := ⟨_, rfl⟩
 simp only [hW1] at KA P2 Q2 F2 G2 hz2 ⊢
 clear hW1
 replace KA := zh (KA.out.trans (KB.of_below (T := T) (R := R) (m := m) (below_drew1 (Below.refl W1.heap.size W1))))
 replace P2 := zh (show W1.drew.heap[W.heap.size]? = _ from P2.out)
 replace Q2 := zh (show W1.drew.heap[W.heap.size + 1]? = _ from Q2.out)
 replace F2 := zh (show W1.drew.heap[W.heap.size + 1 + 1]? = _ from F2.out)
 replace G2 := zh (show W1.drew.heap[W.heap.size + 1 + 1 + 1]? = _ from G2.out)
 replace hz2 : W1.drew.heap.size = W.heap.size + 4 := hz2
 have X2 := zh (KA.out.ctx' X.out)
 have nP : W.heap.size ≠ m := by omega
 have nQ : W.heap.size + 1 ≠ m := by omega
 have nF : W.heap.size + 1 + 1 ≠ m := by omega
 have nG : W.heap.size + 1 + 1 + 1 ≠ m := by omega
 refine start_ (n := 11) (S := fun w' => w'.cell? ⟨W.heap.size, 0, none⟩ = some (.int .i64 T) ∧ w'.cell? ⟨W.heap.size, 1, none⟩ = some (.int .i64 O) ∧ w'.cell? ⟨W.heap.size, 2, none⟩ = some (.int .i64 L) ∧ w'.cell? ⟨W.heap.size, 3, none⟩ = some (.slice A R.length c) ∧ w'.cell? ⟨W.heap.size, 4, none⟩ = some (.map (some m)) ∧ w'.cell? ⟨W.heap.size + 1, 0, none⟩ = some (.int .i64 a) ∧ w'.cell? ⟨W.heap.size + 1, 1, none⟩ = some (.int .i64 b)) (ds := []) (Array.replicate 11 false) zk rfl rfl ⟨vb P2 0, vb P2 1, vb P2 2, vb P2 3, vb P2 4, vb Q2 0, vb Q2 1⟩ (fun hHeld => ?_)
 refine with_tabW fBoth.tab2 fBoth.bits2 (fun HT_ HW_ => ?_)
 generalize W1.drew = W2 at KA X2 P2 Q2 F2 G2 hz2 hHeld ⊢
 refine zu 1 ?_
 refine zu 5 ?_
 refine zu 10 ?_
 refine zt 0 ?_
 refine zt 2 ?_
 refine zt 4 ?_
 refine zt 6 ?_
 refine zo 3 (fun K hK => ?_)
 refine goes_ Tryd.func57 zk rfl #[.agg #[.int .i64 T, .int .i64 O, .int .i64 L, .slice A R.length c, .map (some m)], .int .i64 one, .agg #[.int .i64 a, .int .i64 b]] (by rfl) rfl rfl dQ5 ?_
 with_reducible refine (strokes_calls T O L one a b A R c m w0 _ X2.out r0 r1 ha ha' hb hb').mono ?_
 rintro e w3 ⟨v3, rfl, hs3, hm3, hk3⟩
 refine ⟨_, rfl, ?_⟩
 have K3 := zh (KB.mk hk3 (fun _ => hm3))
 have HO3 := zh hs3
 clear hs3 hm3 hk3
 have X3 := zh (K3.out.ctx' X2.out)
 have hz3 := K3.out.kp.size
 refine hK.out _ _ ⟨(blk_cell (K3.out.at P2.out nP) 0).trans rfl, (blk_cell (K3.out.at P2.out nP) 1).trans rfl, (blk_cell (K3.out.at P2.out nP) 2).trans rfl, (blk_cell (K3.out.at P2.out nP) 3).trans rfl, (blk_cell (K3.out.at P2.out nP) 4).trans rfl, (blk_cell (K3.out.at Q2.out nQ) 0).trans rfl, (blk_cell (K3.out.at Q2.out nQ) 1).trans rfl⟩ (fun hHeld => ?_)
 clear hK K
 refine zr 15 _ ?_
 refine zo 7 (fun K hK => ?_)
 refine goes_ Tryd.func57 zk rfl #[.agg #[.int .i64 T, .int .i64 O, .int .i64 L, .slice A R.length c, .map (some m)], .int .i64 other, .agg #[.int .i64 a, .int .i64 b]] (by rfl) rfl rfl dQ5 ?_
 with_reducible refine (strokes_calls T O L other a b A R c m w0 _ X3.out q0 q1 ha ha' hb hb').mono ?_
 rintro e w4 ⟨v4, rfl, hs4, hm4, hk4⟩
 refine ⟨_, rfl, ?_⟩
 have K4 := zh (K3.out.trans (KB.mk hk4 (fun _ => hm4)))
 have HO4 := zh (R_kept X3.out.memo hk4 HO3.out)
 obtain ⟨A4, c4, rfl, hl4, hC4⟩ := Kd.R_reads hs4
 have HC4 := zh hC4
 clear hs4 hm4 hk4 hC4
 have X4 := zh (K4.out.ctx' X2.out)
 have hz4 := K4.out.kp.size
 refine hK.out _ _ ⟨(blk_cell (K4.out.at P2.out nP) 0).trans rfl, (blk_cell (K4.out.at P2.out nP) 1).trans rfl, (blk_cell (K4.out.at P2.out nP) 2).trans rfl, (blk_cell (K4.out.at P2.out nP) 3).trans rfl, (blk_cell (K4.out.at P2.out nP) 4).trans rfl, (blk_cell (K4.out.at Q2.out nQ) 0).trans rfl, (blk_cell (K4.out.at Q2.out nQ) 1).trans rfl⟩ (fun hHeld => ?_)
 clear hK K
 refine zr 19 _ ?_
 refine zo 8 (fun K hK => ?_)
 refine Kd.R_append_rows_step (Kd.int .i64) (w0 := w4) W2.heap.size (by rfl) (.tmp 15) (.tmp 19) 25 3 (.int .i64 0) 8 rfl Tryd.underlying25 info3 rfl (by decide) (by omega) v3 (strokes T R one a b) (strokes T R other a b) A4 _ c4 (fun _ => True) (fun _ => False) rfl rfl ?aO ?aR (fun _ _ h => h) (fun _ h => h.elim) ?aF ?aB ?aS ?aL ?_
 (case aO => exact HO4.out)
 (case aR => exact HC4.out)
 (case aF => exact fun _ _ => trivial)
 (case aB => exact Below.refl _ _)
 (case aS => exact hz4)
 (case aL => omega)
 intro v5 w5 hO5 hB5 hg5 hat
 have K5 := zh (K4.out.grown hg5 (fun k e_ => Kd.R_base HO4.out k e_) (fun e_ => ((R_nomap X4.out.memo HO4.out).1 m e_).2 rfl) X4.out.memo.lt)
 obtain ⟨A5, c5, rfl, hl5, hC5⟩ := Kd.R_reads hO5
 have HO5 := zh hO5
 clear hO5 hB5 hg5 hat hC5
 refine hK.out _ _ ⟨(blk_cell (K5.out.at P2.out nP) 0).trans rfl, (blk_cell (K5.out.at P2.out nP) 1).trans rfl, (blk_cell (K5.out.at P2.out nP) 2).trans rfl, (blk_cell (K5.out.at P2.out nP) 3).trans rfl, (blk_cell (K5.out.at P2.out nP) 4).trans rfl, (blk_cell (K5.out.at Q2.out nQ) 0).trans rfl, (blk_cell (K5.out.at Q2.out nQ) 1).trans rfl⟩ (fun hHeld => ?_)
 clear hK K
 refine zr 20 _ ?_
 refine zu 9 ?_
 refine zd ?_

 have HF := zh (K5.out.at F2.out nF)
 have HG := zh (K5.out.at G2.out nG)
 have HR := zh (Kd.R_mono (ok' := fun _ => True) HO5.out (fun _ _ => trivial))
 have HK := zh K5.out
 have hlen : (strokes T R one a b ++ strokes T R other a b).length ≤ 8 := by rw [List.length_append]; omega
 have HB := zh (show both T R one other (a, b) = strokes T R one a b ++ strokes T R other a b from rfl)
 clear HO3 HO4 HO5 HC4 K3 K4 K5 X3 X4 hz3 hz4 hHeld HT_ HW_
 have hsum : ((strokes T R one a b).length : Int) + ((strokes T R other a b).length : Int) = ((strokes T R one a b ++ strokes T R other a b).length : Int) := by simp
 rw [hsum]
 clear hsum
 generalize strokes T R one a b ++ strokes T R other a b = l at *
 obtain ⟨x0, x1, x2, x3, x4, x5, x6, x7, hl8, he8⟩ := cells8_some l hlen
 have HLEN := zh hl8
 have HENC := zh he8
 clear hl8 he8
 have HKW := zh (KA.out.trans HK.out)
 clear HK
 go_wp2
 go_loopw [22] (fun u wr => ∃ k : Nat, k ≤ l.length ∧ u = .int .i64 k ∧ Aside0 (wr.heap[W.heap.size + 1 + 1 + 1]? = some (.cells (cells8 l k) 126 (0, 0))) ∧ Aside0 (KB T R m W wr) ∧ Aside0 (Kd.R (Kd.int .i64) 3 wr W2.heap.size (fun _ => True) (.slice A5 l.length c5) l) ∧ Aside0 (wr.heap[W.heap.size + 1 + 1]? = some (.cells (cells8 [] 0) 126 (0, 0)))) (fun u _ => l.length - (intOf u).toNat)
 case atStart => exact ⟨0, Nat.zero_le _, rfl, ⟨HG.out⟩, HKW, HR, ⟨HF.out⟩⟩
 case round =>
  obtain ⟨k, hk, rfl, HGr, HKr, HRr, HFr⟩ := hrel
  by_cases hlt : k < l.length
  ·obtain ⟨ad, rfl, hy⟩ := C_int_at (Kd.R_reads' HRr.out).2.2 k hlt
   have g0 : wr.cell? ⟨W.heap.size + 1 + 1 + 1, k, none⟩ = some (.int .i64 0) := (blk_cell HGr.out k).trans (cells8_at l k (by omega))
   have g1 := blk_frozen HGr.out k
   have hk8 : k < 8 := by omega
   go_wp2
   go_roundw
   case rel => exact ⟨k + 1, by omega, by go_num, ⟨by rw [← cells8_set l k hk8, List.getD_eq_getElem?_getD, List.getElem?_eq_getElem hlt, Option.getD_some]; exact blk_set HGr.out k _⟩, ⟨HKr.out.set (by omega) (by omega) k _⟩, ⟨Kd.R_mono (Kd.R_far (Kd.R_types HRr.out HGr.out (by decide)) (fun k_ h_ => h_.2) _) (fun _ _ => trivial)⟩, ⟨blk_far HFr.out (by show W.heap.size + 1 + 1 ≠ W.heap.size + 1 + 1 + 1; omega) _⟩⟩
   case measure => simp [intOf]; omega
  ·obtain rfl : k = l.length := by omega
   have HG' := HGr.out
   rw [HLEN.out] at HG'
   have g0 : wr.cell? ⟨W.heap.size + 1 + 1 + 1, 0, none⟩ = some (.int .i64 x0) := (blk_cell HG' 0).trans rfl
   have g1 : wr.cell? ⟨W.heap.size + 1 + 1 + 1, 1, none⟩ = some (.int .i64 x1) := (blk_cell HG' 1).trans rfl
   have g2 : wr.cell? ⟨W.heap.size + 1 + 1 + 1, 2, none⟩ = some (.int .i64 x2) := (blk_cell HG' 2).trans rfl
   have g3 : wr.cell? ⟨W.heap.size + 1 + 1 + 1, 3, none⟩ = some (.int .i64 x3) := (blk_cell HG' 3).trans rfl
   have g4 : wr.cell? ⟨W.heap.size + 1 + 1 + 1, 4, none⟩ = some (.int .i64 x4) := (blk_cell HG' 4).trans rfl
   have g5 : wr.cell? ⟨W.heap.size + 1 + 1 + 1, 5, none⟩ = some (.int .i64 x5) := (blk_cell HG' 5).trans rfl
   have g6 : wr.cell? ⟨W.heap.size + 1 + 1 + 1, 6, none⟩ = some (.int .i64 x6) := (blk_cell HG' 6).trans rfl
   have g7 : wr.cell? ⟨W.heap.size + 1 + 1 + 1, 7, none⟩ = some (.int .i64 x7) := (blk_cell HG' 7).trans rfl
   have f0 : wr.cell? ⟨W.heap.size + 1 + 1, 0, none⟩ = some (.int .i64 0) := vb HFr 0
   have y0 := blk_frozen HFr.out 0
   have f1 : wr.cell? ⟨W.heap.size + 1 + 1, 1, none⟩ = some (.int .i64 0) := vb HFr 1
   have y1 := blk_frozen HFr.out 1
   have f2 : wr.cell? ⟨W.heap.size + 1 + 1, 2, none⟩ = some (.int .i64 0) := vb HFr 2
   have y2 := blk_frozen HFr.out 2
   have f3 : wr.cell? ⟨W.heap.size + 1 + 1, 3, none⟩ = some (.int .i64 0) := vb HFr 3
   have y3 := blk_frozen HFr.out 3
   have f4 : wr.cell? ⟨W.heap.size + 1 + 1, 4, none⟩ = some (.int .i64 0) := vb HFr 4
   have y4 := blk_frozen HFr.out 4
   have f5 : wr.cell? ⟨W.heap.size + 1 + 1, 5, none⟩ = some (.int .i64 0) := vb HFr 5
   have y5 := blk_frozen HFr.out 5
   have f6 : wr.cell? ⟨W.heap.size + 1 + 1, 6, none⟩ = some (.int .i64 0) := vb HFr 6
   have y6 := blk_frozen HFr.out 6
   have f7 : wr.cell? ⟨W.heap.size + 1 + 1, 7, none⟩ = some (.int .i64 0) := vb HFr 7
   have y7 := blk_frozen HFr.out 7
   clear HG'
   go_wp2
   have HFf0 := (blk_set (blk_set (blk_set (blk_set (blk_set (blk_set (blk_set (blk_set HFr.out 0 (.int .i64 x0)) 1 (.int .i64 x1)) 2 (.int .i64 x2)) 3 (.int .i64 x3)) 4 (.int .i64 x4)) 5 (.int .i64 x5)) 6 (.int .i64 x6)) 7 (.int .i64 x7))
   simp only [cells8_zero, List.setIfInBounds_toArray, List.set_cons_zero, List.set_cons_succ] at HFf0
   have HFf := zh HFf0
   clear HFf0
   have HKf := zh ((((((((HKr.out.set (show W.heap.size ≤ W.heap.size + 1 + 1 by omega) (show m ≠ W.heap.size + 1 + 1 by omega) 0 (.int .i64 x0)).set (show W.heap.size ≤ W.heap.size + 1 + 1 by omega) (show m ≠ W.heap.size + 1 + 1 by omega) 1 (.int .i64 x1)).set (show W.heap.size ≤ W.heap.size + 1 + 1 by omega) (show m ≠ W.heap.size + 1 + 1 by omega) 2 (.int .i64 x2)).set (show W.heap.size ≤ W.heap.size + 1 + 1 by omega) (show m ≠ W.heap.size + 1 + 1 by omega) 3 (.int .i64 x3)).set (show W.heap.size ≤ W.heap.size + 1 + 1 by omega) (show m ≠ W.heap.size + 1 + 1 by omega) 4 (.int .i64 x4)).set (show W.heap.size ≤ W.heap.size + 1 + 1 by omega) (show m ≠ W.heap.size + 1 + 1 by omega) 5 (.int .i64 x5)).set (show W.heap.size ≤ W.heap.size + 1 + 1 by omega) (show m ≠ W.heap.size + 1 + 1 by omega) 6 (.int .i64 x6)).set (show W.heap.size ≤ W.heap.size + 1 + 1 by omega) (show m ≠ W.heap.size + 1 + 1 by omega) 7 (.int .i64 x7))
   obtain ⟨wf, hwf⟩ : ∃ wf, ((((((((wr.setCell ⟨W.heap.size + 1 + 1, 0, none⟩ (.int .i64 x0)).setCell ⟨W.heap.size + 1 + 1, 1, none⟩ (.int .i64 x1)).setCell ⟨W.heap.size + 1 + 1, 2, none⟩ (.int .i64 x2)).setCell ⟨W.heap.size + 1 + 1, 3, none⟩ (.int .i64 x3)).setCell ⟨W.heap.size + 1 + 1, 4, none⟩ (.int .i64 x4)).setCell ⟨W.heap.size + 1 + 1, 5, none⟩ (.int .i64 x5)).setCell ⟨W.heap.size + 1 + 1, 6, none⟩ (.int .i64 x6)).setCell ⟨W.heap.size + 1 + 1, 7, none⟩ (.int .i64 x7)) = wf := ⟨_, rfl⟩
   simp only [hwf] at HFf HKf ⊢
   clear hwf
   have q0 : wf.cell? ⟨W.heap.size + 1 + 1, 0, none⟩ = some (.int .i64 x0) := vb HFf 0
   have q1 : wf.cell? ⟨W.heap.size + 1 + 1, 1, none⟩ = some (.int .i64 x1) := vb HFf 1
   have q2 : wf.cell? ⟨W.heap.size + 1 + 1, 2, none⟩ = some (.int .i64 x2) := vb HFf 2
   have q3 : wf.cell? ⟨W.heap.size + 1 + 1, 3, none⟩ = some (.int .i64 x3) := vb HFf 3
   have q4 : wf.cell? ⟨W.heap.size + 1 + 1, 4, none⟩ = some (.int .i64 x4) := vb HFf 4
   have q5 : wf.cell? ⟨W.heap.size + 1 + 1, 5, none⟩ = some (.int .i64 x5) := vb HFf 5
   have q6 : wf.cell? ⟨W.heap.size + 1 + 1, 6, none⟩ = some (.int .i64 x6) := vb HFf 6
   have q7 : wf.cell? ⟨W.heap.size + 1 + 1, 7, none⟩ = some (.int .i64 x7) := vb HFf 7
   refine bodyPost_ret (v := .agg #[.int .i64 x0, .int .i64 x1, .int .i64 x2, .int .i64 x3, .int .i64 x4, .int .i64 x5, .int .i64 x6, .int .i64 x7]) (by simp [results, Tryd.results89, go_sem, hu126, hu124, q0, q1, q2, q3, q4, q5, q6, q7]) rfl ?_
   exact ⟨by rw [HB.out, HENC.out], HKf.out⟩
end Go.Proofs.YtagkfkdoibnhfaaDoor.K
end
section
namespace Go.Proofs.YtagkfkdoibnhfaaDoor.H
open Go.RowKit Go.Proofs.YtagkfkdoibnhfaaDoorW.PrintWords Go.Proofs.YtagkfkdoibnhfaaDoorW.PrintLast Go.Proofs.YtagkfkdoibnhfaaDoorW.PrintMore
attribute [local go_sem] max2_int min2_int max_two min_two max_three min_three max_four min_four   -- for this text's walks alone
set_option linter.unusedVariables false
set_option linter.unusedSimpArgs false
theorem eqI_cons {P : Program} {d e n i : Nat} {is : List Nat} {xs ys : Array Value} {a b : Value} {r s : Bool} {w : World} (ha : (part e xs (i * n)).run P w = .ok a w) (hb : (part e ys (i * n)).run P w = .ok b w) (he : (Op.equalIn d e a b).run P w = .ok r w) (hr : (Op.eqItems d e n xs ys is).run P w = .ok s w) : (Op.eqItems d e n xs ys (i :: is)).run P w = .ok (r && s) w := by
 simp only [Op.eqItems, Sem.run_bind, ha, hb, he, Result.andThen_ok]
 cases r
 ·simp
 ·simpa using hr
theorem eqI_nil {P : Program} {d e n : Nat} {xs ys : Array Value} {w : World} : (Op.eqItems d e n xs ys []).run P w = .ok true w := by simp [Op.eqItems]
theorem eqA61 (d : Nat) (w : World) (x0 y0 : Int) (x1 y1 : Int) : (Op.equalIn (d + 2) 61 (.agg #[.int .i64 x0, .int .i64 x1]) (.agg #[.int .i64 y0, .int .i64 y1])).run Tryd.prog w = .ok (x0 == y0 && (x1 == y1)) w := by
 obtain ⟨i, hi, _⟩ := info_parts info3
 have c_ : Tryd.prog.cellsOf 3 = 1 := by kernel_rfl
 have hu := Tryd.underlying3
 rw [run_equalIn_array w (d + 1) _ _ Tryd.underlying61 hi, c_, ← Bool.and_true (x1 == y1)]
 exact eqI_cons (a := .int .i64 x0) (b := .int .i64 y0) (by go_simp) (by go_simp) (by go_simp) (eqI_cons (a := .int .i64 x1) (b := .int .i64 y1) (by go_simp) (by go_simp) (by go_simp) eqI_nil)
end Go.Proofs.YtagkfkdoibnhfaaDoor.H
end
section
namespace Go.Proofs.YtagkfkdoibnhfaaDoor.K
open Go.RowKit Go.Proofs.YtagkfkdoibnhfaaDoorW.PrintWords Go.Proofs.YtagkfkdoibnhfaaDoor.H
set_option linter.unusedVariables false
set_option linter.unusedSimpArgs false
theorem eqA124 (d : Nat) (w : World) (x0 x1 x2 x3 x4 x5 x6 x7 y0 y1 y2 y3 y4 y5 y6 y7 : Int) : (Op.equalIn (d + 2) 124 (.agg #[.int .i64 x0, .int .i64 x1, .int .i64 x2, .int .i64 x3, .int .i64 x4, .int .i64 x5, .int .i64 x6, .int .i64 x7]) (.agg #[.int .i64 y0, .int .i64 y1, .int .i64 y2, .int .i64 y3, .int .i64 y4, .int .i64 y5, .int .i64 y6, .int .i64 y7])).run Tryd.prog w = .ok (x0 == y0 && (x1 == y1 && (x2 == y2 && (x3 == y3 && (x4 == y4 && (x5 == y5 && (x6 == y6 && (x7 == y7)))))))) w := by
 obtain ⟨i, hi, _⟩ := info_parts info3
 have c_ : Tryd.prog.cellsOf 3 = 1 := by kernel_rfl
 have hu := Tryd.underlying3
 rw [run_equalIn_array w (d + 1) _ _ Tryd.underlying124 hi, c_, ← Bool.and_true (x7 == y7)]
 exact eqI_cons (a := .int .i64 x0) (b := .int .i64 y0) (by go_simp) (by go_simp) (by go_simp) (eqI_cons (a := .int .i64 x1) (b := .int .i64 y1) (by go_simp) (by go_simp) (by go_simp) (eqI_cons (a := .int .i64 x2) (b := .int .i64 y2) (by go_simp) (by go_simp) (by go_simp) (eqI_cons (a := .int .i64 x3) (b := .int .i64 y3) (by go_simp) (by go_simp) (by go_simp) (eqI_cons (a := .int .i64 x4) (b := .int .i64 y4) (by go_simp) (by go_simp) (by go_simp) (eqI_cons (a := .int .i64 x5) (b := .int .i64 y5) (by go_simp) (by go_simp) (by go_simp) (eqI_cons (a := .int .i64 x6) (b := .int .i64 y6) (by go_simp) (by go_simp) (by go_simp) (eqI_cons (a := .int .i64 x7) (b := .int .i64 y7) (by go_simp) (by go_simp) (by go_simp) eqI_nil)))))))
theorem eqA126 (d : Nat) (w : World) (x0 x1 x2 x3 x4 x5 x6 x7 y0 y1 y2 y3 y4 y5 y6 y7 : Int) : (Op.equalIn (d + 3) 126 (.agg #[.int .i64 x0, .int .i64 x1, .int .i64 x2, .int .i64 x3, .int .i64 x4, .int .i64 x5, .int .i64 x6, .int .i64 x7]) (.agg #[.int .i64 y0, .int .i64 y1, .int .i64 y2, .int .i64 y3, .int .i64 y4, .int .i64 y5, .int .i64 y6, .int .i64 y7])).run Tryd.prog w = .ok (x0 == y0 && (x1 == y1 && (x2 == y2 && (x3 == y3 && (x4 == y4 && (x5 == y5 && (x6 == y6 && (x7 == y7)))))))) w := by
 refine eqA_of Tryd.underlying126 zk ?_
 have hu := Tryd.underlying124
 exact eqf_last (by rfl) (by go_simp) (by go_simp) (eqA124 d w _ _ _ _ _ _ _ _ _ _ _ _ _ _ _ _)
theorem check124 (em : Bool) (n : Nat) (w : World) (x0 x1 x2 x3 x4 x5 x6 x7 : Int) : (Instr.checkKey em (n + 2) 124 (.agg #[.int .i64 x0, .int .i64 x1, .int .i64 x2, .int .i64 x3, .int .i64 x4, .int .i64 x5, .int .i64 x6, .int .i64 x7])).run Tryd.prog w = .ok () w := by
 have hu := Tryd.underlying124
 have h3 := Tryd.underlying3
 obtain ⟨i, hi, _⟩ := info_parts info3
 have h : ∀ (a : Int) (w : World), (Instr.checkKey em (n + 1) 3 (.int .i64 a)).run Tryd.prog w = .ok () w := fun a w => by
  simp [Instr.checkKey, Sem.run_bind, run_underlying h3]
 unfold Instr.checkKey
 simp only [Sem.run_bind, run_underlying hu, Result.andThen_ok, run_sizeOf w hi]
 have c_ : Tryd.prog.cellsOf 3 = 1 := by kernel_rfl
 simp only [Std.Legacy.Range.forIn_eq_forIn_range', Std.Legacy.Range.size, Nat.sub_zero, Nat.add_one_sub_one, Nat.div_one, c_]
 have p0 : (part 3 #[Value.int IntKind.i64 x0, Value.int IntKind.i64 x1, Value.int IntKind.i64 x2, Value.int IntKind.i64 x3, Value.int IntKind.i64 x4, Value.int IntKind.i64 x5, Value.int IntKind.i64 x6, Value.int IntKind.i64 x7] (0 * 1)).run Tryd.prog w = .ok (.int .i64 x0) w := by go_simp
 have p1 : (part 3 #[Value.int IntKind.i64 x0, Value.int IntKind.i64 x1, Value.int IntKind.i64 x2, Value.int IntKind.i64 x3, Value.int IntKind.i64 x4, Value.int IntKind.i64 x5, Value.int IntKind.i64 x6, Value.int IntKind.i64 x7] (1 * 1)).run Tryd.prog w = .ok (.int .i64 x1) w := by go_simp
 have p2 : (part 3 #[Value.int IntKind.i64 x0, Value.int IntKind.i64 x1, Value.int IntKind.i64 x2, Value.int IntKind.i64 x3, Value.int IntKind.i64 x4, Value.int IntKind.i64 x5, Value.int IntKind.i64 x6, Value.int IntKind.i64 x7] (2 * 1)).run Tryd.prog w = .ok (.int .i64 x2) w := by go_simp
 have p3 : (part 3 #[Value.int IntKind.i64 x0, Value.int IntKind.i64 x1, Value.int IntKind.i64 x2, Value.int IntKind.i64 x3, Value.int IntKind.i64 x4, Value.int IntKind.i64 x5, Value.int IntKind.i64 x6, Value.int IntKind.i64 x7] (3 * 1)).run Tryd.prog w = .ok (.int .i64 x3) w := by go_simp
 have p4 : (part 3 #[Value.int IntKind.i64 x0, Value.int IntKind.i64 x1, Value.int IntKind.i64 x2, Value.int IntKind.i64 x3, Value.int IntKind.i64 x4, Value.int IntKind.i64 x5, Value.int IntKind.i64 x6, Value.int IntKind.i64 x7] (4 * 1)).run Tryd.prog w = .ok (.int .i64 x4) w := by go_simp
 have p5 : (part 3 #[Value.int IntKind.i64 x0, Value.int IntKind.i64 x1, Value.int IntKind.i64 x2, Value.int IntKind.i64 x3, Value.int IntKind.i64 x4, Value.int IntKind.i64 x5, Value.int IntKind.i64 x6, Value.int IntKind.i64 x7] (5 * 1)).run Tryd.prog w = .ok (.int .i64 x5) w := by go_simp
 have p6 : (part 3 #[Value.int IntKind.i64 x0, Value.int IntKind.i64 x1, Value.int IntKind.i64 x2, Value.int IntKind.i64 x3, Value.int IntKind.i64 x4, Value.int IntKind.i64 x5, Value.int IntKind.i64 x6, Value.int IntKind.i64 x7] (6 * 1)).run Tryd.prog w = .ok (.int .i64 x6) w := by go_simp
 have p7 : (part 3 #[Value.int IntKind.i64 x0, Value.int IntKind.i64 x1, Value.int IntKind.i64 x2, Value.int IntKind.i64 x3, Value.int IntKind.i64 x4, Value.int IntKind.i64 x5, Value.int IntKind.i64 x6, Value.int IntKind.i64 x7] (7 * 1)).run Tryd.prog w = .ok (.int .i64 x7) w := by go_simp
 simp only [show List.range' 0 8 = [0, 1, 2, 3, 4, 5, 6, 7] from rfl, List.forIn_cons, List.forIn_nil, Sem.run_bind, run_sizeOf w hi, Result.andThen_ok, c_, h, Sem.run_pure, p0, p1, p2, p3, p4, p5, p6, p7]
theorem check126 (em : Bool) (w : World) (x0 x1 x2 x3 x4 x5 x6 x7 : Int) : (Instr.checkKey em 10000 126 (.agg #[.int .i64 x0, .int .i64 x1, .int .i64 x2, .int .i64 x3, .int .i64 x4, .int .i64 x5, .int .i64 x6, .int .i64 x7])).run Tryd.prog w = .ok () w := by
 have hu := Tryd.underlying126
 have hu' := Tryd.underlying124
 have h := check124 em 9997 w x0 x1 x2 x3 x4 x5 x6 x7
 show (Instr.checkKey em (9999 + 1) 126 _).run Tryd.prog w = _
 unfold Instr.checkKey
 simp only [Sem.run_bind, run_underlying hu, Result.andThen_ok]
 have p0 : (part 124 #[Value.int IntKind.i64 x0, Value.int IntKind.i64 x1, Value.int IntKind.i64 x2, Value.int IntKind.i64 x3, Value.int IntKind.i64 x4, Value.int IntKind.i64 x5, Value.int IntKind.i64 x6, Value.int IntKind.i64 x7] 0).run Tryd.prog w = .ok (.agg #[Value.int IntKind.i64 x0, Value.int IntKind.i64 x1, Value.int IntKind.i64 x2, Value.int IntKind.i64 x3, Value.int IntKind.i64 x4, Value.int IntKind.i64 x5, Value.int IntKind.i64 x6, Value.int IntKind.i64 x7]) w := by go_simp
 simp [Sem.run_bind, p0, h]
def key8 (l : List Int) : ((Int × Int) × (Int × Int)) × ((Int × Int) × (Int × Int)) := (((l.getD 0 0, l.getD 1 0), (l.getD 2 0, l.getD 3 0)), ((l.getD 4 0, l.getD 5 0), (l.getD 6 0, l.getD 7 0)))
def E126 : KeyEnc Tryd.prog 126 (((Int × Int) × (Int × Int)) × ((Int × Int) × (Int × Int))) where
 enc p := .agg #[.int .i64 p.1.1.1, .int .i64 p.1.1.2, .int .i64 p.1.2.1, .int .i64 p.1.2.2, .int .i64 p.2.1.1, .int .i64 p.2.1.2, .int .i64 p.2.2.1, .int .i64 p.2.2.2]
 eq a b w := by
  refine (eqA126 9997 w _ _ _ _ _ _ _ _ _ _ _ _ _ _ _ _).trans ?_
  congr 1
  rcases a with ⟨⟨⟨a0, a1⟩, ⟨a2, a3⟩⟩, ⟨⟨a4, a5⟩, ⟨a6, a7⟩⟩⟩
  rcases b with ⟨⟨⟨b0, b1⟩, ⟨b2, b3⟩⟩, ⟨⟨b4, b5⟩, ⟨b6, b7⟩⟩⟩
  rw [Bool.eq_iff_iff]
  simp [and_assoc]
 check em a w := check126 em w _ _ _ _ _ _ _ _
 bits a := by simp [Instr.sameBits]
 now a b := ⟨_, Tryd.underlying126, .inl rfl⟩
def V84 (p : Int × Int) : Value := .agg #[.int .i64 p.1, .int .i64 p.2]
theorem zero84 (w : World) : (zeroValue 84).run Tryd.prog w = .ok (V84 (0, 0)) w := by kernel_rfl
theorem key8_eq {l l' : List Int} (h : l.length = l'.length) (h8 : l.length ≤ 8) : key8 l = key8 l' ↔ l = l' := by
 constructor
 ·intro hk
  simp only [key8, Prod.mk.injEq] at hk
  obtain ⟨⟨⟨e0, e1⟩, e2, e3⟩, ⟨e4, e5⟩, e6, e7⟩ := hk
  refine List.ext_getElem h fun i h1 h2 => ?_
  have g : ∀ (k : Nat), l.getD k 0 = l'.getD k 0 → i = k → l[i] = l'[i] := fun k e hik => by
   subst hik
   rwa [List.getD_eq_getElem?_getD, List.getElem?_eq_getElem h1, List.getD_eq_getElem?_getD, List.getElem?_eq_getElem h2] at e
  rcases (by omega : i = 0 ∨ i = 1 ∨ i = 2 ∨ i = 3 ∨ i = 4 ∨ i = 5 ∨ i = 6 ∨ i = 7) with h | h | h | h | h | h | h | h
  ·exact g 0 e0 h
  ·exact g 1 e1 h
  ·exact g 2 e2 h
  ·exact g 3 e3 h
  ·exact g 4 e4 h
  ·exact g 5 e5 h
  ·exact g 6 e6 h
  ·exact g 7 e7 h
 ·rintro rfl
  rfl
def metOf (f : Int × Int → List Int) (pre : List (Int × Int)) : List ((((Int × Int) × (Int × Int)) × ((Int × Int) × (Int × Int))) × (Int × Int)) := pre.map fun p => (key8 (f p), p)
theorem metOf_find {f : Int × Int → List Int} {n : Nat} (hf : ∀ p, (f p).length = n) (hn : n ≤ 8) (p : Int × Int) : ∀ pre : List (Int × Int), (metOf f pre).find? (fun q => decide (key8 (f p) = q.1)) = (pre.find? fun q => f q == f p).map fun q => (key8 (f q), q)
 | [] => rfl
 | q :: pre => by
  have ih := metOf_find hf hn p pre
  unfold metOf at ih ⊢
  rw [List.map_cons, List.find?_cons, List.find?_cons]
  by_cases e : f q = f p
  ·have e' : key8 (f p) = key8 (f q) := by rw [e]
   simp [e', e]
  ·have e' : ¬ key8 (f p) = key8 (f q) := fun h => e ((key8_eq (by rw [hf, hf]) (by rw [hf]; exact hn)).1 h).symm
   have e2 : (f q == f p) = false := beq_eq_false_iff_ne.2 e
   simp only [decide_eq_false e', e2]
   exact ih
theorem metOf_set {f : Int × Int → List Int} {n : Nat} (hf : ∀ p, (f p).length = n) (hn : n ≤ 8) (p : Int × Int) (pre : List (Int × Int)) (h : (pre.find? fun q => f q == f p) = none) : kvSet (key8 (f p)) p (metOf f pre) = metOf f (pre ++ [p]) := by
 rw [kvSet_new (by rw [metOf_find hf hn p pre, h]; rfl)]
 unfold metOf
 rw [List.map_append]
 rfl
theorem twinsOf_step (f : Int × Int → List Int) (pre : List (Int × Int)) (p : Int × Int) (rest : List (Int × Int)) (h : (pre.find? fun q => f q == f p) = none) : twinsOf f pre (p :: rest) = twinsOf f (pre ++ [p]) rest := by rw [twinsOf, h]
theorem twinsOf_found (f : Int × Int → List Int) (pre : List (Int × Int)) (p q : Int × Int) (rest : List (Int × Int)) (h : (pre.find? fun q => f q == f p) = some q) : twinsOf f pre (p :: rest) = some (q, p) := by rw [twinsOf, h]
end Go.Proofs.YtagkfkdoibnhfaaDoor.K
end
section
namespace Go.Proofs.YtagkfkdoibnhfaaDoor.K
open Go.RowKit Go.Shelf Go.Proofs.YtagkfkdoibnhfaaDoorW.PrintWords Go.Proofs.YtagkfkdoibnhfaaDoorW.PrintLast Go.Proofs.YtagkfkdoibnhfaaDoorW.PrintMore Go.Proofs.YtagkfkdoibnhfaaDoor.H
set_option linter.unusedVariables false
set_option linter.unusedSimpArgs false
attribute [local go_sem] Oper.semAt_some
theorem KM.map {T : Int} {R : List S66} {m n : Nat} {A B : World} (h : KM T R m n A B) {α β : Type} [DecidableEq α] {k : TypeId} {E : KeyEnc Tryd.prog k α} {V : β → Value} {M : Nat} {kv : List (α × β)} (hk : MapIs E V A M kv) (hne : M ≠ m) (hn : M < n) : MapIs E V B M kv := by
 obtain ⟨es, c, hb, hm⟩ := hk
 exact ⟨es, c, h.at hb hne hn, hm⟩
theorem KB.map {T : Int} {R : List S66} {m : Nat} {A B : World} (h : KB T R m A B) {α β : Type} [DecidableEq α] {k : TypeId} {E : KeyEnc Tryd.prog k α} {V : β → Value} {M : Nat} {kv : List (α × β)} (hk : MapIs E V A M kv) (hne : M ≠ m) : MapIs E V B M kv := by
 obtain ⟨es, c, hb, hm⟩ := hk
 exact ⟨es, c, h.at hb hne, hm⟩
theorem KR.grown {T : Int} {R : List S66} {m : Nat} {S : Nat → Prop} {A B C : World} (h : KR T R m S A B) {g : Nat} (hg : B.grownBy C (some g)) (hS : ¬ S g ∨ A.heap.size ≤ g) (hm : m ≠ g) : KR T R m S A C :=
 ⟨hg.os.trans h.os, hg.tape.trans h.tape, hg.output.trans h.output, Nat.le_trans h.size hg.size, fun i hi hl hne => (hg.block i (Nat.lt_of_lt_of_le hl h.size) (by rintro e; injection e with e; subst e; rcases hS with hS | hS; exact hS hi; omega)).trans (h.block i hi hl hne), fun x => (h.memo x).move (hg.block m (h.memo x).lt (by intro e; injection e with e; exact hm e))⟩
theorem enc8_some (l : List Int) : ∃ x0 x1 x2 x3 x4 x5 x6 x7 : Int, enc8 l = .agg #[.int .i64 x0, .int .i64 x1, .int .i64 x2, .int .i64 x3, .int .i64 x4, .int .i64 x5, .int .i64 x6, .int .i64 x7] ∧ key8 l = (((x0, x1), (x2, x3)), ((x4, x5), (x6, x7))) :=
 ⟨_, _, _, _, _, _, _, _, rfl, rfl⟩
theorem both_len (T : Int) (R : List S66) (one other : Int) (p : Int × Int) : (both T R one other p).length = width (regAt R one) + width (regAt R other) := by
 unfold both
 rw [List.length_append, strokes_width, strokes_width]
theorem both_len8 (R : List S66) (one other : Int) : width (regAt R one) + width (regAt R other) ≤ 8 := by
 have h1 := width_le (regAt R one)
 have h2 := width_le (regAt R other)
 omega
def fTwins.T7 : Bool × List (List Nat × List Nat) := (true, [([], []), ([], []), ([0, 0], [0]), ([1, 2, 0, 1, 2], [1]), ([3, 0, 1, 2, 3], [])])
def fTwins.B7 : List Nat := [0, 0, 1, 7, 15]
theorem fTwins.tab7 : rtab .any (opsOf Tryd.f77 7) = fTwins.T7 := by kernel_rfl
theorem fTwins.bits7 : waitsOk fTwins.T7.2 fTwins.B7 = true := by kernel_rfl
def AxBox {α : Type} (m lo : Nat) (cs : α → Array Value) (t : TypeId) (Fr : α → Nat → Act) (x : α) (a' : Act) (W : World) : Prop := ∃ gp, gp ≠ m ∧ W.heap[gp]? = some (.cells (cs x) t (0, 0)) ∧ lo ≤ gp ∧ a' = Fr x gp
theorem AxBox.keep {α : Type} {T : Int} {R : List S66} {m lo n : Nat} {cs : α → Array Value} {t : TypeId} {Fr : α → Nat → Act} {x : α} {a' : Act} {X Y : World} (h : AxBox m lo cs t Fr x a' X) (hk : KM T R m n X Y) : AxBox m lo cs t Fr x a' Y := by
 obtain ⟨gp, h1, h2, h3⟩ := h
 exact ⟨gp, h1, hk.cells h2 h1, h3⟩
def twinsVal : Option ((Int × Int) × (Int × Int)) → Value
 | none => .tuple #[.agg #[.int .i64 0, .int .i64 0], .agg #[.int .i64 0, .int .i64 0], .bool false]
 | some (p, q) => .tuple #[.agg #[.int .i64 p.1, .int .i64 p.2], .agg #[.int .i64 q.1, .int .i64 q.2], .bool true]
set_option maxRecDepth 100000 in
set_option maxHeartbeats 4000000 in
theorem twins_calls (T O L one other : Int) (A : Option Addr) (R : List S66) (c m N : Nat) (w0 W : World) (hx : Ctx w0 W T A R m) (r0 : 0 ≤ one) (r1 : one < R.length) (q0 : 0 ≤ other) (q1 : other < R.length) (hN : T * O = (N : Int)) (hN' : N ≤ 100) :
  Calls Tryd.prog 77 #[.agg #[.int .i64 T, .int .i64 O, .int .i64 L, .slice A R.length c, .map (some m)], .int .i64 one, .int .i64 other] W fun e W' => e = .returned (twinsVal (twins T O R one other)) ∧ KB T R m W W' := by
 have hu78 := Tryd.underlying78
 have hu84 := Tryd.underlying84
 have hu126 := Tryd.underlying126
 have hu124 := Tryd.underlying124
 have hu123 := Tryd.underlying123
 have hmm := @run_makeMap Tryd.prog
 have X := zh hx
 have hmW := hx.memo.lt
 have HW0 := zh hx.base.size
 clear hx
 have Y0 := zh (blk_alloc (blk_alloc (blk_alloc (blk_alloc (blk_alloc (blk_alloc (blk_alloc (alloc_at W (.cells #[.int .i64 T, .int .i64 O, .int .i64 L, .slice A R.length c, .map (some m)] 78) (W.heap.size) (by simp)) (.cells #[.int .i64 one] 3)) (.cells #[.int .i64 other] 3)) (.cells #[.int .i64 0, .int .i64 0] 84)) (.cells #[.int .i64 0, .int .i64 0] 84)) (.cells #[.bool false] 4)) (.map #[] 0)) (.cells #[.map (some (W.heap.size + 1 + 1 + 1 + 1 + 1 + 1))] 123))
 have z0 : ((((((((W.alloc (.cells #[.int .i64 T, .int .i64 O, .int .i64 L, .slice A R.length c, .map (some m)] 78)).alloc (.cells #[.int .i64 one] 3)).alloc (.cells #[.int .i64 other] 3)).alloc (.cells #[.int .i64 0, .int .i64 0] 84)).alloc (.cells #[.int .i64 0, .int .i64 0] 84)).alloc (.cells #[.bool false] 4)).alloc (.map #[] 0)).alloc (.cells #[.map (some (W.heap.size + 1 + 1 + 1 + 1 + 1 + 1))] 123)).cell? ⟨W.heap.size, 0, none⟩ = some (.int .i64 T) := vb Y0 0
 have z1 : ((((((((W.alloc (.cells #[.int .i64 T, .int .i64 O, .int .i64 L, .slice A R.length c, .map (some m)] 78)).alloc (.cells #[.int .i64 one] 3)).alloc (.cells #[.int .i64 other] 3)).alloc (.cells #[.int .i64 0, .int .i64 0] 84)).alloc (.cells #[.int .i64 0, .int .i64 0] 84)).alloc (.cells #[.bool false] 4)).alloc (.map #[] 0)).alloc (.cells #[.map (some (W.heap.size + 1 + 1 + 1 + 1 + 1 + 1))] 123)).cell? ⟨W.heap.size, 1, none⟩ = some (.int .i64 O) := vb Y0 1
 have z2 : ((((((((W.alloc (.cells #[.int .i64 T, .int .i64 O, .int .i64 L, .slice A R.length c, .map (some m)] 78)).alloc (.cells #[.int .i64 one] 3)).alloc (.cells #[.int .i64 other] 3)).alloc (.cells #[.int .i64 0, .int .i64 0] 84)).alloc (.cells #[.int .i64 0, .int .i64 0] 84)).alloc (.cells #[.bool false] 4)).alloc (.map #[] 0)).alloc (.cells #[.map (some (W.heap.size + 1 + 1 + 1 + 1 + 1 + 1))] 123)).cell? ⟨W.heap.size, 2, none⟩ = some (.int .i64 L) := vb Y0 2
 have z3 : ((((((((W.alloc (.cells #[.int .i64 T, .int .i64 O, .int .i64 L, .slice A R.length c, .map (some m)] 78)).alloc (.cells #[.int .i64 one] 3)).alloc (.cells #[.int .i64 other] 3)).alloc (.cells #[.int .i64 0, .int .i64 0] 84)).alloc (.cells #[.int .i64 0, .int .i64 0] 84)).alloc (.cells #[.bool false] 4)).alloc (.map #[] 0)).alloc (.cells #[.map (some (W.heap.size + 1 + 1 + 1 + 1 + 1 + 1))] 123)).cell? ⟨W.heap.size, 3, none⟩ = some (.slice A R.length c) := vb Y0 3
 have z4 : ((((((((W.alloc (.cells #[.int .i64 T, .int .i64 O, .int .i64 L, .slice A R.length c, .map (some m)] 78)).alloc (.cells #[.int .i64 one] 3)).alloc (.cells #[.int .i64 other] 3)).alloc (.cells #[.int .i64 0, .int .i64 0] 84)).alloc (.cells #[.int .i64 0, .int .i64 0] 84)).alloc (.cells #[.bool false] 4)).alloc (.map #[] 0)).alloc (.cells #[.map (some (W.heap.size + 1 + 1 + 1 + 1 + 1 + 1))] 123)).cell? ⟨W.heap.size, 4, none⟩ = some (.map (some m)) := vb Y0 4

 refine (callsIn_wide (n := 9)).1 ?_
 refine callsIn_of_wp_marks Tryd.func77 rfl trivial ?_ rfl
 simp only [Tryd.ntmps77, List.size_toArray, List.length_cons, List.length_nil, Nat.reduceAdd, Nat.reduceSub, Array.replicate_succ, Array.replicate_zero, List.push_toArray, List.append_toArray, List.nil_append, List.cons_append]
 gi_wp2_with (refine ⟨trivial, ?_⟩; gi_at_call 75; refine (callsIn_any _ (all_calls T O L A R.length c m _)).mono ?_; rintro e w' ⟨rfl, rfl⟩)
 clear z0 z1 z2 z3 z4 Y0
 have KA := zh ((((((((((KB.refl T R m W).trans (KB.alloc T R m W (.cells #[.int .i64 T, .int .i64 O, .int .i64 L, .slice A R.length c, .map (some m)] 78))).trans (KB.alloc T R m (W.alloc (.cells #[.int .i64 T, .int .i64 O, .int .i64 L, .slice A R.length c, .map (some m)] 78)) (.cells #[.int .i64 one] 3))).trans (KB.alloc T R m ((W.alloc (.cells #[.int .i64 T, .int .i64 O, .int .i64 L, .slice A R.length c, .map (some m)] 78)).alloc (.cells #[.int .i64 one] 3)) (.cells #[.int .i64 other] 3))).trans (KB.alloc T R m (((W.alloc (.cells #[.int .i64 T, .int .i64 O, .int .i64 L, .slice A R.length c, .map (some m)] 78)).alloc (.cells #[.int .i64 one] 3)).alloc (.cells #[.int .i64 other] 3)) (.cells #[.int .i64 0, .int .i64 0] 84))).trans (KB.alloc T R m ((((W.alloc (.cells #[.int .i64 T, .int .i64 O, .int .i64 L, .slice A R.length c, .map (some m)] 78)).alloc (.cells #[.int .i64 one] 3)).alloc (.cells #[.int .i64 other] 3)).alloc (.cells #[.int .i64 0, .int .i64 0] 84)) (.cells #[.int .i64 0, .int .i64 0] 84))).trans (KB.alloc T R m (((((W.alloc (.cells #[.int .i64 T, .int .i64 O, .int .i64 L, .slice A R.length c, .map (some m)] 78)).alloc (.cells #[.int .i64 one] 3)).alloc (.cells #[.int .i64 other] 3)).alloc (.cells #[.int .i64 0, .int .i64 0] 84)).alloc (.cells #[.int .i64 0, .int .i64 0] 84)) (.cells #[.bool false] 4))).trans (KB.alloc T R m ((((((W.alloc (.cells #[.int .i64 T, .int .i64 O, .int .i64 L, .slice A R.length c, .map (some m)] 78)).alloc (.cells #[.int .i64 one] 3)).alloc (.cells #[.int .i64 other] 3)).alloc (.cells #[.int .i64 0, .int .i64 0] 84)).alloc (.cells #[.int .i64 0, .int .i64 0] 84)).alloc (.cells #[.bool false] 4)) (.map #[] 0))).trans (KB.alloc T R m (((((((W.alloc (.cells #[.int .i64 T, .int .i64 O, .int .i64 L, .slice A R.length c, .map (some m)] 78)).alloc (.cells #[.int .i64 one] 3)).alloc (.cells #[.int .i64 other] 3)).alloc (.cells #[.int .i64 0, .int .i64 0] 84)).alloc (.cells #[.int .i64 0, .int .i64 0] 84)).alloc (.cells #[.bool false] 4)).alloc (.map #[] 0)) (.cells #[.map (some (W.heap.size + 1 + 1 + 1 + 1 + 1 + 1))] 123))).trans (KB.alloc T R m ((((((((W.alloc (.cells #[.int .i64 T, .int .i64 O, .int .i64 L, .slice A R.length c, .map (some m)] 78)).alloc (.cells #[.int .i64 one] 3)).alloc (.cells #[.int .i64 other] 3)).alloc (.cells #[.int .i64 0, .int .i64 0] 84)).alloc (.cells #[.int .i64 0, .int .i64 0] 84)).alloc (.cells #[.bool false] 4)).alloc (.map #[] 0)).alloc (.cells #[.map (some (W.heap.size + 1 + 1 + 1 + 1 + 1 + 1))] 123)) (.cells #[.int .i64 T, .int .i64 O, .int .i64 L, .slice A R.length c, .map (some m)] 78)))
 have Y0 := zh (blk_alloc (blk_alloc (blk_alloc (blk_alloc (blk_alloc (blk_alloc (blk_alloc (blk_alloc (alloc_at W (.cells #[.int .i64 T, .int .i64 O, .int .i64 L, .slice A R.length c, .map (some m)] 78) (W.heap.size) (by simp)) (.cells #[.int .i64 one] 3)) (.cells #[.int .i64 other] 3)) (.cells #[.int .i64 0, .int .i64 0] 84)) (.cells #[.int .i64 0, .int .i64 0] 84)) (.cells #[.bool false] 4)) (.map #[] 0)) (.cells #[.map (some (W.heap.size + 1 + 1 + 1 + 1 + 1 + 1))] 123)) (.cells #[.int .i64 T, .int .i64 O, .int .i64 L, .slice A R.length c, .map (some m)] 78))
 have Y1 := zh (blk_alloc (blk_alloc (blk_alloc (blk_alloc (blk_alloc (blk_alloc (blk_alloc (alloc_at (W.alloc (.cells #[.int .i64 T, .int .i64 O, .int .i64 L, .slice A R.length c, .map (some m)] 78)) (.cells #[.int .i64 one] 3) (W.heap.size + 1) (by simp)) (.cells #[.int .i64 other] 3)) (.cells #[.int .i64 0, .int .i64 0] 84)) (.cells #[.int .i64 0, .int .i64 0] 84)) (.cells #[.bool false] 4)) (.map #[] 0)) (.cells #[.map (some (W.heap.size + 1 + 1 + 1 + 1 + 1 + 1))] 123)) (.cells #[.int .i64 T, .int .i64 O, .int .i64 L, .slice A R.length c, .map (some m)] 78))
 have Y2 := zh (blk_alloc (blk_alloc (blk_alloc (blk_alloc (blk_alloc (blk_alloc (alloc_at ((W.alloc (.cells #[.int .i64 T, .int .i64 O, .int .i64 L, .slice A R.length c, .map (some m)] 78)).alloc (.cells #[.int .i64 one] 3)) (.cells #[.int .i64 other] 3) (W.heap.size + 1 + 1) (by simp)) (.cells #[.int .i64 0, .int .i64 0] 84)) (.cells #[.int .i64 0, .int .i64 0] 84)) (.cells #[.bool false] 4)) (.map #[] 0)) (.cells #[.map (some (W.heap.size + 1 + 1 + 1 + 1 + 1 + 1))] 123)) (.cells #[.int .i64 T, .int .i64 O, .int .i64 L, .slice A R.length c, .map (some m)] 78))
 have Y3 := zh (blk_alloc (blk_alloc (blk_alloc (blk_alloc (blk_alloc (alloc_at (((W.alloc (.cells #[.int .i64 T, .int .i64 O, .int .i64 L, .slice A R.length c, .map (some m)] 78)).alloc (.cells #[.int .i64 one] 3)).alloc (.cells #[.int .i64 other] 3)) (.cells #[.int .i64 0, .int .i64 0] 84) (W.heap.size + 1 + 1 + 1) (by simp)) (.cells #[.int .i64 0, .int .i64 0] 84)) (.cells #[.bool false] 4)) (.map #[] 0)) (.cells #[.map (some (W.heap.size + 1 + 1 + 1 + 1 + 1 + 1))] 123)) (.cells #[.int .i64 T, .int .i64 O, .int .i64 L, .slice A R.length c, .map (some m)] 78))
 have Y4 := zh (blk_alloc (blk_alloc (blk_alloc (blk_alloc (alloc_at ((((W.alloc (.cells #[.int .i64 T, .int .i64 O, .int .i64 L, .slice A R.length c, .map (some m)] 78)).alloc (.cells #[.int .i64 one] 3)).alloc (.cells #[.int .i64 other] 3)).alloc (.cells #[.int .i64 0, .int .i64 0] 84)) (.cells #[.int .i64 0, .int .i64 0] 84) (W.heap.size + 1 + 1 + 1 + 1) (by simp)) (.cells #[.bool false] 4)) (.map #[] 0)) (.cells #[.map (some (W.heap.size + 1 + 1 + 1 + 1 + 1 + 1))] 123)) (.cells #[.int .i64 T, .int .i64 O, .int .i64 L, .slice A R.length c, .map (some m)] 78))
 have Y5 := zh (blk_alloc (blk_alloc (blk_alloc (alloc_at (((((W.alloc (.cells #[.int .i64 T, .int .i64 O, .int .i64 L, .slice A R.length c, .map (some m)] 78)).alloc (.cells #[.int .i64 one] 3)).alloc (.cells #[.int .i64 other] 3)).alloc (.cells #[.int .i64 0, .int .i64 0] 84)).alloc (.cells #[.int .i64 0, .int .i64 0] 84)) (.cells #[.bool false] 4) (W.heap.size + 1 + 1 + 1 + 1 + 1) (by simp)) (.map #[] 0)) (.cells #[.map (some (W.heap.size + 1 + 1 + 1 + 1 + 1 + 1))] 123)) (.cells #[.int .i64 T, .int .i64 O, .int .i64 L, .slice A R.length c, .map (some m)] 78))
 have Y6 := zh (blk_alloc (blk_alloc (alloc_at ((((((W.alloc (.cells #[.int .i64 T, .int .i64 O, .int .i64 L, .slice A R.length c, .map (some m)] 78)).alloc (.cells #[.int .i64 one] 3)).alloc (.cells #[.int .i64 other] 3)).alloc (.cells #[.int .i64 0, .int .i64 0] 84)).alloc (.cells #[.int .i64 0, .int .i64 0] 84)).alloc (.cells #[.bool false] 4)) (.map #[] 0) (W.heap.size + 1 + 1 + 1 + 1 + 1 + 1) (by simp)) (.cells #[.map (some (W.heap.size + 1 + 1 + 1 + 1 + 1 + 1))] 123)) (.cells #[.int .i64 T, .int .i64 O, .int .i64 L, .slice A R.length c, .map (some m)] 78))
 have Y7 := zh (blk_alloc (alloc_at (((((((W.alloc (.cells #[.int .i64 T, .int .i64 O, .int .i64 L, .slice A R.length c, .map (some m)] 78)).alloc (.cells #[.int .i64 one] 3)).alloc (.cells #[.int .i64 other] 3)).alloc (.cells #[.int .i64 0, .int .i64 0] 84)).alloc (.cells #[.int .i64 0, .int .i64 0] 84)).alloc (.cells #[.bool false] 4)).alloc (.map #[] 0)) (.cells #[.map (some (W.heap.size + 1 + 1 + 1 + 1 + 1 + 1))] 123) (W.heap.size + 1 + 1 + 1 + 1 + 1 + 1 + 1) (by simp)) (.cells #[.int .i64 T, .int .i64 O, .int .i64 L, .slice A R.length c, .map (some m)] 78))
 have Y8 := zh (alloc_at ((((((((W.alloc (.cells #[.int .i64 T, .int .i64 O, .int .i64 L, .slice A R.length c, .map (some m)] 78)).alloc (.cells #[.int .i64 one] 3)).alloc (.cells #[.int .i64 other] 3)).alloc (.cells #[.int .i64 0, .int .i64 0] 84)).alloc (.cells #[.int .i64 0, .int .i64 0] 84)).alloc (.cells #[.bool false] 4)).alloc (.map #[] 0)).alloc (.cells #[.map (some (W.heap.size + 1 + 1 + 1 + 1 + 1 + 1))] 123)) (.cells #[.int .i64 T, .int .i64 O, .int .i64 L, .slice A R.length c, .map (some m)] 78) (W.heap.size + 1 + 1 + 1 + 1 + 1 + 1 + 1 + 1) (by simp))

 have hsz : (((((((((W.alloc (.cells #[.int .i64 T, .int .i64 O, .int .i64 L, .slice A R.length c, .map (some m)] 78)).alloc (.cells #[.int .i64 one] 3)).alloc (.cells #[.int .i64 other] 3)).alloc (.cells #[.int .i64 0, .int .i64 0] 84)).alloc (.cells #[.int .i64 0, .int .i64 0] 84)).alloc (.cells #[.bool false] 4)).alloc (.map #[] 0)).alloc (.cells #[.map (some (W.heap.size + 1 + 1 + 1 + 1 + 1 + 1))] 123)).alloc (.cells #[.int .i64 T, .int .i64 O, .int .i64 L, .slice A R.length c, .map (some m)] 78)).heap.size = W.heap.size + 9 := by simp
 obtain ⟨W0, hW0⟩ : ∃ W0, (((((((((W.alloc (.cells #[.int .i64 T, .int .i64 O, .int .i64 L, .slice A R.length c, .map (some m)] 78)).alloc (.cells #[.int .i64 one] 3)).alloc (.cells #[.int .i64 other] 3)).alloc (.cells #[.int .i64 0, .int .i64 0] 84)).alloc (.cells #[.int .i64 0, .int .i64 0] 84)).alloc (.cells #[.bool false] 4)).alloc (.map #[] 0)).alloc (.cells #[.map (some (W.heap.size + 1 + 1 + 1 + 1 + 1 + 1))] 123)).alloc (.cells #[.int .i64 T, .int .i64 O, .int .i64 L, .slice A R.length c, .map (some m)] 78)) = W0 := ⟨_, rfl⟩
 simp only [hW0] at KA Y0 Y1 Y2 Y3 Y4 Y5 Y6 Y7 Y8 hsz ⊢
 clear hW0
 have X0 := zh (KA.out.ctx X.out)
 have hw0s := HW0.out
 refine wpIn_range (n := 9) (by omega) (gf := 88) (lb := #[.pointer (some ⟨W.heap.size + 1 + 1 + 1 + 1 + 1 + 1 + 1 + 1, 0, none⟩)]) rfl (enters_of Tryd.func88 zk rfl)
  (all_seq T O L A R c m (W.heap.size + 1 + 1 + 1 + 1 + 1 + 1 + 1 + 1) N (fun i => i < W0.heap.size ∧ i ≠ W.heap.size + 1 + 1 + 1 ∧ i ≠ W.heap.size + 1 + 1 + 1 + 1 ∧ i ≠ W.heap.size + 1 + 1 + 1 + 1 + 1 ∧ i ≠ W.heap.size + 1 + 1 + 1 + 1 + 1 + 1) W0 Y8.out ⟨by omega, by omega, by omega, by omega, by omega⟩ (by omega) hN hN') (fun i hi => hi.1) (by omega) (fun _ => rfl)
  (fun pre Wx => KR T R m (fun i => i < W0.heap.size ∧ i ≠ W.heap.size + 1 + 1 + 1 ∧ i ≠ W.heap.size + 1 + 1 + 1 + 1 ∧ i ≠ W.heap.size + 1 + 1 + 1 + 1 + 1 ∧ i ≠ W.heap.size + 1 + 1 + 1 + 1 + 1 + 1) W0 Wx ∧ MapIs E126 V84 Wx (W.heap.size + 1 + 1 + 1 + 1 + 1 + 1) (metOf (both T R one other) pre) ∧ Wx.heap[W.heap.size + 1 + 1 + 1]? = some (.cells #[.int .i64 0, .int .i64 0] 84 (0, 0)) ∧ Wx.heap[W.heap.size + 1 + 1 + 1 + 1]? = some (.cells #[.int .i64 0, .int .i64 0] 84 (0, 0)) ∧ Boxed Wx (W.heap.size + 1 + 1 + 1 + 1 + 1) 4 (.bool false) ∧ ∃ rest, pre ++ rest = pairsOf (N : Int) ∧ twins T O R one other = twinsOf (both T R one other) pre rest)
  (fun c pre Wx => c = .ret ∧ ∃ qa qb xa xb : Int, twins T O R one other = some ((qa, qb), (xa, xb)) ∧ KR T R m (fun i => i < W0.heap.size ∧ i ≠ W.heap.size + 1 + 1 + 1 ∧ i ≠ W.heap.size + 1 + 1 + 1 + 1 ∧ i ≠ W.heap.size + 1 + 1 + 1 + 1 + 1 ∧ i ≠ W.heap.size + 1 + 1 + 1 + 1 + 1 + 1) W0 Wx ∧ Wx.heap[W.heap.size + 1 + 1 + 1]? = some (.cells #[.int .i64 qa, .int .i64 qb] 84 (0, 0)) ∧ Wx.heap[W.heap.size + 1 + 1 + 1 + 1]? = some (.cells #[.int .i64 xa, .int .i64 xb] 84 (0, 0)) ∧ Boxed Wx (W.heap.size + 1 + 1 + 1 + 1 + 1) 4 (.bool true))
  (fun s X Y h hk => ⟨h.1.weak hk (fun i hi _ => hi.1), hk.map h.2.1 (by omega) (by omega), hk.cells h.2.2.1 (by omega), hk.cells h.2.2.2.1 (by omega), hk.box h.2.2.2.2.1 (by omega), h.2.2.2.2.2⟩)
  (fun c s X Y h hk => by
   obtain ⟨h1, qa, qb, xa, xb, h2, h3, h4, h5, h6⟩ := h
   exact ⟨h1, qa, qb, xa, xb, h2, h3.weak hk (fun i hi _ => hi.1), hk.cells h4 (by omega), hk.cells h5 (by omega), hk.box h6 (by omega)⟩)
  ⟨KR.refl _ _ _ _ _, ⟨#[], 0, Y6.out, rfl⟩, Y3.out, Y4.out, Y5.out, _, rfl, by unfold twins; rw [hN]; rfl⟩
  (AxBox m W0.heap.size (fun x => #[.int .i64 x.1, .int .i64 x.2]) 84 ?Fr)
  (fun x a' X Y h hk => h.keep hk)
  ?assign ?body ?done ?stop
 case assign =>
  rintro l2 pre x Wx K hI hK
  dsimp only [encP]
  gi_wp2
  refine hK _ _ ((KeepsOthers.alloc _ _).from _) ((KB.alloc T R m Wx _).round _) ⟨hI.1.step (KB.alloc T R m Wx _), (KB.alloc T R m Wx _).map hI.2.1 (by omega), (KB.alloc T R m Wx _).at hI.2.2.1 (by omega), (KB.alloc T R m Wx _).at hI.2.2.2.1 (by omega), (KB.alloc T R m Wx _).box hI.2.2.2.2.1 (by omega), hI.2.2.2.2.2⟩ ⟨Wx.heap.size, by have := hI.1.size; omega, heap_alloc_new Wx _, hI.1.size, ?_⟩
  generalize Wx.heap.size = gg
  rfl
 case body =>
  rintro l2 pre ⟨xa, xb⟩ a' Wx hl2 hok hpre ⟨hK1, hM1, h31, h41, h51, rest, hr1, hr2⟩ ⟨gp, hgm, hgp, hgl, rfl⟩
  obtain ⟨oa, oa', ob, ob'⟩ := hok
  dsimp only at oa oa' ob ob' hgp ⊢
  have HKx := zh hK1
  have HMx := zh hM1
  have H3x := zh h31
  have H4x := zh h41
  have H5x := zh h51
  have HGx := zh hgp
  have XCx := zh (hK1.ctx X0.out (fun i hi => ⟨by omega, by omega, by omega, by omega, by omega⟩))
  have Y0x := zh (hK1.at Y0.out ⟨by omega, by omega, by omega, by omega, by omega⟩ (by omega))
  have Y1x := zh (hK1.at Y1.out ⟨by omega, by omega, by omega, by omega, by omega⟩ (by omega))
  have Y2x := zh (hK1.at Y2.out ⟨by omega, by omega, by omega, by omega, by omega⟩ (by omega))
  have Y7x := zh (hK1.at Y7.out ⟨by omega, by omega, by omega, by omega, by omega⟩ (by omega))
  have hWxs := hK1.size
  obtain ⟨t, ht⟩ := hpre
  have hrest : rest = (xa, xb) :: t := by
   have e := hr1.trans ht.symm
   rw [List.append_assoc] at e
   exact List.append_cancel_left e
  subst hrest
  have HR1 := zh hr1
  have HR2 := zh hr2
  obtain ⟨x0, x1, x2, x3, x4, x5, x6, x7, he8, hk8⟩ := enc8_some (both T R one other (xa, xb))
  have HE := zh he8
  have HKEY := zh hk8
  have hfind := metOf_find (f := both T R one other) (both_len T R one other) (both_len8 R one other) (xa, xb) pre
  have z0 : Wx.cell? ⟨W.heap.size, 0, none⟩ = some (.int .i64 T) := vb Y0x 0
  have z1 : Wx.cell? ⟨W.heap.size, 1, none⟩ = some (.int .i64 O) := vb Y0x 1
  have z2 : Wx.cell? ⟨W.heap.size, 2, none⟩ = some (.int .i64 L) := vb Y0x 2
  have z3 : Wx.cell? ⟨W.heap.size, 3, none⟩ = some (.slice A R.length c) := vb Y0x 3
  have z4 : Wx.cell? ⟨W.heap.size, 4, none⟩ = some (.map (some m)) := vb Y0x 4
  have z5 : Wx.cell? ⟨W.heap.size + 1, 0, none⟩ = some (.int .i64 one) := vb Y1x 0
  have z6 : Wx.cell? ⟨W.heap.size + 1 + 1, 0, none⟩ = some (.int .i64 other) := vb Y2x 0
  have z7 : Wx.cell? ⟨gp, 0, none⟩ = some (.int .i64 xa) := vb HGx 0
  have z8 : Wx.cell? ⟨gp, 1, none⟩ = some (.int .i64 xb) := vb HGx 1
  clear hK1 hM1 h31 h41 h51 hgp hr1 hr2 ht he8 hk8
  cases hfd : pre.find? (fun q => both T R one other q == both T R one other (xa, xb)) with
  | some q =>
   obtain ⟨qa, qb⟩ := q
   rw [hfd] at hfind
   have HKV := zh (show kvGet V84 (V84 (0, 0)) (metOf (both T R one other) pre) (((x0, x1), (x2, x3)), ((x4, x5), (x6, x7))) = (.agg #[.int .i64 qa, .int .i64 qb], true) by unfold kvGet; rw [← HKEY.out, hfind]; rfl)
   have HTW := zh (HR2.out.trans (twinsOf_found _ pre (xa, xb) (qa, qb) t hfd))
   clear hfd hfind
   gi_wp2_with (first | (refine ⟨trivial, ?_⟩; gi_at_call 89; refine (CallsIn.inRound l2 (callsIn_wide.2 (both_calls T O L one other xa xb A R c m w0 Wx XCx.out r0 r1 q0 q1 oa (by omega) ob (by omega)))).mono ?_; rintro e w5 ⟨rfl, hk5⟩; rw [HE.out]; have HK5 := zh hk5; have Y75 := zh (hk5.at Y7x.out (by omega)); have HM5 := zh ((hk5.map HMx.out (by omega)).alloc (.cells #[.int .i64 x0, .int .i64 x1, .int .i64 x2, .int .i64 x3, .int .i64 x4, .int .i64 x5, .int .i64 x6, .int .i64 x7] 126)); have HG5 := zh (hk5.at HGx.out hgm); clear hk5; have c7 := cell_a1 ((blk_cell Y75.out 0).trans (show _ = some (Value.map (some (W.heap.size + 1 + 1 + 1 + 1 + 1 + 1))) from rfl)) (.cells #[.int .i64 x0, .int .i64 x1, .int .i64 x2, .int .i64 x3, .int .i64 x4, .int .i64 x5, .int .i64 x6, .int .i64 x7] 126)) | ((with_reducible refine wpListIn_look E126 V84 rfl (.tmp 24) (.tmp 25) true rfl Tryd.underlying123 rfl HM5.out (V84 (0, 0)) (zero84 _) (((x0, x1), (x2, x3)), ((x4, x5), (x6, x7))) rfl ?_); rw [HKV.out]))
   have KB5 := zh ((HK5.out.trans (KB.alloc T R m w5 (.cells #[.int .i64 x0, .int .i64 x1, .int .i64 x2, .int .i64 x3, .int .i64 x4, .int .i64 x5, .int .i64 x6, .int .i64 x7] 126))).trans (KB.alloc T R m _ (.cells #[.int .i64 qa, .int .i64 qb] 84)))
   have Q_ := zh (alloc_at (w5.alloc (.cells #[.int .i64 x0, .int .i64 x1, .int .i64 x2, .int .i64 x3, .int .i64 x4, .int .i64 x5, .int .i64 x6, .int .i64 x7] 126)) (.cells #[.int .i64 qa, .int .i64 qb] 84) (w5.heap.size + 1) (by simp))
   have P_ := zh (KB5.out.at HGx.out hgm)
   have Z3_ := zh (KB5.out.at H3x.out (by omega))
   have Z4_ := zh (KB5.out.at H4x.out (by omega))
   have Z5_ := zh (KB5.out.at H5x.out (by omega))
   have hz5 := HK5.out.kp.size
   obtain ⟨W1, hW1⟩ : ∃ W1, (w5.alloc (.cells #[.int .i64 x0, .int .i64 x1, .int .i64 x2, .int .i64 x3, .int .i64 x4, .int .i64 x5, .int .i64 x6, .int .i64 x7] 126)).alloc (.cells #[.int .i64 qa, .int .i64 qb] 84) = W1 := ⟨_, rfl⟩
   simp only [hW1] at KB5 Q_ P_ Z3_ Z4_ Z5_ ⊢
   clear hW1 c7 HM5 HG5
   have K_ := zh (KB5.out.trans (KB.of_below (T := T) (R := R) (m := m) (below_drew1 (Below.refl W1.heap.size W1))))
   replace Q_ := zh (show W1.drew.heap[w5.heap.size + 1]? = _ from Q_.out)
   replace P_ := zh (show W1.drew.heap[gp]? = _ from P_.out)
   replace Z3_ := zh (show W1.drew.heap[W.heap.size + 1 + 1 + 1]? = _ from Z3_.out)
   replace Z4_ := zh (show W1.drew.heap[W.heap.size + 1 + 1 + 1 + 1]? = _ from Z4_.out)
   replace Z5_ := zh (show W1.drew.heap[W.heap.size + 1 + 1 + 1 + 1 + 1]? = _ from Z5_.out)
   clear KB5 HK5
   refine start_in (n := 5) (S := fun w' => w'.cell? ⟨w5.heap.size + 1, 0, none⟩ = some (.int .i64 qa) ∧ w'.cell? ⟨w5.heap.size + 1, 1, none⟩ = some (.int .i64 qb) ∧ w'.cell? ⟨gp, 0, none⟩ = some (.int .i64 xa) ∧ w'.cell? ⟨gp, 1, none⟩ = some (.int .i64 xb)) (ds := []) #[false, false, false, false, false] zk rfl rfl zk dQ12 ⟨vb Q_ 0, vb Q_ 1, vb P_ 0, vb P_ 1⟩ (fun hHeld => ?_)
   refine with_tabW fTwins.tab7 fTwins.bits7 (fun HT_ HW_ => ?_)
   generalize W1.drew = W2 at K_ Q_ P_ Z3_ Z4_ Z5_ hHeld ⊢
   refine zt 0 ?_
   refine zt 1 ?_
   refine zp 2 (fun K hK => ?_)
   have c0_ : World.cell? W2 ⟨W.heap.size + 1 + 1 + 1, 0, none⟩ = some (.int .i64 0) := vb Z3_ 0
   have c1_ : World.cell? W2 ⟨W.heap.size + 1 + 1 + 1, 1, none⟩ = some (.int .i64 0) := vb Z3_ 1
   have d0_ : World.frozen? W2 ⟨W.heap.size + 1 + 1 + 1, 0, none⟩ = false := blk_frozen Z3_.out 0
   have d1_ : World.frozen? W2 ⟨W.heap.size + 1 + 1 + 1, 1, none⟩ = false := blk_frozen Z3_.out 1
   refine skip_ (w1 := ((W2.setCell ⟨W.heap.size + 1 + 1 + 1, 0, none⟩ (.int .i64 qa)).setCell ⟨W.heap.size + 1 + 1 + 1, 1, none⟩ (.int .i64 qb))) (by rfl) rfl ?hs1 ?_
   (case hs1 => first | (go_simp; done) | (go_simp; rfl))
   clear c0_ c1_ d0_ d1_
   refine hK.out _ _ ⟨(blk_cell (blk_far (blk_far Q_.out dQ1 _) dQ1 _) 0).trans rfl, (blk_cell (blk_far (blk_far Q_.out dQ1 _) dQ1 _) 1).trans rfl, (blk_cell (blk_far (blk_far P_.out dQ1 _) dQ1 _) 0).trans rfl, (blk_cell (blk_far (blk_far P_.out dQ1 _) dQ1 _) 1).trans rfl⟩ (fun hHeld => ?_)
   clear hK K
   refine zp 3 (fun K hK => ?_)
   have c0_ : World.cell? ((W2.setCell ⟨W.heap.size + 1 + 1 + 1, 0, none⟩ (.int .i64 qa)).setCell ⟨W.heap.size + 1 + 1 + 1, 1, none⟩ (.int .i64 qb)) ⟨W.heap.size + 1 + 1 + 1 + 1, 0, none⟩ = some (.int .i64 0) := (blk_cell (blk_far (blk_far Z4_.out dQ1 _) dQ1 _) 0).trans rfl
   have c1_ : World.cell? ((W2.setCell ⟨W.heap.size + 1 + 1 + 1, 0, none⟩ (.int .i64 qa)).setCell ⟨W.heap.size + 1 + 1 + 1, 1, none⟩ (.int .i64 qb)) ⟨W.heap.size + 1 + 1 + 1 + 1, 1, none⟩ = some (.int .i64 0) := (blk_cell (blk_far (blk_far Z4_.out dQ1 _) dQ1 _) 1).trans rfl
   have d0_ : World.frozen? ((W2.setCell ⟨W.heap.size + 1 + 1 + 1, 0, none⟩ (.int .i64 qa)).setCell ⟨W.heap.size + 1 + 1 + 1, 1, none⟩ (.int .i64 qb)) ⟨W.heap.size + 1 + 1 + 1 + 1, 0, none⟩ = false := blk_frozen (blk_far (blk_far Z4_.out dQ1 _) dQ1 _) 0
   have d1_ : World.frozen? ((W2.setCell ⟨W.heap.size + 1 + 1 + 1, 0, none⟩ (.int .i64 qa)).setCell ⟨W.heap.size + 1 + 1 + 1, 1, none⟩ (.int .i64 qb)) ⟨W.heap.size + 1 + 1 + 1 + 1, 1, none⟩ = false := blk_frozen (blk_far (blk_far Z4_.out dQ1 _) dQ1 _) 1
   refine skip_ (w1 := ((((W2.setCell ⟨W.heap.size + 1 + 1 + 1, 0, none⟩ (.int .i64 qa)).setCell ⟨W.heap.size + 1 + 1 + 1, 1, none⟩ (.int .i64 qb)).setCell ⟨W.heap.size + 1 + 1 + 1 + 1, 0, none⟩ (.int .i64 xa)).setCell ⟨W.heap.size + 1 + 1 + 1 + 1, 1, none⟩ (.int .i64 xb))) (by rfl) rfl ?hs2 ?_
   (case hs2 => first | (go_simp; done) | (go_simp; rfl))
   clear c0_ c1_ d0_ d1_
   refine hK.out _ _ ⟨(blk_cell (blk_far (blk_far (blk_far (blk_far Q_.out dQ1 _) dQ1 _) dQ2 _) dQ2 _) 0).trans rfl, (blk_cell (blk_far (blk_far (blk_far (blk_far Q_.out dQ1 _) dQ1 _) dQ2 _) dQ2 _) 1).trans rfl, (blk_cell (blk_far (blk_far (blk_far (blk_far P_.out dQ1 _) dQ1 _) dQ2 _) dQ2 _) 0).trans rfl, (blk_cell (blk_far (blk_far (blk_far (blk_far P_.out dQ1 _) dQ1 _) dQ2 _) dQ2 _) 1).trans rfl⟩ (fun hHeld => ?_)
   clear hK K
   refine zp 4 (fun K hK => ?_)
   have c0_ : World.cell? ((((W2.setCell ⟨W.heap.size + 1 + 1 + 1, 0, none⟩ (.int .i64 qa)).setCell ⟨W.heap.size + 1 + 1 + 1, 1, none⟩ (.int .i64 qb)).setCell ⟨W.heap.size + 1 + 1 + 1 + 1, 0, none⟩ (.int .i64 xa)).setCell ⟨W.heap.size + 1 + 1 + 1 + 1, 1, none⟩ (.int .i64 xb)) ⟨W.heap.size + 1 + 1 + 1 + 1 + 1, 0, none⟩ = some (.bool false) := (blk_cell (blk_far (blk_far (blk_far (blk_far Z5_.out dQ1 _) dQ1 _) dQ2 _) dQ2 _) 0).trans rfl
   have d0_ : World.frozen? ((((W2.setCell ⟨W.heap.size + 1 + 1 + 1, 0, none⟩ (.int .i64 qa)).setCell ⟨W.heap.size + 1 + 1 + 1, 1, none⟩ (.int .i64 qb)).setCell ⟨W.heap.size + 1 + 1 + 1 + 1, 0, none⟩ (.int .i64 xa)).setCell ⟨W.heap.size + 1 + 1 + 1 + 1, 1, none⟩ (.int .i64 xb)) ⟨W.heap.size + 1 + 1 + 1 + 1 + 1, 0, none⟩ = false := blk_frozen (blk_far (blk_far (blk_far (blk_far Z5_.out dQ1 _) dQ1 _) dQ2 _) dQ2 _) 0
   refine skip_ (w1 := (((((W2.setCell ⟨W.heap.size + 1 + 1 + 1, 0, none⟩ (.int .i64 qa)).setCell ⟨W.heap.size + 1 + 1 + 1, 1, none⟩ (.int .i64 qb)).setCell ⟨W.heap.size + 1 + 1 + 1 + 1, 0, none⟩ (.int .i64 xa)).setCell ⟨W.heap.size + 1 + 1 + 1 + 1, 1, none⟩ (.int .i64 xb)).setCell ⟨W.heap.size + 1 + 1 + 1 + 1 + 1, 0, none⟩ (.bool true))) (by rfl) rfl ?hs3 ?_
   (case hs3 => first | (go_simp; done) | (go_simp; rfl))
   clear c0_ d0_
   refine hK.out _ _ ⟨(blk_cell (blk_far (blk_far (blk_far (blk_far (blk_far Q_.out dQ1 _) dQ1 _) dQ2 _) dQ2 _) dQ7 _) 0).trans rfl, (blk_cell (blk_far (blk_far (blk_far (blk_far (blk_far Q_.out dQ1 _) dQ1 _) dQ2 _) dQ2 _) dQ7 _) 1).trans rfl, (blk_cell (blk_far (blk_far (blk_far (blk_far (blk_far P_.out dQ1 _) dQ1 _) dQ2 _) dQ2 _) dQ7 _) 0).trans rfl, (blk_cell (blk_far (blk_far (blk_far (blk_far (blk_far P_.out dQ1 _) dQ1 _) dQ2 _) dQ2 _) dQ7 _) 1).trans rfl⟩ (fun hHeld => ?_)
   clear hK K
   refine zd ?_

   gi_wp2
   exact ⟨((((((K_.out.round (fun _ => True)).keeps (fun _ _ _ => trivial) (by omega)).trans ((KeepsOthers.setCell _ _ _).from _)).trans ((KeepsOthers.setCell _ _ _).from _)).trans ((KeepsOthers.setCell _ _ _).from _)).trans ((KeepsOthers.setCell _ _ _).from _)).trans ((KeepsOthers.setCell _ _ _).from _), ((((((K_.out.round _).set (.inl (by rintro (h | h); exact h.2.1 rfl; omega)) (by omega) 0 (.int .i64 qa)).set (.inl (by rintro (h | h); exact h.2.1 rfl; omega)) (by omega) 1 (.int .i64 qb)).set (.inl (by rintro (h | h); exact h.2.2.1 rfl; omega)) (by omega) 0 (.int .i64 xa)).set (.inl (by rintro (h | h); exact h.2.2.1 rfl; omega)) (by omega) 1 (.int .i64 xb)).set (.inl (by rintro (h | h); exact h.2.2.2.1 rfl; omega)) (by omega) 0 (.bool true)), rfl, qa, qb, xa, xb, HTW.out, ((((((HKx.out.step K_.out).set (.inl (fun h => h.2.1 rfl)) (by omega) 0 (.int .i64 qa)).set (.inl (fun h => h.2.1 rfl)) (by omega) 1 (.int .i64 qb)).set (.inl (fun h => h.2.2.1 rfl)) (by omega) 0 (.int .i64 xa)).set (.inl (fun h => h.2.2.1 rfl)) (by omega) 1 (.int .i64 xb)).set (.inl (fun h => h.2.2.2.1 rfl)) (by omega) 0 (.bool true)), (blk_far (blk_far (blk_far (blk_put (cs' := #[.int .i64 qa, .int .i64 qb]) (blk_put (cs' := #[.int .i64 qa, .int .i64 0]) Z3_.out 0 (.int .i64 qa) rfl) 1 (.int .i64 qb) rfl) dQ2 _) dQ2 _) dQ7 _), (blk_far (blk_put (cs' := #[.int .i64 xa, .int .i64 xb]) (blk_put (cs' := #[.int .i64 xa, .int .i64 0]) (blk_far (blk_far Z4_.out dQ1 _) dQ1 _) 0 (.int .i64 xa) rfl) 1 (.int .i64 xb) rfl) dQ7 _), (Boxed.set _ (blk_far (blk_far (blk_far (blk_far Z5_.out dQ1 _) dQ1 _) dQ2 _) dQ2 _))⟩
  | none =>
   rw [hfd] at hfind
   have HKV := zh (show kvGet V84 (V84 (0, 0)) (metOf (both T R one other) pre) (((x0, x1), (x2, x3)), ((x4, x5), (x6, x7))) = (.agg #[.int .i64 0, .int .i64 0], false) by unfold kvGet; rw [← HKEY.out, hfind]; rfl)
   have HTW := zh (HR2.out.trans (twinsOf_step _ pre (xa, xb) t hfd))
   have HSET := zh (metOf_set (f := both T R one other) (both_len T R one other) (both_len8 R one other) (xa, xb) pre hfd)
   rw [HKEY.out] at HSET
   clear hfd hfind
   gi_wp2_with (first | (refine ⟨trivial, ?_⟩; gi_at_call 89; refine (CallsIn.inRound l2 (callsIn_wide.2 (both_calls T O L one other xa xb A R c m w0 Wx XCx.out r0 r1 q0 q1 oa (by omega) ob (by omega)))).mono ?_; rintro e w5 ⟨rfl, hk5⟩; rw [HE.out]; have HK5 := zh hk5; have Y75 := zh (hk5.at Y7x.out (by omega)); have HM5 := zh ((hk5.map HMx.out (by omega)).alloc (.cells #[.int .i64 x0, .int .i64 x1, .int .i64 x2, .int .i64 x3, .int .i64 x4, .int .i64 x5, .int .i64 x6, .int .i64 x7] 126)); have HG5 := zh (hk5.at HGx.out hgm); have KB5 := zh ((hk5.trans (KB.alloc T R m w5 (.cells #[.int .i64 x0, .int .i64 x1, .int .i64 x2, .int .i64 x3, .int .i64 x4, .int .i64 x5, .int .i64 x6, .int .i64 x7] 126))).trans (KB.alloc T R m _ (.cells #[.int .i64 0, .int .i64 0] 84))); clear hk5; have c7 := cell_a1 ((blk_cell Y75.out 0).trans (show _ = some (Value.map (some (W.heap.size + 1 + 1 + 1 + 1 + 1 + 1))) from rfl)) (.cells #[.int .i64 x0, .int .i64 x1, .int .i64 x2, .int .i64 x3, .int .i64 x4, .int .i64 x5, .int .i64 x6, .int .i64 x7] 126); have d7 := cell_a1 c7 (.cells #[.int .i64 0, .int .i64 0] 84); have d0 := cell_a2 ((blk_cell HG5.out 0).trans (show _ = some (Value.int .i64 xa) from rfl)) (.cells #[.int .i64 x0, .int .i64 x1, .int .i64 x2, .int .i64 x3, .int .i64 x4, .int .i64 x5, .int .i64 x6, .int .i64 x7] 126) (.cells #[.int .i64 0, .int .i64 0] 84); have d1 := cell_a2 ((blk_cell HG5.out 1).trans (show _ = some (Value.int .i64 xb) from rfl)) (.cells #[.int .i64 x0, .int .i64 x1, .int .i64 x2, .int .i64 x3, .int .i64 x4, .int .i64 x5, .int .i64 x6, .int .i64 x7] 126) (.cells #[.int .i64 0, .int .i64 0] 84)) | ((with_reducible refine wpListIn_look E126 V84 rfl (.tmp 24) (.tmp 25) true rfl Tryd.underlying123 rfl HM5.out (V84 (0, 0)) (zero84 _) (((x0, x1), (x2, x3)), ((x4, x5), (x6, x7))) rfl ?_); rw [HKV.out]) | ((with_reducible refine wpListIn_update E126 V84 rfl (.tmp 32) (.tmp 33) (.tmp 34) rfl Tryd.underlying123 rfl (HM5.out.alloc _) (((x0, x1), (x2, x3)), ((x4, x5), (x6, x7))) (xa, xb) rfl rfl ?_); intro w9 hm9 hg9))
   have hz5 := KB5.out.kp.size
   exact ⟨((KB5.out.round (fun _ => True)).keeps (fun _ _ _ => trivial) (by omega)).trans (KeepsFrom.of_grownBy hg9 (fun j hj => by injection hj; omega)), (KB5.out.round _).grown hg9 (.inl (by rintro (h | h); exact h.2.2.2.2 rfl; omega)) (by omega), (HKx.out.step KB5.out).grown hg9 (.inl (fun h => h.2.2.2.2 rfl)) (by omega), by rw [← HSET.out]; exact hm9, (hg9.block _ (by omega) (by intro e; injection e; omega)).trans (KB5.out.at H3x.out (by omega)), (hg9.block _ (by omega) (by intro e; injection e; omega)).trans (KB5.out.at H4x.out (by omega)), (hg9.block _ (by omega) (by intro e; injection e; omega)).trans (KB5.out.at H5x.out (by omega)), t, by rw [List.append_assoc]; exact HR1.out, HTW.out⟩
 case done =>
  rintro D Wx hD ⟨hK1, hM1, h31, h41, h51, rest, hr1, hr2⟩ hKd
  have hrest : rest = [] := by simpa using hr1
  rw [hrest] at hr2
  have HTW := zh (show twins T O R one other = none from hr2.trans (by rw [twinsOf]))
  have HKx := zh hK1
  have H3x := zh h31
  have H4x := zh h41
  have H5x := zh h51
  have HD := zh hKd
  have y0 : Wx.cell? ⟨W.heap.size + 1 + 1 + 1, 0, none⟩ = some (.int .i64 0) := vb H3x 0
  have y1 : Wx.cell? ⟨W.heap.size + 1 + 1 + 1, 1, none⟩ = some (.int .i64 0) := vb H3x 1
  have y2 : Wx.cell? ⟨W.heap.size + 1 + 1 + 1 + 1, 0, none⟩ = some (.int .i64 0) := vb H4x 0
  have y3 : Wx.cell? ⟨W.heap.size + 1 + 1 + 1 + 1, 1, none⟩ = some (.int .i64 0) := vb H4x 1
  have y4 : Wx.cell? ⟨W.heap.size + 1 + 1 + 1 + 1 + 1, 0, none⟩ = some (.bool false) := vb H5x 0
  have v0 := blk_frozen H3x.out 0
  have v1 := blk_frozen H3x.out 1
  have v2 := blk_frozen H4x.out 0
  have v3 := blk_frozen H4x.out 1
  have v4 := blk_frozen H5x.out 0
  clear hK1 hM1 h31 h41 h51 hr1 hr2 hKd hrest
  gi_wp2
  have HDz := zh (((KeepsOthers.setCell ((((Wx.setCell ⟨W.heap.size + 1 + 1 + 1, 0, none⟩ (.int .i64 0)).setCell ⟨W.heap.size + 1 + 1 + 1, 1, none⟩ (.int .i64 0)).setCell ⟨W.heap.size + 1 + 1 + 1 + 1, 0, none⟩ (.int .i64 0)).setCell ⟨W.heap.size + 1 + 1 + 1 + 1, 1, none⟩ (.int .i64 0)) ⟨W.heap.size + 1 + 1 + 1 + 1 + 1, 0, none⟩ (.bool false)).same D _ (((KeepsOthers.setCell (((Wx.setCell ⟨W.heap.size + 1 + 1 + 1, 0, none⟩ (.int .i64 0)).setCell ⟨W.heap.size + 1 + 1 + 1, 1, none⟩ (.int .i64 0)).setCell ⟨W.heap.size + 1 + 1 + 1 + 1, 0, none⟩ (.int .i64 0)) ⟨W.heap.size + 1 + 1 + 1 + 1, 1, none⟩ (.int .i64 0)).same D _ (((KeepsOthers.setCell ((Wx.setCell ⟨W.heap.size + 1 + 1 + 1, 0, none⟩ (.int .i64 0)).setCell ⟨W.heap.size + 1 + 1 + 1, 1, none⟩ (.int .i64 0)) ⟨W.heap.size + 1 + 1 + 1 + 1, 0, none⟩ (.int .i64 0)).same D _ (((KeepsOthers.setCell (Wx.setCell ⟨W.heap.size + 1 + 1 + 1, 0, none⟩ (.int .i64 0)) ⟨W.heap.size + 1 + 1 + 1, 1, none⟩ (.int .i64 0)).same D _ (((KeepsOthers.setCell Wx ⟨W.heap.size + 1 + 1 + 1, 0, none⟩ (.int .i64 0)).same D _ (HD.out) rfl)) rfl)) rfl)) rfl)) rfl))
  have HKz := zh ((((((HKx.out.set (.inl (fun h => h.2.1 rfl)) (by omega) 0 (.int .i64 0)).set (.inl (fun h => h.2.1 rfl)) (by omega) 1 (.int .i64 0)).set (.inl (fun h => h.2.2.1 rfl)) (by omega) 0 (.int .i64 0)).set (.inl (fun h => h.2.2.1 rfl)) (by omega) 1 (.int .i64 0)).set (.inl (fun h => h.2.2.2.1 rfl)) (by omega) 0 (.bool false)))
  have H3z := zh (blk_far (blk_far (blk_far (blk_put (cs' := #[.int .i64 0, .int .i64 0]) (blk_put (cs' := #[.int .i64 0, .int .i64 0]) H3x.out 0 (.int .i64 0) rfl) 1 (.int .i64 0) rfl) (p := ⟨W.heap.size + 1 + 1 + 1 + 1, 0, none⟩) dQ2 (.int .i64 0)) (p := ⟨W.heap.size + 1 + 1 + 1 + 1, 1, none⟩) dQ2 (.int .i64 0)) (p := ⟨W.heap.size + 1 + 1 + 1 + 1 + 1, 0, none⟩) dQ7 (.bool false))
  have H4z := zh (blk_far (blk_put (cs' := #[.int .i64 0, .int .i64 0]) (blk_put (cs' := #[.int .i64 0, .int .i64 0]) (blk_far (blk_far H4x.out (p := ⟨W.heap.size + 1 + 1 + 1, 0, none⟩) dQ1 (.int .i64 0)) (p := ⟨W.heap.size + 1 + 1 + 1, 1, none⟩) dQ1 (.int .i64 0)) 0 (.int .i64 0) rfl) 1 (.int .i64 0) rfl) (p := ⟨W.heap.size + 1 + 1 + 1 + 1 + 1, 0, none⟩) dQ7 (.bool false))
  have H5z := zh (Boxed.set (.bool false) (blk_far (blk_far (blk_far (blk_far H5x.out (p := ⟨W.heap.size + 1 + 1 + 1, 0, none⟩) dQ1 (.int .i64 0)) (p := ⟨W.heap.size + 1 + 1 + 1, 1, none⟩) dQ1 (.int .i64 0)) (p := ⟨W.heap.size + 1 + 1 + 1 + 1, 0, none⟩) dQ2 (.int .i64 0)) (p := ⟨W.heap.size + 1 + 1 + 1 + 1, 1, none⟩) dQ2 (.int .i64 0)))
  obtain ⟨Wz, hwz⟩ : ∃ Wz, (((((Wx.setCell ⟨W.heap.size + 1 + 1 + 1, 0, none⟩ (.int .i64 0)).setCell ⟨W.heap.size + 1 + 1 + 1, 1, none⟩ (.int .i64 0)).setCell ⟨W.heap.size + 1 + 1 + 1 + 1, 0, none⟩ (.int .i64 0)).setCell ⟨W.heap.size + 1 + 1 + 1 + 1, 1, none⟩ (.int .i64 0)).setCell ⟨W.heap.size + 1 + 1 + 1 + 1 + 1, 0, none⟩ (.bool false)) = Wz := ⟨_, rfl⟩
  simp only [hwz] at HDz HKz H3z H4z H5z ⊢
  clear hwz y0 y1 y2 y3 y4 v0 v1 v2 v3 v4
  replace H3z := zh (blk_putObj (o' := .deferred none) H3z.out HDz.out rfl)
  replace H4z := zh (blk_putObj (o' := .deferred none) H4z.out HDz.out rfl)
  replace H5z := zh (blk_putObj (o' := .deferred none) H5z.out HDz.out rfl)
  have y0 : (Wz.putObj D (.deferred none)).cell? ⟨W.heap.size + 1 + 1 + 1, 0, none⟩ = some (.int .i64 0) := vb H3z 0
  have y1 : (Wz.putObj D (.deferred none)).cell? ⟨W.heap.size + 1 + 1 + 1, 1, none⟩ = some (.int .i64 0) := vb H3z 1
  have y2 : (Wz.putObj D (.deferred none)).cell? ⟨W.heap.size + 1 + 1 + 1 + 1, 0, none⟩ = some (.int .i64 0) := vb H4z 0
  have y3 : (Wz.putObj D (.deferred none)).cell? ⟨W.heap.size + 1 + 1 + 1 + 1, 1, none⟩ = some (.int .i64 0) := vb H4z 1
  have y4 : (Wz.putObj D (.deferred none)).cell? ⟨W.heap.size + 1 + 1 + 1 + 1 + 1, 0, none⟩ = some (.bool false) := vb H5z 0
  refine ⟨by simp, .inl ⟨_, _, rfl, run_takeDeferred HDz.out, ?_⟩⟩
  refine ⟨.tuple #[.agg #[.int .i64 0, .int .i64 0], .agg #[.int .i64 0, .int .i64 0], .bool false], by simp [results, Tryd.results77, go_sem, hu84, y0, y1, y2, y3, y4], by rw [HTW.out]; rfl, ?_⟩
  exact KR.kbs KA.out (HKz.out.putObj D _ (.inl (fun h => absurd h.1 (by omega))) (by omega)) (fun i hi => ⟨by omega, by omega, by omega, by omega, by omega⟩)
 case stop =>
  rintro D c pre Wx hD hpre ⟨rfl, qa, qb, xa, xb, htw, hK1, h31, h41, h51⟩ hKd
  have HTW := zh htw
  have HKx := zh hK1
  have HD := zh hKd
  have H3x := zh (blk_putObj (o' := .deferred none) h31 hKd rfl)
  have H4x := zh (blk_putObj (o' := .deferred none) h41 hKd rfl)
  have H5x := zh (blk_putObj (o' := .deferred none) h51 hKd rfl)
  clear htw hK1 h31 h41 h51 hKd
  gi_wp2
  have y0 : (Wx.putObj D (.deferred none)).cell? ⟨W.heap.size + 1 + 1 + 1, 0, none⟩ = some (.int .i64 qa) := vb H3x 0
  have y1 : (Wx.putObj D (.deferred none)).cell? ⟨W.heap.size + 1 + 1 + 1, 1, none⟩ = some (.int .i64 qb) := vb H3x 1
  have y2 : (Wx.putObj D (.deferred none)).cell? ⟨W.heap.size + 1 + 1 + 1 + 1, 0, none⟩ = some (.int .i64 xa) := vb H4x 0
  have y3 : (Wx.putObj D (.deferred none)).cell? ⟨W.heap.size + 1 + 1 + 1 + 1, 1, none⟩ = some (.int .i64 xb) := vb H4x 1
  have y4 : (Wx.putObj D (.deferred none)).cell? ⟨W.heap.size + 1 + 1 + 1 + 1 + 1, 0, none⟩ = some (.bool true) := vb H5x 0
  refine ⟨by simp, .inl ⟨_, _, rfl, run_takeDeferred HD.out, ?_⟩⟩
  refine ⟨.tuple #[.agg #[.int .i64 qa, .int .i64 qb], .agg #[.int .i64 xa, .int .i64 xb], .bool true], by simp [results, Tryd.results77, go_sem, hu84, y0, y1, y2, y3, y4], by rw [HTW.out]; rfl, ?_⟩
  exact KR.kbs KA.out (HKx.out.putObj D _ (.inl (fun h => absurd h.1 (by omega))) (by omega)) (fun i hi => ⟨by omega, by omega, by omega, by omega, by omega⟩)
end Go.Proofs.YtagkfkdoibnhfaaDoor.K
end
section
namespace Go.Proofs.YtagkfkdoibnhfaaDoor.K
open Go.RowKit Go.Shelf Go.Proofs.YtagkfkdoibnhfaaDoorW.PrintWords Go.Proofs.YtagkfkdoibnhfaaDoorW.PrintLast Go.Proofs.YtagkfkdoibnhfaaDoorW.PrintMore Go.Proofs.YtagkfkdoibnhfaaDoor.H
set_option linter.unusedVariables false
set_option linter.unusedSimpArgs false
attribute [local go_sem] Oper.semAt_some
def rpTo (n i k : Nat) : List (Nat × Nat) := ((List.range i).flatMap fun i => (List.range (n - (i + 1))).map fun k => (i, i + 1 + k)) ++ (List.range k).map fun k => (i, i + 1 + k)
theorem rpTo_snoc (n i k : Nat) : rpTo n i (k + 1) = rpTo n i k ++ [(i, i + 1 + k)] := by unfold rpTo; rw [List.range_succ, List.map_append, List.append_assoc]; rfl
theorem rpTo_row (n i : Nat) : rpTo n (i + 1) 0 = rpTo n i (n - (i + 1)) := by
 unfold rpTo
 rw [List.range_succ, List.flatMap_append]
 simp
theorem rpTo_all (n : Nat) : rpTo n n 0 = registerPairs n := by unfold rpTo registerPairs; simp
def plTo (T O : Int) (R : List S66) (i k : Nat) : List S61 := ((rpTo R.length i k).filter fun p => (twins T O R (p.1 : Int) (p.2 : Int)).isNone).map fun p => ⟨(p.1 : Int), (p.2 : Int)⟩
theorem plTo_yes (T O : Int) (R : List S66) (i k : Nat) (h : twins T O R (i : Int) ((i + 1 + k : Nat) : Int) = none) : plTo T O R i (k + 1) = plTo T O R i k ++ [⟨(i : Int), ((i + 1 + k : Nat) : Int)⟩] := by
 unfold plTo
 rw [rpTo_snoc, List.filter_append, List.map_append]
 congr 1
 have e : (fun p : Nat × Nat => (twins T O R (p.1 : Int) (p.2 : Int)).isNone) (i, i + 1 + k) = true := by show (twins T O R (i : Int) ((i + 1 + k : Nat) : Int)).isNone = true; rw [h]; rfl
 rw [List.filter_cons_of_pos (p := fun p : Nat × Nat => (twins T O R (p.1 : Int) (p.2 : Int)).isNone) e]
 rfl
theorem plTo_no (T O : Int) (R : List S66) (i k : Nat) (q) (h : twins T O R (i : Int) ((i + 1 + k : Nat) : Int) = some q) : plTo T O R i (k + 1) = plTo T O R i k := by
 unfold plTo
 have e : ¬ (fun p : Nat × Nat => (twins T O R (p.1 : Int) (p.2 : Int)).isNone) (i, i + 1 + k) = true := by show ¬ (twins T O R (i : Int) ((i + 1 + k : Nat) : Int)).isNone = true; rw [h]; simp
 rw [rpTo_snoc, List.filter_append, List.map_append, List.filter_cons_of_neg (p := fun p : Nat × Nat => (twins T O R (p.1 : Int) (p.2 : Int)).isNone) e]
 simp
theorem plTo_row (T O : Int) (R : List S66) (i : Nat) : plTo T O R (i + 1) 0 = plTo T O R i (R.length - (i + 1)) := by unfold plTo; rw [rpTo_row]
theorem rpTo_len (n : Nat) : ∀ i k, (rpTo n i k).length ≤ i * n + k := by
 intro i
 induction i with
 | zero => intro k; simp [rpTo]
 | succ i ih =>
  intro k
  have h1 := ih (n - (i + 1))
  have e : rpTo n (i + 1) k = rpTo n i (n - (i + 1)) ++ (List.range k).map fun k => (i + 1, i + 1 + 1 + k) := by
   unfold rpTo
   rw [List.range_succ, List.flatMap_append]
   simp
  rw [e, List.length_append, List.length_map, List.length_range]
  have h2 : n - (i + 1) ≤ n := Nat.sub_le _ _
  rw [Nat.succ_mul]
  omega
theorem plTo_len (T O : Int) (R : List S66) (i k : Nat) (h : R.length ≤ 5) (hi : i ≤ 5) (hk : k ≤ 5) : (plTo T O R i k).length ≤ 30 := by
 have h1 : (plTo T O R i k).length ≤ (rpTo R.length i k).length := by unfold plTo; rw [List.length_map]; exact List.length_filter_le _ _
 have h2 := rpTo_len R.length i k
 have h3 : i * R.length ≤ 5 * 5 := Nat.mul_le_mul hi h
 omega
def PairsPost (l : List S61) (n : Int) (w : World) (e : Ending) (w' : World) : Prop :=
 ∃ v0_ : Value, e = .returned (.tuple #[v0_, .int .i64 n]) ∧ Kd.V k61 61 w' w.heap.size (fun k_ => w.heap.size ≤ k_) v0_ l ∧ Below w.heap.size w w'
set_option maxRecDepth 100000 in
set_option maxHeartbeats 4000000 in
theorem pairs_bad (T O L : Int) (A : Option Addr) (R : List S66) (c : Nat) (w : World) (hR : Kd.C k66 w A R.length R) (hc : R.length ≤ c) (hG : Glob w) (hb : okScale T O L R = false) :
  Calls Tryd.prog 33 #[.agg #[.int .i64 T, .int .i64 O, .int .i64 L, .slice A R.length c]] w (PairsPost [] 60 w) := by
 have hu24 := Tryd.underlying24
 have hu78 := Tryd.underlying78
 have HB0 := zh (below_alloc (Below.refl w.heap.size w) (.cells #[.int .i64 T, .int .i64 O, .int .i64 L, .slice A R.length c] 24))
 have HR := zh (Kd.C_below hR HB0.out)
 have HG := zh (hG.below HB0.out)
 have HBAD := zh hb
 clear hR hG hb
 go_enter Tryd.func33, Tryd.ntmps33
 go_wp2_with (first | (go_at_call 53; (with_reducible refine (opened_always T O L A R c true _ HR.out hc HG.out (fun hok W m hx => (always_calls T O L A R.length c m W).mono dQ8)).mono ?_); rintro e w1 hp; obtain ⟨rfl, hb1⟩ := hp.bad (.inl ⟨HBAD.out, rfl⟩); have HB1 := zh (HB0.out.trans (hb1.mono (by simp))); clear hp hb1))
 go_ret2
 exact ⟨_, rfl, Kd.V_nil _ _ _ _ _, below_alloc HB1.out _⟩
set_option maxRecDepth 100000 in
set_option maxHeartbeats 4000000 in
theorem pairs_ok (T O L : Int) (A : Option Addr) (R : List S66) (c : Nat) (w : World) (hR : Kd.C k66 w A R.length R) (hc : R.length ≤ c) (hG : Glob w) (h1 : okScale T O L R = true) :
  Calls Tryd.prog 33 #[.agg #[.int .i64 T, .int .i64 O, .int .i64 L, .slice A R.length c]] w (PairsPost (((registerPairs R.length).filter fun p => (twins T O R (p.1 : Int) (p.2 : Int)).isNone).map fun p => ⟨(p.1 : Int), (p.2 : Int)⟩) 0 w) := by
 have hu24 := Tryd.underlying24
 have hu78 := Tryd.underlying78
 have hu84 := Tryd.underlying84
 have hu61 := Tryd.underlying61
 have HB0 := zh (below_alloc (Below.refl w.heap.size w) (.cells #[.int .i64 T, .int .i64 O, .int .i64 L, .slice A R.length c] 24))
 have HR := zh (Kd.C_below hR HB0.out)
 have HG := zh (hG.below HB0.out)
 have HR0 := zh hR
 have HG0 := zh hG
 have HOK := zh h1
 obtain ⟨t1, t2, t3, t4, t5, t6, t7, t8, t9, t10⟩ := okScale_regs h1
 have mr := mul_range t1 t2 t3 t4
 obtain ⟨N, hN⟩ : ∃ N : Nat, T * O = (N : Int) := Int.eq_ofNat_of_zero_le (by omega)
 have hN' : N ≤ 100 := by omega
 clear hR hG h1 t1 t2 t3 t4 t5 t6 t7 t10
 go_enter Tryd.func33, Tryd.ntmps33
 go_wp2_with (first | (go_at_call 53; (with_reducible refine (opened_always T O L A R c true _ HR.out hc HG.out (fun hok W m hx => (always_calls T O L A R.length c m W).mono dQ8)).mono ?_); rintro e w1 hp; obtain ⟨m, rfl, hx⟩ := hp.good HOK.out rfl; have HX := zh ((hx.elder HB0.out HR0.out HG0.out)); clear hp hx))
 have hmw := HX.out.memo.lt
 have hm0 := HX.out.hm
 have B8 := zh (alloc_at w1 (.cells #[.int .i64 T, .int .i64 O, .int .i64 L, .slice A R.length c, .map (some m)] 78) w1.heap.size rfl)
 have X8 := zh (HX.out.below (below_alloc (Below.refl w1.heap.size w1) (.cells #[.int .i64 T, .int .i64 O, .int .i64 L, .slice A R.length c, .map (some m)] 78)))
 have n8 : w1.heap.size ≠ m := by omega
 have h80 := HX.out.base.size
 obtain ⟨w2, hw2⟩ : ∃ w2, w1.alloc (.cells #[.int .i64 T, .int .i64 O, .int .i64 L, .slice A R.length c, .map (some m)] 78) = w2 := ⟨_, rfl⟩
 simp only [hw2] at B8 X8 ⊢
 clear hw2
 go_loopw [6, 24] (fun v u wr => ∃ i : Nat, i ≤ R.length ∧ u = .int .i64 i ∧ Aside0 (Kd.R k61 61 wr w.heap.size (fun k_ => w.heap.size ≤ k_) v (plTo T O R i 0)) ∧ Aside0 (plTo T O R i 0 = [] → v = .slice none 0 0) ∧ Aside0 (Ctx w wr T A R m) ∧ Aside0 (wr.heap[w1.heap.size]? = some (.cells #[.int .i64 T, .int .i64 O, .int .i64 L, .slice A R.length c, .map (some m)] 78 (0, 0)))) (fun _ u _ => R.length - (intOf u).toNat)
 case atStart => exact ⟨0, Nat.zero_le _, rfl, ⟨Kd.R_nil _ _ _ _ _⟩, ⟨fun _ => rfl⟩, X8, B8⟩
 case round =>
  obtain ⟨i, hi, rfl, HO, HN, XC, C8⟩ := hrel
  by_cases hlt : i < R.length
  ·have hlt' : (i : Int) < (R.length : Int) := by omega
   obtain ⟨wo, rfl⟩ : ∃ wo : World, wo = wr := ⟨_, rfl⟩
   go_wp2
   go_loopw [6, 8] (fun v u wr => ∃ k : Nat, i + 1 + k ≤ R.length ∧ u = .int .i64 ((i + 1 + k : Nat) : Int) ∧ Aside0 (Kd.R k61 61 wr w.heap.size (fun k_ => w.heap.size ≤ k_) v (plTo T O R i k)) ∧ Aside0 (plTo T O R i k = [] → v = .slice none 0 0) ∧ Aside0 (Ctx w wr T A R m) ∧ Aside0 (wr.heap[w1.heap.size]? = some (.cells #[.int .i64 T, .int .i64 O, .int .i64 L, .slice A R.length c, .map (some m)] 78 (0, 0)))) (fun _ u _ => R.length - (intOf u).toNat)
   case atStart => exact ⟨0, by omega, by go_num, HO, HN, XC, C8⟩
   case round =>
    obtain ⟨k, hk, rfl, HO2, HN2, XC2, C82⟩ := hrel
    have z0 : wr.cell? ⟨w1.heap.size, 0, none⟩ = some (.int .i64 T) := vb C82 0
    have z1 : wr.cell? ⟨w1.heap.size, 1, none⟩ = some (.int .i64 O) := vb C82 1
    have z2 : wr.cell? ⟨w1.heap.size, 2, none⟩ = some (.int .i64 L) := vb C82 2
    have z3 : wr.cell? ⟨w1.heap.size, 3, none⟩ = some (.slice A R.length c) := vb C82 3
    have z4 : wr.cell? ⟨w1.heap.size, 4, none⟩ = some (.map (some m)) := vb C82 4
    by_cases hlk : i + 1 + k < R.length
    ·have hlk' : ((i + 1 + k : Nat) : Int) < (R.length : Int) := by omega
     have hpl := plTo_len T O R i k t9 (by omega) (by omega)
     generalize hq : ((i + 1 + k : Nat) : Int) = q at *
     have HQ := zh hq
     have q0 : 0 ≤ q := by omega
     clear hq
     have HTC := zh (twins_calls T O L (i : Int) q A R c m N w wr XC2.out (by omega) hlt' q0 hlk' hN hN')
     cases htw : twins T O R (i : Int) q with
     | none =>
      rw [htw] at HTC
      have HPL := zh (plTo_yes T O R i k (by rw [HQ.out]; exact htw))
      clear htw
      go_wp2_with (first | (go_at_call 77; (with_reducible refine HTC.out.mono ?_); rintro e w3 ⟨rfl, hk3⟩; simp only [twinsVal]; have K3 := zh hk3; have X3 := zh (hk3.ctx' XC2.out); have C83 := zh (hk3.at C82.out n8); have HO3 := zh (R_kept XC2.out.memo hk3.kp HO2.out); have h3s := hk3.kp.size; have hws := X3.out.base.size; clear hk3) | ((with_reducible refine gate_builtin (b := .append) (xs := #[.tmp 47, .tmp 51]) rfl ?_); at_builtin; refine Kd.R_append k61 (w0 := w) w.heap.size rfl (.tmp 47) (.tmp 51) 44 61 (.agg #[(.int .i64 0), (.int .i64 0)]) 16 rfl Tryd.underlying44 info61 rfl (by decide) (by omega) u6 (plTo T O R i k) (⟨(i : Int), q⟩ : S61) [.int .i64 (i : Int), .int .i64 q] (fun k_ => w.heap.size ≤ k_) (fun _ => False) rfl (by show Value.slice (some ⟨w3.heap.size + 1 + 1, 0, none⟩) 1 1 = _; simp) ?aP (fun _ hk => hk.elim) ?aF ?aO ?aB ?aS ?aL ?_; (case aP => exact k61_mkM _ _ _ (⟨(i : Int), q⟩ : S61)); (case aF => (intro k_ hk_; simp at hk_; show w.heap.size ≤ k_; omega)); (case aO => exact Kd.R_alloc (Kd.R_alloc HO3.out _) _); (case aB => exact below_alloc (below_alloc X3.out.base _) _); (case aS => (simp; omega)); (case aL => omega); intro v5 w5 hO5 hB5 hg5 hat; have HO5 := zh hO5; have HB5 := zh hB5; have HG5 := zh hg5; clear hO5 hB5 hg5 hat))
      have hne : some m ≠ u6.ownBlock := fun e_ => (R_nomap XC2.out.memo HO2.out).1 m e_.symm |>.2 rfl
      have hn8 : some w1.heap.size ≠ u6.ownBlock := Kd.R_ne HO2.out C82.out (by decide)
      have hml := X3.out.memo.lt
      have h8l := blk_lt C83.out
      go_roundw
      case rel => exact ⟨k + 1, by omega, by rw [← HQ.out]; go_num, ⟨by rw [HPL.out, HQ.out]; exact HO5.out⟩, ⟨fun h => by rw [HPL.out] at h; simp at h⟩, ⟨{ X3.out with base := HB5.out, memo := ((X3.out.memo.alloc _).alloc _).move (HG5.out.block m (by simp; omega) hne) }⟩, ⟨(HG5.out.block w1.heap.size (by simp; omega) hn8).trans (blk_alloc (blk_alloc C83.out _) _)⟩⟩
      case measure => simp [intOf]; omega
     | some pq =>
      rw [htw] at HTC
      have HPL := zh (plTo_no T O R i k pq (by rw [HQ.out]; exact htw))
      clear htw
      obtain ⟨⟨p0, p1⟩, ⟨p2, p3⟩⟩ := pq
      go_wp2_with (first | (go_at_call 77; (with_reducible refine HTC.out.mono ?_); rintro e w3 ⟨rfl, hk3⟩; simp only [twinsVal]; have K3 := zh hk3; have X3 := zh (hk3.ctx' XC2.out); have C83 := zh (hk3.at C82.out n8); have HO3 := zh (R_kept XC2.out.memo hk3.kp HO2.out); have h3s := hk3.kp.size; have hws := X3.out.base.size; clear hk3))
      go_roundw
      case rel => exact ⟨k + 1, by omega, by rw [← HQ.out]; go_num, ⟨by rw [HPL.out]; exact Kd.R_alloc (Kd.R_alloc HO3.out _) _⟩, ⟨by rw [HPL.out]; exact HN2.out⟩, ⟨X3.out.below (below_alloc (below_alloc (Below.refl _ _) _) _)⟩, ⟨blk_alloc (blk_alloc C83.out _) _⟩⟩
      case measure => simp [intOf]; omega
    ·obtain rfl : k = R.length - (i + 1) := by omega
     have hlk' : ¬ ((i + 1 + (R.length - (i + 1)) : Nat) : Int) < (R.length : Int) := by omega
     go_wp2
     go_roundw
     case rel => exact ⟨i + 1, by omega, by go_num, ⟨by rw [plTo_row]; exact HO2.out⟩, ⟨by rw [plTo_row]; exact HN2.out⟩, XC2, C82⟩
     case measure => simp [intOf]; omega
  ·obtain rfl : i = R.length := by omega
   have hlt' : ¬ (R.length : Int) < (R.length : Int) := by omega
   have hpl := plTo_len T O R R.length 0 t9 (by omega) (by omega)
   have HALL := zh (show plTo T O R R.length 0 = (((registerPairs R.length).filter fun p => (twins T O R (p.1 : Int) (p.2 : Int)).isNone).map fun p => ⟨(p.1 : Int), (p.2 : Int)⟩) by unfold plTo; rw [rpTo_all])
   by_cases hne : plTo T O R R.length 0 = []
   ·have hv := HN.out hne
    subst hv
    have HNE := zh hne
    clear hne
    go_wp2
    go_ret2
    exact ⟨_, rfl, by rw [← HALL.out, HNE.out]; exact Kd.V_nil _ _ _ _ _, XC.out.base⟩
   ·have hO := HO.out
    clear HO HN
    generalize plTo T O R R.length 0 = l at hO hne hpl HALL
    have hne' : 0 < l.length := List.length_pos_iff.2 hne
    clear hne
    obtain ⟨g, cap, rfl, hg1, hg2, cells, hg3⟩ := Kd.R_form hO hne'
    have HO2 := zh hO
    have hcp : ((l.length : Nat) : Int) ≤ (cap : Int) := by have := (Kd.R_reads' hO).2.1; omega
    have h00 : (0 : Int) ≤ (l.length : Int) := by omega
    have hle : (l.length : Int) ≤ (l.length : Int) := by omega
    have htn : ((l.length : Int)).toNat = l.length := by omega
    clear hO hg3
    go_wp2
    go_ret2
    refine ⟨_, rfl, ?_, XC.out.base⟩
    rw [← HALL.out]
    exact Kd.V_mk (Nat.le_refl _) (Kd.R_F (Kd.R_mono (Kd.R_bound HO2.out) (fun _ hk => hk.2.1)))
end Go.Proofs.YtagkfkdoibnhfaaDoor.K
end
section
namespace Go.Proofs.YtagkfkdoibnhfaaDoor.K
open Go.RowKit Go.Shelf Go.Proofs.YtagkfkdoibnhfaaDoorW.PrintWords Go.Proofs.YtagkfkdoibnhfaaDoorW.PrintLast Go.Proofs.YtagkfkdoibnhfaaDoorW.PrintMore Go.Proofs.YtagkfkdoibnhfaaDoor.H
set_option linter.unusedVariables false
set_option linter.unusedSimpArgs false
attribute [local go_sem] Oper.semAt_some
def fTw.T9 : Bool × List (List Nat × List Nat) := (true, [([], []), ([], []), ([1], [1]), ([], []), ([3], [3]), ([2, 4], [2, 4]), ([0, 5], [0, 5]), ([], []), ([], []), ([8], [8]), ([], []), ([10], [10]), ([9, 11], [9, 11]), ([7, 12, 6], [7, 12]), ([6, 13, 0, 1, 2, 3, 4, 5, 6], [0, 6]), ([13, 14, 0, 1, 2, 3, 4, 5, 6, 7, 8, 9, 10, 11, 12, 13, 14], [7, 13])])
def fTw.B9 : List Nat := [0, 0, 2, 0, 8, 30, 63, 0, 0, 256, 0, 1024, 3840, 8191, 16383, 32767]
theorem fTw.tab9 : rtab .any (opsOf Tryd.f36 9) = fTw.T9 := by kernel_rfl
theorem fTw.bits9 : waitsOk fTw.T9.2 fTw.B9 = true := by kernel_rfl
def fTw.T12 : Bool × List (List Nat × List Nat) := (true, [([], []), ([], []), ([1], [1]), ([], []), ([3], [3]), ([0, 2, 4], [0, 2, 4]), ([], []), ([], []), ([7], [7]), ([], []), ([9], [9]), ([6, 8, 10], [6, 8, 10]), ([5, 0, 1, 2, 3, 4, 5], [0, 1, 3, 5]), ([11, 12, 0, 1, 2, 3, 4, 5, 6, 7, 8, 9, 10, 11, 12], [6, 7, 9, 11]), ([13, 0, 1, 2, 3, 4, 5, 6, 7, 8, 9, 10, 11, 12, 13], [])])
def fTw.B12 : List Nat := [0, 0, 2, 0, 8, 31, 0, 0, 128, 0, 512, 1984, 63, 8191, 16383]
theorem fTw.tab12 : rtab .any (opsOf Tryd.f36 12) = fTw.T12 := by kernel_rfl
theorem fTw.bits12 : waitsOk fTw.T12.2 fTw.B12 = true := by kernel_rfl
theorem times_succ (k : Nat) (p : Int × Int) : times (k + 1) p = times k p ++ [p.1, p.2] := by
 unfold times
 rw [List.range_succ, List.flatMap_append]
 rfl
theorem times_len (k : Nat) (p : Int × Int) : (times k p).length = 2 * k := by
 induction k with
 | zero => rfl
 | succ k ih => rw [times_succ, List.length_append, ih]; rfl
theorem times_head (k : Nat) (p : Int × Int) : times (k + 1) p = p.1 :: p.2 :: times k p := by
 unfold times
 rw [List.range_succ_eq_map, List.flatMap_cons, List.flatMap_map]
 rfl
theorem C_of_block {w : World} {g : Nat} {cs : Array Value} {t : TypeId} {xs : List Int} (h : w.heap[g]? = some (.cells cs t (0, 0))) (hc : cs.toList = nums .i64 xs) (hn : xs.length ≤ 9223372036854775807) : Kd.C (Kd.int .i64) w (some ⟨g, 0, none⟩) xs.length xs := by
 refine ⟨rfl, hn, fun _ => ⟨_, rfl, fun j p hj => ⟨[.int .i64 p], rfl, rfl, fun i u hi => ?_⟩⟩⟩
 have hi0 : i = 0 := by
  have := (List.getElem?_eq_some_iff.1 hi).1
  simpa using this
 subst hi0
 obtain rfl : .int .i64 p = u := by simpa using hi
 have e := blk_cell h j
 have e2 : cs[j]? = some (.int .i64 p) := by rw [← Array.getElem?_toList, hc]; simp [nums, hj]
 rw [e2] at e
 have hsz : (Kd.int .i64).sz = 1 := rfl
 by_cases hj0 : j = 0
 ·subst hj0
  simpa [hsz, Addr.add] using e
 ·simpa [hsz, Addr.add, hj0] using e
def TwinsPost (l m : List Int) (n : Int) (w : World) (e : Ending) (w' : World) : Prop :=
 ∃ v0_ v1_ : Value, e = .returned (.tuple #[v0_, v1_, .int .i64 n]) ∧ Kd.V (Kd.int .i64) 3 w' w.heap.size (fun k_ => w.heap.size ≤ k_ ∧ some k_ ≠ v1_.ownBlock) v0_ l ∧ Kd.V (Kd.int .i64) 3 w' w.heap.size (fun k_ => w.heap.size ≤ k_ ∧ some k_ ≠ v0_.ownBlock) v1_ m ∧ Below w.heap.size w w'
set_option maxRecDepth 100000 in
set_option maxHeartbeats 4000000 in
theorem twins_bad (T O L one other : Int) (A : Option Addr) (R : List S66) (c : Nat) (w : World) (hR : Kd.C k66 w A R.length R) (hc : R.length ≤ c) (hG : Glob w) (x : Int) (hx0 : x ≠ 0) (hb : okScale T O L R = false ∧ x = 60 ∨ okScale T O L R = true ∧ ((decide (0 ≤ one) && decide (one < (R.length : Int))) && (decide (0 ≤ other) && decide (other < (R.length : Int)))) = false ∧ x = 61) :
  Calls Tryd.prog 36 #[.agg #[.int .i64 T, .int .i64 O, .int .i64 L, .slice A R.length c], .int .i64 one, .int .i64 other] w (TwinsPost [] [] x w) := by
 have hu24 := Tryd.underlying24
 have hu78 := Tryd.underlying78
 have hu84 := Tryd.underlying84
 have HB0 := zh (below_alloc (below_alloc (below_alloc (Below.refl w.heap.size w) (.cells #[.int .i64 T, .int .i64 O, .int .i64 L, .slice A R.length c] 24)) (.cells #[.int .i64 one] 3)) (.cells #[.int .i64 other] 3))
 have HR := zh (Kd.C_below hR HB0.out)
 have HG := zh (hG.below HB0.out)
 have HR0 := zh hR
 have HG0 := zh hG
 have Y1 := zh (blk_alloc (alloc_at (w.alloc (.cells #[.int .i64 T, .int .i64 O, .int .i64 L, .slice A R.length c] 24)) (.cells #[.int .i64 one] 3) (w.heap.size + 1) (by simp)) (.cells #[.int .i64 other] 3))
 have Y2 := zh (alloc_at ((w.alloc (.cells #[.int .i64 T, .int .i64 O, .int .i64 L, .slice A R.length c] 24)).alloc (.cells #[.int .i64 one] 3)) (.cells #[.int .i64 other] 3) (w.heap.size + 1 + 1) (by simp))
 have HCL := zh (show okScale T O L R = true → ∀ (W : World) (m : Nat), Ctx (((w.alloc (.cells #[.int .i64 T, .int .i64 O, .int .i64 L, .slice A R.length c] 24)).alloc (.cells #[.int .i64 one] 3)).alloc (.cells #[.int .i64 other] 3)) W T A R m → Calls Tryd.prog 79 #[.agg #[.int .i64 T, .int .i64 O, .int .i64 L, .slice A R.length c, .map (some m)], .pointer (some ⟨w.heap.size + 1, 0, none⟩), .pointer (some ⟨w.heap.size + 1 + 1, 0, none⟩)] W fun e W' => e = .returned (.bool ((decide (0 ≤ one) && decide (one < (R.length : Int))) && (decide (0 ≤ other) && decide (other < (R.length : Int))))) ∧ Memo T R W' m ∧ Kp m W W' from fun hok W m hx => (twins1_calls T O L one other A R.length c m (w.heap.size + 1) (w.heap.size + 1 + 1) W ((hx.base.block _ (by simp)).trans (blk_alloc (alloc_at _ _ _ (by simp)) _)) ((hx.base.block _ (by simp)).trans (alloc_at _ _ _ (by simp))) (okScale_regs hok).2.2.2.2.2.2.2.2.1).mono dQ8)
 have HBAD := zh hb
 have hx' : (x == 0) = false := beq_eq_false_iff_ne.2 hx0
 have hx'' : (x != 0) = true := bne_iff_ne.2 hx0
 clear hR hG hb
 go_enter Tryd.func36, Tryd.ntmps36
 go_wp2_with (first | (go_at_call 53; (with_reducible refine (opened_twins T O L A R c _ _ ((decide (0 ≤ one) && decide (one < (R.length : Int))) && (decide (0 ≤ other) && decide (other < (R.length : Int)))) _ HR.out hc HG.out HCL.out).mono ?_); rintro e w1 hp; obtain ⟨rfl, hb1⟩ := hp.bad HBAD.out; have HB1 := zh (HB0.out.trans (hb1.mono (by simp <;> omega))); clear hp hb1))
 go_ret3
 exact ⟨_, _, rfl, Kd.V_nil _ _ _ _ _, Kd.V_nil _ _ _ _ _, below_alloc HB1.out _⟩
set_option maxRecDepth 100000 in
set_option maxHeartbeats 4000000 in
theorem twins_none (T O L one other : Int) (A : Option Addr) (R : List S66) (c : Nat) (w : World) (hR : Kd.C k66 w A R.length R) (hc : R.length ≤ c) (hG : Glob w) (h1 : okScale T O L R = true) (r0 : 0 ≤ one) (r1 : one < R.length) (q0 : 0 ≤ other) (q1 : other < R.length) (htw : twins T O R one other = none) :
  Calls Tryd.prog 36 #[.agg #[.int .i64 T, .int .i64 O, .int .i64 L, .slice A R.length c], .int .i64 one, .int .i64 other] w (TwinsPost [] [] 4 w) := by
 have hu24 := Tryd.underlying24
 have hu78 := Tryd.underlying78
 have hu84 := Tryd.underlying84
 have HB0 := zh (below_alloc (below_alloc (below_alloc (Below.refl w.heap.size w) (.cells #[.int .i64 T, .int .i64 O, .int .i64 L, .slice A R.length c] 24)) (.cells #[.int .i64 one] 3)) (.cells #[.int .i64 other] 3))
 have HR := zh (Kd.C_below hR HB0.out)
 have HG := zh (hG.below HB0.out)
 have HR0 := zh hR
 have HG0 := zh hG
 have Y1 := zh (blk_alloc (alloc_at (w.alloc (.cells #[.int .i64 T, .int .i64 O, .int .i64 L, .slice A R.length c] 24)) (.cells #[.int .i64 one] 3) (w.heap.size + 1) (by simp)) (.cells #[.int .i64 other] 3))
 have Y2 := zh (alloc_at ((w.alloc (.cells #[.int .i64 T, .int .i64 O, .int .i64 L, .slice A R.length c] 24)).alloc (.cells #[.int .i64 one] 3)) (.cells #[.int .i64 other] 3) (w.heap.size + 1 + 1) (by simp))
 have hright : ((decide (0 ≤ one) && decide (one < (R.length : Int))) && (decide (0 ≤ other) && decide (other < (R.length : Int)))) = true := by simp [r0, r1, q0, q1]
 have HCL := zh (show okScale T O L R = true → ∀ (W : World) (m : Nat), Ctx (((w.alloc (.cells #[.int .i64 T, .int .i64 O, .int .i64 L, .slice A R.length c] 24)).alloc (.cells #[.int .i64 one] 3)).alloc (.cells #[.int .i64 other] 3)) W T A R m → Calls Tryd.prog 79 #[.agg #[.int .i64 T, .int .i64 O, .int .i64 L, .slice A R.length c, .map (some m)], .pointer (some ⟨w.heap.size + 1, 0, none⟩), .pointer (some ⟨w.heap.size + 1 + 1, 0, none⟩)] W fun e W' => e = .returned (.bool ((decide (0 ≤ one) && decide (one < (R.length : Int))) && (decide (0 ≤ other) && decide (other < (R.length : Int))))) ∧ Memo T R W' m ∧ Kp m W W' from fun hok W m hx => (twins1_calls T O L one other A R.length c m (w.heap.size + 1) (w.heap.size + 1 + 1) W ((hx.base.block _ (by simp)).trans (blk_alloc (alloc_at _ _ _ (by simp)) _)) ((hx.base.block _ (by simp)).trans (alloc_at _ _ _ (by simp))) (okScale_regs hok).2.2.2.2.2.2.2.2.1).mono dQ8)
 rw [hright] at HCL
 have HOK := zh h1
 obtain ⟨t1, t2, t3, t4, t5, t6, t7, t8, t9, t10⟩ := okScale_regs h1
 have mr := mul_range t1 t2 t3 t4
 obtain ⟨N, hN⟩ : ∃ N : Nat, T * O = (N : Int) := Int.eq_ofNat_of_zero_le (by omega)
 have hN' : N ≤ 100 := by omega
 have HTW := zh htw
 clear hR hG h1 t1 t2 t3 t4 t7 t10 hright htw
 go_enter Tryd.func36, Tryd.ntmps36
 go_wp2_with (first | (go_at_call 53; (with_reducible refine (opened_twins T O L A R c _ _ true _ HR.out hc HG.out HCL.out).mono ?_); rintro e w1 hp; obtain ⟨m, rfl, hx⟩ := hp.good HOK.out rfl; have HX := zh ((hx.elder HB0.out HR0.out HG0.out)); have X1 := zh (hx.elder HB0.out HR0.out HG0.out |>.below (below_alloc (Below.refl w1.heap.size w1) (.cells #[.int .i64 T, .int .i64 O, .int .i64 L, .slice A R.length c, .map (some m)] 78))); have c1 := cell_a1 ((blk_cell ((hx.base.block _ (by simp)).trans Y1.out) 0).trans (show _ = some (Value.int .i64 one) from rfl)) (.cells #[.int .i64 T, .int .i64 O, .int .i64 L, .slice A R.length c, .map (some m)] 78); have c2 := cell_a1 ((blk_cell ((hx.base.block _ (by simp)).trans Y2.out) 0).trans (show _ = some (Value.int .i64 other) from rfl)) (.cells #[.int .i64 T, .int .i64 O, .int .i64 L, .slice A R.length c, .map (some m)] 78); have B8 := zh (alloc_at w1 (.cells #[.int .i64 T, .int .i64 O, .int .i64 L, .slice A R.length c, .map (some m)] 78) w1.heap.size rfl); clear hp hx) | (go_at_call 77; (with_reducible refine (twins_calls T O L one other A R c m N w _ X1.out r0 r1 q0 q1 hN hN').mono ?_); rintro e w3 ⟨rfl, hk3⟩; rw [HTW.out]; simp only [twinsVal]; have K3 := zh hk3; clear hk3))
 go_ret3
 exact ⟨_, _, rfl, Kd.V_nil _ _ _ _ _, Kd.V_nil _ _ _ _ _, below_alloc (below_alloc (K3.out.ctx X1.out).base _) _⟩
set_option maxRecDepth 100000 in
set_option maxHeartbeats 8000000 in
theorem twins_ok (T O L one other : Int) (A : Option Addr) (R : List S66) (c : Nat) (w : World) (hR : Kd.C k66 w A R.length R) (hc : R.length ≤ c) (hG : Glob w) (h1 : okScale T O L R = true) (r0 : 0 ≤ one) (r1 : one < R.length) (q0 : 0 ≤ other) (q1 : other < R.length) (pa pb qa qb : Int) (htw : twins T O R one other = some ((pa, pb), (qa, qb))) :
  Calls Tryd.prog 36 #[.agg #[.int .i64 T, .int .i64 O, .int .i64 L, .slice A R.length c], .int .i64 one, .int .i64 other] w (TwinsPost (times (L / 2).toNat (pa, pb)) (qa :: qb :: times ((L / 2).toNat - 1) (pa, pb)) 0 w) := by
 have hu24 := Tryd.underlying24
 have hu78 := Tryd.underlying78
 have hu84 := Tryd.underlying84
 have HB0 := zh (below_alloc (below_alloc (below_alloc (Below.refl w.heap.size w) (.cells #[.int .i64 T, .int .i64 O, .int .i64 L, .slice A R.length c] 24)) (.cells #[.int .i64 one] 3)) (.cells #[.int .i64 other] 3))
 have HR := zh (Kd.C_below hR HB0.out)
 have HG := zh (hG.below HB0.out)
 have HR0 := zh hR
 have HG0 := zh hG
 have Y1 := zh (blk_alloc (alloc_at (w.alloc (.cells #[.int .i64 T, .int .i64 O, .int .i64 L, .slice A R.length c] 24)) (.cells #[.int .i64 one] 3) (w.heap.size + 1) (by simp)) (.cells #[.int .i64 other] 3))
 have Y2 := zh (alloc_at ((w.alloc (.cells #[.int .i64 T, .int .i64 O, .int .i64 L, .slice A R.length c] 24)).alloc (.cells #[.int .i64 one] 3)) (.cells #[.int .i64 other] 3) (w.heap.size + 1 + 1) (by simp))
 have hright : ((decide (0 ≤ one) && decide (one < (R.length : Int))) && (decide (0 ≤ other) && decide (other < (R.length : Int)))) = true := by simp [r0, r1, q0, q1]
 have HCL := zh (show okScale T O L R = true → ∀ (W : World) (m : Nat), Ctx (((w.alloc (.cells #[.int .i64 T, .int .i64 O, .int .i64 L, .slice A R.length c] 24)).alloc (.cells #[.int .i64 one] 3)).alloc (.cells #[.int .i64 other] 3)) W T A R m → Calls Tryd.prog 79 #[.agg #[.int .i64 T, .int .i64 O, .int .i64 L, .slice A R.length c, .map (some m)], .pointer (some ⟨w.heap.size + 1, 0, none⟩), .pointer (some ⟨w.heap.size + 1 + 1, 0, none⟩)] W fun e W' => e = .returned (.bool ((decide (0 ≤ one) && decide (one < (R.length : Int))) && (decide (0 ≤ other) && decide (other < (R.length : Int))))) ∧ Memo T R W' m ∧ Kp m W W' from fun hok W m hx => (twins1_calls T O L one other A R.length c m (w.heap.size + 1) (w.heap.size + 1 + 1) W ((hx.base.block _ (by simp)).trans (blk_alloc (alloc_at _ _ _ (by simp)) _)) ((hx.base.block _ (by simp)).trans (alloc_at _ _ _ (by simp))) (okScale_regs hok).2.2.2.2.2.2.2.2.1).mono dQ8)
 rw [hright] at HCL
 have HOK := zh h1
 obtain ⟨t1, t2, t3, t4, t5, t6, t7, t8, t9, t10⟩ := okScale_regs h1
 have mr := mul_range t1 t2 t3 t4
 obtain ⟨N, hN⟩ : ∃ N : Nat, T * O = (N : Int) := Int.eq_ofNat_of_zero_le (by omega)
 have hN' : N ≤ 100 := by omega
 have HTW := zh htw
 clear hR hG h1 t1 t2 t3 t4 t7 t10 hright htw
 obtain ⟨n, hn⟩ : ∃ n : Nat, L / 2 = (n : Int) := Int.eq_ofNat_of_zero_le (by omega)
 have n1 : 1 ≤ n := by omega
 have n8 : n ≤ 8 := by omega
 go_enter Tryd.func36, Tryd.ntmps36
 go_wp2_with (first | (go_at_call 53; (with_reducible refine (opened_twins T O L A R c _ _ true _ HR.out hc HG.out HCL.out).mono ?_); rintro e w1 hp; obtain ⟨m, rfl, hx⟩ := hp.good HOK.out rfl; have HX := zh ((hx.elder HB0.out HR0.out HG0.out)); have X1 := zh (hx.elder HB0.out HR0.out HG0.out |>.below (below_alloc (Below.refl w1.heap.size w1) (.cells #[.int .i64 T, .int .i64 O, .int .i64 L, .slice A R.length c, .map (some m)] 78))); have c1 := cell_a1 ((blk_cell ((hx.base.block _ (by simp)).trans Y1.out) 0).trans (show _ = some (Value.int .i64 one) from rfl)) (.cells #[.int .i64 T, .int .i64 O, .int .i64 L, .slice A R.length c, .map (some m)] 78); have c2 := cell_a1 ((blk_cell ((hx.base.block _ (by simp)).trans Y2.out) 0).trans (show _ = some (Value.int .i64 other) from rfl)) (.cells #[.int .i64 T, .int .i64 O, .int .i64 L, .slice A R.length c, .map (some m)] 78); have B8 := zh (alloc_at w1 (.cells #[.int .i64 T, .int .i64 O, .int .i64 L, .slice A R.length c, .map (some m)] 78) w1.heap.size rfl); clear hp hx) | (go_at_call 77; (with_reducible refine (twins_calls T O L one other A R c m N w _ X1.out r0 r1 q0 q1 hN hN').mono ?_); rintro e w3 ⟨rfl, hk3⟩; rw [HTW.out]; simp only [twinsVal]; have K3 := zh hk3; have C83 := zh (hk3.at B8.out (by have := HX.out.memo.lt; omega)); have X3 := zh (hk3.ctx X1.out); clear hk3; have z2 := cell_a2 ((blk_cell C83.out 2).trans (show _ = some (Value.int .i64 L) from rfl)) (.cells #[.int .i64 pa, .int .i64 pb] 84) (.cells #[.int .i64 qa, .int .i64 qb] 84)))
 have PP0 := zh (blk_alloc (alloc_at w3 (.cells #[.int .i64 pa, .int .i64 pb] 84) (w3.heap.size) (by simp)) (.cells #[.int .i64 qa, .int .i64 qb] 84))
 have QQ0 := zh (alloc_at (w3.alloc (.cells #[.int .i64 pa, .int .i64 pb] 84)) (.cells #[.int .i64 qa, .int .i64 qb] 84) (w3.heap.size + 1) (by simp))
 have C80 := zh (blk_alloc (blk_alloc C83.out (.cells #[.int .i64 pa, .int .i64 pb] 84)) (.cells #[.int .i64 qa, .int .i64 qb] 84))
 have BS0 := zh (below_alloc (below_alloc X3.out.base (.cells #[.int .i64 pa, .int .i64 pb] 84)) (.cells #[.int .i64 qa, .int .i64 qb] 84))
 obtain ⟨w4, hw4⟩ : ∃ w4, ((w3.alloc (.cells #[.int .i64 pa, .int .i64 pb] 84)).alloc (.cells #[.int .i64 qa, .int .i64 qb] 84)) = w4 := ⟨_, rfl⟩
 simp only [hw4] at PP0 QQ0 C80 BS0 z2 ⊢
 clear hw4
 rw [hn]
 clear z2
 go_loopw [6, 7, 36] (fun va vb u wr => ∃ k : Nat, k ≤ n ∧ u = .int .i64 k ∧ Aside0 (Kd.R (Kd.int .i64) 3 wr w.heap.size (fun k_ => w.heap.size ≤ k_ ∧ some k_ ≠ vb.ownBlock) va (times k (pa, pb))) ∧ Aside0 (Kd.R (Kd.int .i64) 3 wr w.heap.size (fun k_ => w.heap.size ≤ k_ ∧ some k_ ≠ va.ownBlock) vb (times k (pa, pb))) ∧ Aside0 (Below w.heap.size w wr) ∧ Aside0 (wr.heap[w3.heap.size]? = some (.cells #[.int .i64 pa, .int .i64 pb] 84 (0, 0))) ∧ Aside0 (wr.heap[w3.heap.size + 1]? = some (.cells #[.int .i64 qa, .int .i64 qb] 84 (0, 0))) ∧ Aside0 (wr.heap[w1.heap.size]? = some (.cells #[.int .i64 T, .int .i64 O, .int .i64 L, .slice A R.length c, .map (some m)] 78 (0, 0)))) (fun _ _ u _ => n - (intOf u).toNat)
 case atStart => exact ⟨0, Nat.zero_le _, rfl, ⟨Kd.R_nil _ _ _ _ _⟩, ⟨Kd.R_nil _ _ _ _ _⟩, BS0, PP0, QQ0, C80⟩
 case round =>
  clear PP0 QQ0 C80 BS0
  obtain ⟨k, hk, rfl, HA0, HB0, BS0, PP0, QQ0, C80⟩ := hrel
  by_cases hlt : k < n
  ·have hlt' : (k : Int) < (n : Int) := by omega
   have hlen := times_len k (pa, pb)
   go_wp2
   replace HA0 := zh (Kd.R_drew HA0.out)
   replace HB0 := zh (Kd.R_drew HB0.out)
   replace BS0 := zh (below_drew1 BS0.out)
   replace PP0 := zh (show wr.drew.heap[w3.heap.size]? = _ from PP0.out)
   replace QQ0 := zh (show wr.drew.heap[w3.heap.size + 1]? = _ from QQ0.out)
   replace C80 := zh (show wr.drew.heap[w1.heap.size]? = _ from C80.out)
   refine start_ (n := 16) (S := fun w' => w'.cell? ⟨w3.heap.size, 0, none⟩ = some (.int .i64 pa) ∧ w'.cell? ⟨w3.heap.size, 1, none⟩ = some (.int .i64 pb)) (ds := []) (Array.replicate 16 false) zk rfl rfl ⟨vb PP0 0, vb PP0 1⟩ (fun hHeld => ?_)
   refine with_tabW fTw.tab9 fTw.bits9 (fun HT_ HW_ => ?_)
   generalize wr.drew = v0 at HA0 HB0 BS0 PP0 QQ0 C80 hHeld ⊢
   refine zu 0 ?_
   refine zu 1 ?_
   refine zu 3 ?_
   refine zu 7 ?_
   refine zu 8 ?_
   refine zu 10 ?_
   refine zt 2 ?_
   refine zt 4 ?_
   refine zt 9 ?_
   refine zt 11 ?_
   refine two_ (i := 5) (j := 12) (Ni := some 43) (Nj := some 50) #[true, true, true, true, true, true, false, true, true, true, true, true, false, false, false, false] #[true, true, true, true, true, false, false, true, true, true, true, true, true, false, false, false] rfl rfl rfl rfl (two_of HT_.out zk) (by decide) (by decide) (fun K hK => ?_) (fun K hK => ?_)
   ·refine value_ (v := .slice (some ⟨v0.heap.size, 0, none⟩) 2 2) (w1 := v0.alloc (.cells #[.int .i64 pa, .int .i64 pb] 3)) (by rfl) rfl ?hr0 ?_
    (case hr0 => first | (go_simp; done) | (go_simp; rfl))
    have HA1 := zh (Kd.R_alloc HA0.out (.cells #[.int .i64 pa, .int .i64 pb] 3))
    have HB1 := zh (Kd.R_alloc HB0.out (.cells #[.int .i64 pa, .int .i64 pb] 3))
    have BS1 := zh (below_alloc BS0.out (.cells #[.int .i64 pa, .int .i64 pb] 3))
    have PP1 := zh (blk_alloc PP0.out (.cells #[.int .i64 pa, .int .i64 pb] 3))
    have QQ1 := zh (blk_alloc QQ0.out (.cells #[.int .i64 pa, .int .i64 pb] 3))
    have C81 := zh (blk_alloc C80.out (.cells #[.int .i64 pa, .int .i64 pb] 3))
    have G5_1 := zh (alloc_at v0 (.cells #[.int .i64 pa, .int .i64 pb] 3) v0.heap.size rfl)
    generalize v0.alloc (.cells #[.int .i64 pa, .int .i64 pb] 3) = v1 at HA1 HB1 BS1 PP1 QQ1 C81 G5_1 ⊢
    have g5 : v0.heap.size = v0.heap.size := rfl
    refine hK.out _ _ ⟨vb PP1 0, vb PP1 1⟩ (fun hHeld => ?_)
    clear hK K
    refine zr 43 _ ?_
    refine two_ (i := 6) (j := 12) (Ni := some 44) (Nj := some 50) #[true, true, true, true, true, true, true, true, true, true, true, true, false, false, false, false] #[true, true, true, true, true, true, false, true, true, true, true, true, true, false, false, false] rfl rfl rfl rfl (two_of HT_.out zk) (by decide) (by decide) (fun K hK => ?_) (fun K hK => ?_)
    ·refine Kd.R_append_rows_step (Kd.int .i64) (w0 := w) w.heap.size (by rfl) (.tmp 38) (.tmp 43) 25 3 (.int .i64 0) 8 rfl Tryd.underlying25 info3 rfl (by decide) (by omega) u6 (times k (pa, pb)) [pa, pb] (some ⟨v0.heap.size, 0, none⟩) 2 2 (fun k_ => w.heap.size ≤ k_ ∧ some k_ ≠ u7.ownBlock) (fun _ => False) rfl rfl ?aO ?aR (fun _ _ h => h) (fun _ h => h.elim) ?aF ?aB ?aS ?aL ?_
     (case aO => exact HA1.out)
     (case aR => exact (Kd.R_reads' (R_lit_new (w := v1) (base := 0) (g := v0.heap.size) (xs := [pa, pb]) rfl G5_1.out (Nat.zero_le _) (by simp [maxLen]) rfl)).2.2)
     (case aF => (intro k_ hk_; exact ⟨Nat.le_trans BS1.out.size hk_, fun e_ => absurd (Kd.R_lt HB1.out _ e_.symm) (by omega)⟩))
     (case aB => exact BS1.out)
     (case aS => exact BS1.out.size)
     (case aL => omega)
     intro a1 v2 hO_ hBl_ hg_ hat_
     have HA2 := zh hO_
     have HB2 := zh (Kd.R_after HB1.out hg_ hat_)
     have BS2 := zh hBl_
     have PP2 := zh (blk_grown PP1.out hg_ (Kd.R_ne HA1.out PP1.out (by decide)))
     have QQ2 := zh (blk_grown QQ1.out hg_ (Kd.R_ne HA1.out QQ1.out (by decide)))
     have C82 := zh (blk_grown C81.out hg_ (Kd.R_ne HA1.out C81.out (by decide)))
     clear hO_ hBl_ hg_ hat_
     refine hK.out _ _ ⟨vb PP2 0, vb PP2 1⟩ (fun hHeld => ?_)
     clear hK K
     refine zr 44 _ ?_
     refine zo 12 (fun K hK => ?_)
     refine value_ (v := .slice (some ⟨v2.heap.size, 0, none⟩) 2 2) (w1 := v2.alloc (.cells #[.int .i64 pa, .int .i64 pb] 3)) (by rfl) rfl ?hr2 ?_
     (case hr2 => first | (go_simp; done) | (go_simp; rfl))
     have HA3 := zh (Kd.R_alloc HA2.out (.cells #[.int .i64 pa, .int .i64 pb] 3))
     have HB3 := zh (Kd.R_alloc HB2.out (.cells #[.int .i64 pa, .int .i64 pb] 3))
     have BS3 := zh (below_alloc BS2.out (.cells #[.int .i64 pa, .int .i64 pb] 3))
     have PP3 := zh (blk_alloc PP2.out (.cells #[.int .i64 pa, .int .i64 pb] 3))
     have QQ3 := zh (blk_alloc QQ2.out (.cells #[.int .i64 pa, .int .i64 pb] 3))
     have C83 := zh (blk_alloc C82.out (.cells #[.int .i64 pa, .int .i64 pb] 3))
     have G12_3 := zh (alloc_at v2 (.cells #[.int .i64 pa, .int .i64 pb] 3) v2.heap.size rfl)
     have nA := zh (show some v2.heap.size ≠ a1.ownBlock from fun e_ => absurd (Kd.R_lt HA2.out _ e_.symm) (by omega))
     generalize v2.alloc (.cells #[.int .i64 pa, .int .i64 pb] 3) = v3 at HA3 HB3 BS3 PP3 QQ3 C83 G12_3 ⊢
     have g12 : v2.heap.size = v2.heap.size := rfl
     refine hK.out _ _ ⟨vb PP3 0, vb PP3 1⟩ (fun hHeld => ?_)
     clear hK K
     refine zr 50 _ ?_
     refine zo 13 (fun K hK => ?_)
     refine Kd.R_append_rows_step (Kd.int .i64) (w0 := w) w.heap.size (by rfl) (.tmp 45) (.tmp 50) 25 3 (.int .i64 0) 8 rfl Tryd.underlying25 info3 rfl (by decide) (by omega) u7 (times k (pa, pb)) [pa, pb] (some ⟨v2.heap.size, 0, none⟩) 2 2 (fun k_ => w.heap.size ≤ k_ ∧ some k_ ≠ a1.ownBlock) (fun _ => False) rfl rfl ?aO ?aR (fun _ _ h => h) (fun _ h => h.elim) ?aF ?aB ?aS ?aL ?_
     (case aO => exact HB3.out)
     (case aR => exact (Kd.R_reads' (R_lit_new (w := v3) (base := 0) (g := v2.heap.size) (xs := [pa, pb]) rfl G12_3.out (Nat.zero_le _) (by simp [maxLen]) rfl)).2.2)
     (case aF => (intro k_ hk_; exact ⟨Nat.le_trans BS3.out.size hk_, fun e_ => absurd (Kd.R_lt HA3.out _ e_.symm) (by omega)⟩))
     (case aB => exact BS3.out)
     (case aS => exact BS3.out.size)
     (case aL => omega)
     intro b1 v4 hO_ hBl_ hg_ hat_
     have HB4 := zh hO_
     have HA4 := zh (Kd.R_after HA3.out hg_ hat_)
     have BS4 := zh hBl_
     have PP4 := zh (blk_grown PP3.out hg_ (Kd.R_ne HB3.out PP3.out (by decide)))
     have QQ4 := zh (blk_grown QQ3.out hg_ (Kd.R_ne HB3.out QQ3.out (by decide)))
     have C84 := zh (blk_grown C83.out hg_ (Kd.R_ne HB3.out C83.out (by decide)))
     clear hO_ hBl_ hg_ hat_
     refine hK.out _ _ ⟨vb PP4 0, vb PP4 1⟩ (fun hHeld => ?_)
     clear hK K
     refine zr 51 _ ?_
     refine zu 14 ?_
     refine zu 15 ?_
     refine zd ?_
     go_wp2
     go_roundw
     case rel => exact ⟨k + 1, by omega, by go_num, ⟨by rw [times_succ]; exact HA4.out⟩, ⟨by rw [times_succ]; exact HB4.out⟩, BS4, PP4, QQ4, C84⟩
     case measure => simp [intOf]; omega
    ·refine value_ (v := .slice (some ⟨v1.heap.size, 0, none⟩) 2 2) (w1 := v1.alloc (.cells #[.int .i64 pa, .int .i64 pb] 3)) (by rfl) rfl ?hr1 ?_
     (case hr1 => first | (go_simp; done) | (go_simp; rfl))
     have HA2 := zh (Kd.R_alloc HA1.out (.cells #[.int .i64 pa, .int .i64 pb] 3))
     have HB2 := zh (Kd.R_alloc HB1.out (.cells #[.int .i64 pa, .int .i64 pb] 3))
     have BS2 := zh (below_alloc BS1.out (.cells #[.int .i64 pa, .int .i64 pb] 3))
     have PP2 := zh (blk_alloc PP1.out (.cells #[.int .i64 pa, .int .i64 pb] 3))
     have QQ2 := zh (blk_alloc QQ1.out (.cells #[.int .i64 pa, .int .i64 pb] 3))
     have C82 := zh (blk_alloc C81.out (.cells #[.int .i64 pa, .int .i64 pb] 3))
     have G5_2 := zh (blk_alloc G5_1.out (.cells #[.int .i64 pa, .int .i64 pb] 3))
     have G12_2 := zh (alloc_at v1 (.cells #[.int .i64 pa, .int .i64 pb] 3) v1.heap.size rfl)
     have nA := zh (show some v1.heap.size ≠ u6.ownBlock from fun e_ => absurd (Kd.R_lt HA1.out _ e_.symm) (by omega))
     generalize v1.alloc (.cells #[.int .i64 pa, .int .i64 pb] 3) = v2 at HA2 HB2 BS2 PP2 QQ2 C82 G5_2 G12_2 ⊢
     have g12 : v1.heap.size = v1.heap.size := rfl
     refine hK.out _ _ ⟨vb PP2 0, vb PP2 1⟩ (fun hHeld => ?_)
     clear hK K
     refine zr 50 _ ?_
     refine zo 6 (fun K hK => ?_)
     refine Kd.R_append_rows_step (Kd.int .i64) (w0 := w) w.heap.size (by rfl) (.tmp 38) (.tmp 43) 25 3 (.int .i64 0) 8 rfl Tryd.underlying25 info3 rfl (by decide) (by omega) u6 (times k (pa, pb)) [pa, pb] (some ⟨v0.heap.size, 0, none⟩) 2 2 (fun k_ => w.heap.size ≤ k_ ∧ some k_ ≠ u7.ownBlock) (fun _ => False) rfl rfl ?aO ?aR (fun _ _ h => h) (fun _ h => h.elim) ?aF ?aB ?aS ?aL ?_
     (case aO => exact HA2.out)
     (case aR => exact (Kd.R_reads' (R_lit_new (w := v2) (base := 0) (g := v0.heap.size) (xs := [pa, pb]) rfl G5_2.out (Nat.zero_le _) (by simp [maxLen]) rfl)).2.2)
     (case aF => (intro k_ hk_; exact ⟨Nat.le_trans BS2.out.size hk_, fun e_ => absurd (Kd.R_lt HB2.out _ e_.symm) (by omega)⟩))
     (case aB => exact BS2.out)
     (case aS => exact BS2.out.size)
     (case aL => omega)
     intro a1 v3 hO_ hBl_ hg_ hat_
     have HA3 := zh hO_
     have HB3 := zh (Kd.R_after HB2.out hg_ hat_)
     have BS3 := zh hBl_
     have PP3 := zh (blk_grown PP2.out hg_ (Kd.R_ne HA2.out PP2.out (by decide)))
     have QQ3 := zh (blk_grown QQ2.out hg_ (Kd.R_ne HA2.out QQ2.out (by decide)))
     have C83 := zh (blk_grown C82.out hg_ (Kd.R_ne HA2.out C82.out (by decide)))
     have G12_3 := zh (blk_grown G12_2.out hg_ nA.out)
     clear hO_ hBl_ hg_ hat_
     refine hK.out _ _ ⟨vb PP3 0, vb PP3 1⟩ (fun hHeld => ?_)
     clear hK K
     refine zr 44 _ ?_
     refine zo 13 (fun K hK => ?_)
     refine Kd.R_append_rows_step (Kd.int .i64) (w0 := w) w.heap.size (by rfl) (.tmp 45) (.tmp 50) 25 3 (.int .i64 0) 8 rfl Tryd.underlying25 info3 rfl (by decide) (by omega) u7 (times k (pa, pb)) [pa, pb] (some ⟨v1.heap.size, 0, none⟩) 2 2 (fun k_ => w.heap.size ≤ k_ ∧ some k_ ≠ a1.ownBlock) (fun _ => False) rfl rfl ?aO ?aR (fun _ _ h => h) (fun _ h => h.elim) ?aF ?aB ?aS ?aL ?_
     (case aO => exact HB3.out)
     (case aR => exact (Kd.R_reads' (R_lit_new (w := v3) (base := 0) (g := v1.heap.size) (xs := [pa, pb]) rfl G12_3.out (Nat.zero_le _) (by simp [maxLen]) rfl)).2.2)
     (case aF => (intro k_ hk_; exact ⟨Nat.le_trans BS3.out.size hk_, fun e_ => absurd (Kd.R_lt HA3.out _ e_.symm) (by omega)⟩))
     (case aB => exact BS3.out)
     (case aS => exact BS3.out.size)
     (case aL => omega)
     intro b1 v4 hO_ hBl_ hg_ hat_
     have HB4 := zh hO_
     have HA4 := zh (Kd.R_after HA3.out hg_ hat_)
     have BS4 := zh hBl_
     have PP4 := zh (blk_grown PP3.out hg_ (Kd.R_ne HB3.out PP3.out (by decide)))
     have QQ4 := zh (blk_grown QQ3.out hg_ (Kd.R_ne HB3.out QQ3.out (by decide)))
     have C84 := zh (blk_grown C83.out hg_ (Kd.R_ne HB3.out C83.out (by decide)))
     clear hO_ hBl_ hg_ hat_
     refine hK.out _ _ ⟨vb PP4 0, vb PP4 1⟩ (fun hHeld => ?_)
     clear hK K
     refine zr 51 _ ?_
     refine zu 14 ?_
     refine zu 15 ?_
     refine zd ?_
     go_wp2
     go_roundw
     case rel => exact ⟨k + 1, by omega, by go_num, ⟨by rw [times_succ]; exact HA4.out⟩, ⟨by rw [times_succ]; exact HB4.out⟩, BS4, PP4, QQ4, C84⟩
     case measure => simp [intOf]; omega
   ·refine value_ (v := .slice (some ⟨v0.heap.size, 0, none⟩) 2 2) (w1 := v0.alloc (.cells #[.int .i64 pa, .int .i64 pb] 3)) (by rfl) rfl ?hr0 ?_
    (case hr0 => first | (go_simp; done) | (go_simp; rfl))
    have HA1 := zh (Kd.R_alloc HA0.out (.cells #[.int .i64 pa, .int .i64 pb] 3))
    have HB1 := zh (Kd.R_alloc HB0.out (.cells #[.int .i64 pa, .int .i64 pb] 3))
    have BS1 := zh (below_alloc BS0.out (.cells #[.int .i64 pa, .int .i64 pb] 3))
    have PP1 := zh (blk_alloc PP0.out (.cells #[.int .i64 pa, .int .i64 pb] 3))
    have QQ1 := zh (blk_alloc QQ0.out (.cells #[.int .i64 pa, .int .i64 pb] 3))
    have C81 := zh (blk_alloc C80.out (.cells #[.int .i64 pa, .int .i64 pb] 3))
    have G12_1 := zh (alloc_at v0 (.cells #[.int .i64 pa, .int .i64 pb] 3) v0.heap.size rfl)
    have nA := zh (show some v0.heap.size ≠ u6.ownBlock from fun e_ => absurd (Kd.R_lt HA0.out _ e_.symm) (by omega))
    generalize v0.alloc (.cells #[.int .i64 pa, .int .i64 pb] 3) = v1 at HA1 HB1 BS1 PP1 QQ1 C81 G12_1 ⊢
    have g12 : v0.heap.size = v0.heap.size := rfl
    refine hK.out _ _ ⟨vb PP1 0, vb PP1 1⟩ (fun hHeld => ?_)
    clear hK K
    refine zr 50 _ ?_
    refine zo 5 (fun K hK => ?_)
    refine value_ (v := .slice (some ⟨v1.heap.size, 0, none⟩) 2 2) (w1 := v1.alloc (.cells #[.int .i64 pa, .int .i64 pb] 3)) (by rfl) rfl ?hr1 ?_
    (case hr1 => first | (go_simp; done) | (go_simp; rfl))
    have HA2 := zh (Kd.R_alloc HA1.out (.cells #[.int .i64 pa, .int .i64 pb] 3))
    have HB2 := zh (Kd.R_alloc HB1.out (.cells #[.int .i64 pa, .int .i64 pb] 3))
    have BS2 := zh (below_alloc BS1.out (.cells #[.int .i64 pa, .int .i64 pb] 3))
    have PP2 := zh (blk_alloc PP1.out (.cells #[.int .i64 pa, .int .i64 pb] 3))
    have QQ2 := zh (blk_alloc QQ1.out (.cells #[.int .i64 pa, .int .i64 pb] 3))
    have C82 := zh (blk_alloc C81.out (.cells #[.int .i64 pa, .int .i64 pb] 3))
    have G12_2 := zh (blk_alloc G12_1.out (.cells #[.int .i64 pa, .int .i64 pb] 3))
    have G5_2 := zh (alloc_at v1 (.cells #[.int .i64 pa, .int .i64 pb] 3) v1.heap.size rfl)
    generalize v1.alloc (.cells #[.int .i64 pa, .int .i64 pb] 3) = v2 at HA2 HB2 BS2 PP2 QQ2 C82 G12_2 G5_2 ⊢
    have g5 : v1.heap.size = v1.heap.size := rfl
    refine hK.out _ _ ⟨vb PP2 0, vb PP2 1⟩ (fun hHeld => ?_)
    clear hK K
    refine zr 43 _ ?_
    refine zo 6 (fun K hK => ?_)
    refine Kd.R_append_rows_step (Kd.int .i64) (w0 := w) w.heap.size (by rfl) (.tmp 38) (.tmp 43) 25 3 (.int .i64 0) 8 rfl Tryd.underlying25 info3 rfl (by decide) (by omega) u6 (times k (pa, pb)) [pa, pb] (some ⟨v1.heap.size, 0, none⟩) 2 2 (fun k_ => w.heap.size ≤ k_ ∧ some k_ ≠ u7.ownBlock) (fun _ => False) rfl rfl ?aO ?aR (fun _ _ h => h) (fun _ h => h.elim) ?aF ?aB ?aS ?aL ?_
    (case aO => exact HA2.out)
    (case aR => exact (Kd.R_reads' (R_lit_new (w := v2) (base := 0) (g := v1.heap.size) (xs := [pa, pb]) rfl G5_2.out (Nat.zero_le _) (by simp [maxLen]) rfl)).2.2)
    (case aF => (intro k_ hk_; exact ⟨Nat.le_trans BS2.out.size hk_, fun e_ => absurd (Kd.R_lt HB2.out _ e_.symm) (by omega)⟩))
    (case aB => exact BS2.out)
    (case aS => exact BS2.out.size)
    (case aL => omega)
    intro a1 v3 hO_ hBl_ hg_ hat_
    have HA3 := zh hO_
    have HB3 := zh (Kd.R_after HB2.out hg_ hat_)
    have BS3 := zh hBl_
    have PP3 := zh (blk_grown PP2.out hg_ (Kd.R_ne HA2.out PP2.out (by decide)))
    have QQ3 := zh (blk_grown QQ2.out hg_ (Kd.R_ne HA2.out QQ2.out (by decide)))
    have C83 := zh (blk_grown C82.out hg_ (Kd.R_ne HA2.out C82.out (by decide)))
    have G12_3 := zh (blk_grown G12_2.out hg_ nA.out)
    clear hO_ hBl_ hg_ hat_
    refine hK.out _ _ ⟨vb PP3 0, vb PP3 1⟩ (fun hHeld => ?_)
    clear hK K
    refine zr 44 _ ?_
    refine zo 13 (fun K hK => ?_)
    refine Kd.R_append_rows_step (Kd.int .i64) (w0 := w) w.heap.size (by rfl) (.tmp 45) (.tmp 50) 25 3 (.int .i64 0) 8 rfl Tryd.underlying25 info3 rfl (by decide) (by omega) u7 (times k (pa, pb)) [pa, pb] (some ⟨v0.heap.size, 0, none⟩) 2 2 (fun k_ => w.heap.size ≤ k_ ∧ some k_ ≠ a1.ownBlock) (fun _ => False) rfl rfl ?aO ?aR (fun _ _ h => h) (fun _ h => h.elim) ?aF ?aB ?aS ?aL ?_
    (case aO => exact HB3.out)
    (case aR => exact (Kd.R_reads' (R_lit_new (w := v3) (base := 0) (g := v0.heap.size) (xs := [pa, pb]) rfl G12_3.out (Nat.zero_le _) (by simp [maxLen]) rfl)).2.2)
    (case aF => (intro k_ hk_; exact ⟨Nat.le_trans BS3.out.size hk_, fun e_ => absurd (Kd.R_lt HA3.out _ e_.symm) (by omega)⟩))
    (case aB => exact BS3.out)
    (case aS => exact BS3.out.size)
    (case aL => omega)
    intro b1 v4 hO_ hBl_ hg_ hat_
    have HB4 := zh hO_
    have HA4 := zh (Kd.R_after HA3.out hg_ hat_)
    have BS4 := zh hBl_
    have PP4 := zh (blk_grown PP3.out hg_ (Kd.R_ne HB3.out PP3.out (by decide)))
    have QQ4 := zh (blk_grown QQ3.out hg_ (Kd.R_ne HB3.out QQ3.out (by decide)))
    have C84 := zh (blk_grown C83.out hg_ (Kd.R_ne HB3.out C83.out (by decide)))
    clear hO_ hBl_ hg_ hat_
    refine hK.out _ _ ⟨vb PP4 0, vb PP4 1⟩ (fun hHeld => ?_)
    clear hK K
    refine zr 51 _ ?_
    refine zu 14 ?_
    refine zu 15 ?_
    refine zd ?_
    go_wp2
    go_roundw
    case rel => exact ⟨k + 1, by omega, by go_num, ⟨by rw [times_succ]; exact HA4.out⟩, ⟨by rw [times_succ]; exact HB4.out⟩, BS4, PP4, QQ4, C84⟩
    case measure => simp [intOf]; omega
  ·obtain rfl : k = n := by omega
   have hlt' : ¬ (k : Int) < (k : Int) := by omega
   have hlen := times_len k (pa, pb)
   obtain ⟨ga, ca, rfl, ga1, ga2, cellsa, ga3⟩ := Kd.R_form HA0.out (by omega)
   obtain ⟨gb, cb, rfl, gb1, gb2, cellsb, gb3⟩ := Kd.R_form HB0.out (by omega)
   have hca : ((times k (pa, pb)).length : Int) ≤ (ca : Int) := by have := (Kd.R_reads' HA0.out).2.1; omega
   have hcb : ((times k (pa, pb)).length : Int) ≤ (cb : Int) := by have := (Kd.R_reads' HB0.out).2.1; omega
   have h00 : (0 : Int) ≤ ((times k (pa, pb)).length : Int) := by omega
   have hle : ((times k (pa, pb)).length : Int) ≤ ((times k (pa, pb)).length : Int) := by omega
   have htn : ((times k (pa, pb)).length : Int).toNat = (times k (pa, pb)).length := by omega
   have HQC := zh (C_of_block (xs := [qa, qb]) QQ0.out rfl (by simp))
   have HLN := zh hlen
   clear ga3 gb3 hlen
   go_wp2_with (first | ((with_reducible refine gate_builtin (b := .copy) (xs := #[.tmp 53, .tmp 54]) rfl ?_); refine Kd.R_copy (enc := Value.int .i64) (h1 := fun _ => rfl) (0 : Int) (w0 := w) w.heap.size rfl (.tmp 53) (.tmp 54) 25 25 3 rfl Tryd.underlying25 zk (.slice (some ⟨gb, 0, none⟩) (times k (pa, pb)).length cb) (times k (pa, pb)) [qa, qb] (some ⟨w3.heap.size + 1, 0, none⟩) 2 2 (fun k_ => w.heap.size ≤ k_ ∧ some k_ ≠ (Value.slice (some ⟨ga, 0, none⟩) (times k (pa, pb)).length ca).ownBlock) rfl rfl HB0.out HQC.out BS0.out BS0.out.size ?_; intro w9 hO9 hB9 hg9; have HB9 := zh hO9; have BS9 := zh hB9; have HA9 := zh (Kd.R_after HA0.out hg9 (.inl rfl)); clear hO9 hB9 hg9))
   have hmin : min 2 (times k (pa, pb)).length = 2 := by have := HLN.out; omega
   have hdrop : [qa, qb].take (min 2 (times k (pa, pb)).length) ++ (times k (pa, pb)).drop (min 2 (times k (pa, pb)).length) = qa :: qb :: times (k - 1) (pa, pb) := by
    rw [hmin]
    obtain ⟨k', rfl⟩ : ∃ k', k = k' + 1 := ⟨k - 1, by omega⟩
    rw [times_head]
    rfl
   have HBb := HB9.out
   rw [hdrop] at HBb
   have hlen2 : (qa :: qb :: times (k - 1) (pa, pb)).length = (times k (pa, pb)).length := by
    have h2 := times_len (k - 1) (pa, pb)
    have h3 := HLN.out
    simp only [List.length_cons]
    omega
   replace HB9 := zh (Kd.R_drew HBb)
   replace HA9 := zh (Kd.R_drew HA9.out)
   replace BS9 := zh (below_drew1 BS9.out)
   have HL2 := zh hlen2
   clear HBb hmin hdrop hlen2
   refine start_ (n := 15) (S := fun w' => True) (ds := []) (Array.replicate 15 false) zk rfl rfl ⟨⟩ (fun hHeld => ?_)
   refine with_tabW fTw.tab12 fTw.bits12 (fun HT_ HW_ => ?_)
   generalize w9.drew = w10 at HA9 HB9 BS9 hHeld ⊢
   refine zu 0 ?_
   refine zu 1 ?_
   refine zu 2 ?_
   refine zu 3 ?_
   refine zu 4 ?_
   refine zu 5 ?_
   refine zu 6 ?_
   refine zu 7 ?_
   refine zu 8 ?_
   refine zu 9 ?_
   refine zu 10 ?_
   refine zu 11 ?_
   refine zu 12 ?_
   refine zu 13 ?_
   refine zu 14 ?_
   refine zd ?_
   go_wp2
   go_ret3
   refine ⟨.slice (some ⟨ga, 0, none⟩) (times k (pa, pb)).length (times k (pa, pb)).length, .slice (some ⟨gb, 0, none⟩) (times k (pa, pb)).length (times k (pa, pb)).length, rfl, ?_, ?_, BS9.out⟩
   ·rw [hn, Int.toNat_natCast]
    exact Kd.V_mk (Nat.le_refl _) (Kd.R_F HA9.out)
   ·rw [hn, Int.toNat_natCast]
    exact ⟨some ⟨gb, 0, none⟩, (times k (pa, pb)).length, by rw [HL2.out], by rw [HL2.out]; exact Nat.le_refl _, by rw [HL2.out]; exact Kd.R_F HB9.out⟩
end Go.Proofs.YtagkfkdoibnhfaaDoor.K
end
section
namespace Go.Proofs.YtagkfkdoibnhfaaDoor.K
open Go.RowKit Go.Shelf Go.Proofs.YtagkfkdoibnhfaaDoorW.PrintWords Go.Proofs.YtagkfkdoibnhfaaDoorW.PrintLast Go.Proofs.YtagkfkdoibnhfaaDoorW.PrintMore Go.Proofs.YtagkfkdoibnhfaaDoor.H
set_option linter.unusedVariables false
set_option linter.unusedSimpArgs false
attribute [local go_sem] Oper.semAt_some
def fCan.T7 : Bool × List (List Nat × List Nat) := (true, [([], []), ([], []), ([1], [1]), ([2], [2]), ([3], [3]), ([0, 4, 0, 1, 2, 3, 4], [0, 4])])
def fCan.B7 : List Nat := [0, 0, 2, 6, 14, 31]
theorem fCan.tab7 : rtab .any (opsOf Tryd.f24 7) = fCan.T7 := by kernel_rfl
theorem fCan.bits7 : waitsOk fCan.T7.2 fCan.B7 = true := by kernel_rfl
def E3 : KeyEnc Tryd.prog 3 Int where
 enc a := .int .i64 a
 eq a b w := by
  have hu := Tryd.underlying3
  have e : (Op.equalIn (9999 + 1) 3 (.int .i64 a) (.int .i64 b)).run Tryd.prog w = .ok (a == b) w := by go_simp
  rw [beq_dec] at e
  exact e
 check em a w := by
  have h3 := Tryd.underlying3
  show (Instr.checkKey em (9999 + 1) 3 (.int .i64 a)).run Tryd.prog w = _
  unfold Instr.checkKey
  simp only [Sem.run_bind, run_underlying h3, Result.andThen_ok]
  rfl
 bits a := by simp [Instr.sameBits]
 now a b := by
  refine ⟨_, Tryd.underlying3, ?_⟩
  first | exact .inl rfl | (right; simp [Instr.sameNow, beq_dec]) | (right; rfl)
theorem zero4 (w : World) : (zeroValue 4).run Tryd.prog w = .ok (.bool false) w := by kernel_rfl
theorem kvSet_find {α β : Type} [DecidableEq α] (a : α) (b : β) (x : α) : ∀ kv : List (α × β), (kvSet a b kv).find? (fun q => decide (x = q.1)) = if x = a then some (a, b) else kv.find? (fun q => decide (x = q.1))
 | [] => by by_cases h : x = a <;> simp [kvSet, h]
 | (y, z) :: r => by
  have ih := kvSet_find a b x r
  by_cases h : a = y
  ·subst h
   by_cases h2 : x = a <;> simp [kvSet, h2]
  ·by_cases h2 : x = y
   ·subst h2
    have h3 : ¬ x = a := fun e => h e.symm
    simp [kvSet, h, h3]
   ·simp only [kvSet, if_neg h, List.find?_cons, decide_eq_false h2, ih]
def toneKeys (place : Int) (pre : List (Int × Int)) : List (Int × Bool) := pre.foldl (fun kv p => kvSet (side p place) true kv) []
theorem toneKeys_snoc (place : Int) (pre : List (Int × Int)) (x : Int × Int) : toneKeys place (pre ++ [x]) = kvSet (side x place) true (toneKeys place pre) := by unfold toneKeys; rw [List.foldl_append]; rfl
theorem toneKeys_find' (place t : Int) : ∀ (pre : List (Int × Int)) (kv : List (Int × Bool)), (pre.foldl (fun kv p => kvSet (side p place) true kv) kv).find? (fun q => decide (t = q.1)) = if (pre.any fun p => decide (side p place = t)) = true then some (t, true) else kv.find? (fun q => decide (t = q.1))
 | [], kv => by simp
 | x :: pre, kv => by
  rw [List.foldl_cons, toneKeys_find' place t pre, kvSet_find, List.any_cons]
  by_cases h : t = side x place
  ·subst h; simp
  ·have h' : ¬ side x place = t := fun e => h e.symm
   rw [if_neg h, decide_eq_false h', Bool.false_or]
theorem toneKeys_find (place t : Int) (pre : List (Int × Int)) : (toneKeys place pre).find? (fun q => decide (t = q.1)) = if (pre.any fun p => decide (side p place = t)) = true then some (t, true) else none := toneKeys_find' place t pre []
theorem toneKeys_get (place t : Int) (pre : List (Int × Int)) : (kvGet Value.bool (.bool false) (toneKeys place pre) t).1 = .bool (pre.any fun p => decide (side p place = t)) := by
 unfold kvGet
 rw [toneKeys_find]
 cases h : (pre.any fun p => decide (side p place = t)) <;> simp
theorem updates_ {P : Program} {ops : Array Oper} {Q : Exit → Act → World → Prop} {oi : Oper} {a : Act} {w w1 : World} {K : Act → World → Prop} {t : TypeId} {mo x v : Operand} {mb : Nat} {kx vx : Value} (hw : Region.wanted oi (yielded ops a.tmps) = true) (hN : oi.dst = none) (ho : oi.op = .mapUpdate t mo x v)
  (hm : a.eval mo = .map (some mb)) (hx : a.eval x = kx) (hv : a.eval v = vx) (hrun : (Instr.mapUpdate t (.map (some mb)) kx vx).run P w = .ok () w1) (h : K a w1) : if Region.wanted oi (yielded ops a.tmps) = true then Oper.wp P oi a w K Q else K (a.put none undef) w :=
 skip_ hw hN (by simp [execOp, ho, hm, hx, hv, hrun, Result.andThen]) h
def canTo (T O : Int) (R : List S66) (hs : List S60) (place : Int) (n : Nat) : List Int := ((List.range n).map fun i : Nat => (i : Int)).filter fun t => (choices T O R hs (place / 2)).any fun p => decide (side p place = t)
theorem canTo_succ (T O : Int) (R : List S66) (hs : List S60) (place : Int) (n : Nat) : canTo T O R hs place (n + 1) = canTo T O R hs place n ++ (if ((choices T O R hs (place / 2)).any fun p => decide (side p place = (n : Int))) = true then [(n : Int)] else []) := by
 unfold canTo
 rw [List.range_succ, List.map_append, List.filter_append]
 congr 1
 simp only [List.map_cons, List.map_nil, List.filter_cons, List.filter_nil]
theorem canTo_len (T O : Int) (R : List S66) (hs : List S60) (place : Int) (n : Nat) : (canTo T O R hs place n).length ≤ n := by
 unfold canTo
 refine Nat.le_trans (List.length_filter_le _ _) ?_
 simp
theorem canTo_all (T O : Int) (R : List S66) (hs : List S60) (place : Int) (N : Nat) (hN : T * O = (N : Int)) : canTo T O R hs place N = canOf T O R hs place := by
 unfold canTo canOf irange
 rw [hN, show ((N : Int) - 1 + 1 - 0).toNat = N from by omega]
 simp
theorem R_putObj {w : World} {D : Nat} {o : Obj} (o' : Obj) (hl : w.heap[D]? = some o) (ho : o.isCells = false) {α : Type} {d : Kd α} {e base : Nat} {ok : Nat → Prop} {v : Value} {xs : List α} (h : d.R e w base ok v xs) : d.R e (w.putObj D o') base ok v xs :=
 Kd.R_mono (Kd.R_step (ok := fun k => ok k ∧ k ≠ D) (Kd.R_mono (Kd.R_bound h) (fun k hk => ⟨hk.1, by
  obtain ⟨_, _, _, q, _, cells, hc⟩ := hk
  rintro rfl
  rw [hl] at hc
  cases hc
  cases ho⟩)) (fun k hk _ => World.putObj_heap_other (fun e => hk.2 e))) (fun _ hk => hk.1)
theorem R_not {w : World} {g : Nat} {o : Obj} (hl : w.heap[g]? = some o) (ho : o.isCells = false) {α : Type} {d : Kd α} {e base : Nat} {ok : Nat → Prop} {v : Value} {xs : List α} (h : d.R e w base ok v xs) : some g ≠ v.ownBlock := fun e_ => by
 obtain ⟨_, _, _, q, _, cells, hc⟩ := (Kd.R_bound h).1 g e_.symm
 rw [hl] at hc
 cases hc
 cases ho
theorem MapIs.not_own {P : Program} {k : TypeId} {α' β : Type} [DecidableEq α'] {E : KeyEnc P k α'} {V : β → Value} {w : World} {m : Nat} {kv : List (α' × β)} (h : MapIs E V w m kv) {α : Type} {d : Kd α} {e base : Nat} {ok : Nat → Prop} {v : Value} {xs : List α} (hr : d.R e w base ok v xs) : some m ≠ v.ownBlock := by
 obtain ⟨es, c, hb, _⟩ := h
 exact R_not hb rfl hr
theorem below_putObj {w w' : World} {D : Nat} (h : Below w.heap.size w w') (hD : w.heap.size ≤ D) (o : Obj) : Below w.heap.size w (w'.putObj D o) :=
 ⟨h.os, h.tape, h.output, by simpa using h.size, fun i hi => (World.putObj_heap_other (by omega)).trans (h.block i hi)⟩
set_option maxRecDepth 100000 in
set_option maxHeartbeats 8000000 in
theorem canat_ok (T O L : Int) (A : Option Addr) (R : List S66) (c : Nat) (A1 : Option Addr) (c1 : Nat) (hs : List S60) (place : Int) (w : World) (hR : Kd.C k66 w A R.length R) (hc : R.length ≤ c) (hl : Kd.C k60 w A1 hs.length hs) (hG : Glob w) (he : askedErr T O L R hs (decide (0 ≤ place) && decide (place < L)) = 0) :
  Calls Tryd.prog 24 #[.agg #[.int .i64 T, .int .i64 O, .int .i64 L, .slice A R.length c], .slice A1 hs.length c1, .int .i64 place] w (PartPost (canOf T O R hs place) 0 w) := by
 have hu24 := Tryd.underlying24
 have hu78 := Tryd.underlying78
 have hu84 := Tryd.underlying84
 have hu92 := Tryd.underlying92
 have hu103 := Tryd.underlying103
 have hmm := @run_makeMap Tryd.prog
 have HB0 := zh (below_alloc (below_alloc (Below.refl w.heap.size w) (.cells #[.int .i64 T, .int .i64 O, .int .i64 L, .slice A R.length c] 24)) (.cells #[.int .i64 place] 3))
 have HR := zh (Kd.C_below hR HB0.out)
 have HL := zh (Kd.C_below hl HB0.out)
 have HG := zh (hG.below HB0.out)
 have HL0 := zh hl
 have HR0 := zh hR
 have HG0 := zh hG
 have YP := zh (alloc_at (w.alloc (.cells #[.int .i64 T, .int .i64 O, .int .i64 L, .slice A R.length c] 24)) (.cells #[.int .i64 place] 3) (w.heap.size + 1) (by simp))
 have HE := zh he
 obtain ⟨hOK, hOH, hRT, _⟩ : okScale T O L R = true ∧ okHeard L R hs = true ∧ (decide (0 ≤ place) && decide (place < L)) = true ∧ True := by
  unfold askedErr at he
  split at he
  ·split at he
   ·split at he
    ·exact ⟨by assumption, by assumption, by assumption, trivial⟩
    ·omega
   ·omega
  ·omega
 have HOH := zh hOH
 obtain ⟨t1, t2, t3, t4, t5, t6, _, _, t9, _⟩ := okScale_regs hOK
 have mr := mul_range t1 t2 t3 t4
 obtain ⟨N, hN⟩ : ∃ N : Nat, T * O = (N : Int) := Int.eq_ofNat_of_zero_le (by omega)
 have hN' : N ≤ 100 := by omega
 simp only [Bool.and_eq_true, decide_eq_true_eq] at hRT
 obtain ⟨pl0, pl1⟩ := hRT
 obtain ⟨p, hp⟩ : ∃ p : Nat, place / 2 = (p : Int) := Int.eq_ofNat_of_zero_le (by omega)
 have hpL : (p : Int) < L / 2 := by omega
 have HP := zh hp
 have hq1 : wrap64 (place.tdiv 2) = (p : Int) := by rw [Int.tdiv_eq_ediv_of_nonneg pl0, hp]; exact w64 (by omega) (by omega)
 have HEQ := zh (hp)
 clear hR hl hG he hOK hOH t1 t2 t3 t4 t9
 refine (callsIn_wide (n := 9)).1 ?_
 refine callsIn_of_wp_marks Tryd.func24 rfl trivial ?_ rfl
 simp only [Tryd.ntmps24, List.size_toArray, List.length_cons, List.length_nil, Nat.reduceAdd, Nat.reduceSub, Array.replicate_succ, Array.replicate_zero, List.push_toArray, List.append_toArray, List.nil_append, List.cons_append]
 gi_wp2_with (first | (refine ⟨trivial, ?_⟩; gi_at_call 68; refine (callsIn_wide.2 (asked_at_calls T O L A R c A1 c1 hs _ place (w.heap.size + 1) YP.out HR.out hc HL.out HG.out)).mono ?_; rintro e w1 hq; obtain ⟨_, _, _, _, m, rfl, hx⟩ := hq.2 HE.out; have X1 := zh (hx.elder HB0.out HR0.out HG0.out); have YP1 := zh ((hx.base.block _ (by simp)).trans YP.out); have c1_ := cell_a2 (cell_a1 ((blk_cell YP1.out 0).trans (show _ = some (Value.int .i64 place) from rfl)) (.cells #[.int .i64 T, .int .i64 O, .int .i64 L, .slice A R.length c, .map (some m), .slice A1 hs.length c1] 92)) (.map #[] 0) (.cells #[.map (some (w1.heap.size + 1))] 103); clear hq hx) | (refine ⟨trivial, ?_⟩; gi_at_call 64; refine (callsIn_any _ (fits_calls T O L A R.length c m A1 hs.length c1 (p : Int) _)).mono ?_; rintro e w' ⟨rfl, rfl⟩))
 clear c1_
 have KA := zh ((((((KB.refl T R m w1).trans (KB.alloc T R m w1 (.cells #[.int .i64 T, .int .i64 O, .int .i64 L, .slice A R.length c, .map (some m), .slice A1 hs.length c1] 92))).trans (KB.alloc T R m (w1.alloc (.cells #[.int .i64 T, .int .i64 O, .int .i64 L, .slice A R.length c, .map (some m), .slice A1 hs.length c1] 92)) (.map #[] 0))).trans (KB.alloc T R m ((w1.alloc (.cells #[.int .i64 T, .int .i64 O, .int .i64 L, .slice A R.length c, .map (some m), .slice A1 hs.length c1] 92)).alloc (.map #[] 0)) (.cells #[.map (some (w1.heap.size + 1))] 103))).trans (KB.alloc T R m (((w1.alloc (.cells #[.int .i64 T, .int .i64 O, .int .i64 L, .slice A R.length c, .map (some m), .slice A1 hs.length c1] 92)).alloc (.map #[] 0)).alloc (.cells #[.map (some (w1.heap.size + 1))] 103)) (.cells #[.int .i64 T, .int .i64 O, .int .i64 L, .slice A R.length c, .map (some m), .slice A1 hs.length c1] 92))).trans (KB.alloc T R m ((((w1.alloc (.cells #[.int .i64 T, .int .i64 O, .int .i64 L, .slice A R.length c, .map (some m), .slice A1 hs.length c1] 92)).alloc (.map #[] 0)).alloc (.cells #[.map (some (w1.heap.size + 1))] 103)).alloc (.cells #[.int .i64 T, .int .i64 O, .int .i64 L, .slice A R.length c, .map (some m), .slice A1 hs.length c1] 92)) (.cells #[.int .i64 (p : Int)] 3)))
 have Y0 := zh (blk_alloc (blk_alloc (blk_alloc (blk_alloc (alloc_at w1 (.cells #[.int .i64 T, .int .i64 O, .int .i64 L, .slice A R.length c, .map (some m), .slice A1 hs.length c1] 92) (w1.heap.size) (by simp)) (.map #[] 0)) (.cells #[.map (some (w1.heap.size + 1))] 103)) (.cells #[.int .i64 T, .int .i64 O, .int .i64 L, .slice A R.length c, .map (some m), .slice A1 hs.length c1] 92)) (.cells #[.int .i64 (p : Int)] 3))
 have Y1 := zh (blk_alloc (blk_alloc (blk_alloc (alloc_at (w1.alloc (.cells #[.int .i64 T, .int .i64 O, .int .i64 L, .slice A R.length c, .map (some m), .slice A1 hs.length c1] 92)) (.map #[] 0) (w1.heap.size + 1) (by simp)) (.cells #[.map (some (w1.heap.size + 1))] 103)) (.cells #[.int .i64 T, .int .i64 O, .int .i64 L, .slice A R.length c, .map (some m), .slice A1 hs.length c1] 92)) (.cells #[.int .i64 (p : Int)] 3))
 have Y2 := zh (blk_alloc (blk_alloc (alloc_at ((w1.alloc (.cells #[.int .i64 T, .int .i64 O, .int .i64 L, .slice A R.length c, .map (some m), .slice A1 hs.length c1] 92)).alloc (.map #[] 0)) (.cells #[.map (some (w1.heap.size + 1))] 103) (w1.heap.size + 1 + 1) (by simp)) (.cells #[.int .i64 T, .int .i64 O, .int .i64 L, .slice A R.length c, .map (some m), .slice A1 hs.length c1] 92)) (.cells #[.int .i64 (p : Int)] 3))
 have Y3 := zh (blk_alloc (alloc_at (((w1.alloc (.cells #[.int .i64 T, .int .i64 O, .int .i64 L, .slice A R.length c, .map (some m), .slice A1 hs.length c1] 92)).alloc (.map #[] 0)).alloc (.cells #[.map (some (w1.heap.size + 1))] 103)) (.cells #[.int .i64 T, .int .i64 O, .int .i64 L, .slice A R.length c, .map (some m), .slice A1 hs.length c1] 92) (w1.heap.size + 1 + 1 + 1) (by simp)) (.cells #[.int .i64 (p : Int)] 3))
 have Y4 := zh (alloc_at ((((w1.alloc (.cells #[.int .i64 T, .int .i64 O, .int .i64 L, .slice A R.length c, .map (some m), .slice A1 hs.length c1] 92)).alloc (.map #[] 0)).alloc (.cells #[.map (some (w1.heap.size + 1))] 103)).alloc (.cells #[.int .i64 T, .int .i64 O, .int .i64 L, .slice A R.length c, .map (some m), .slice A1 hs.length c1] 92)) (.cells #[.int .i64 (p : Int)] 3) (w1.heap.size + 1 + 1 + 1 + 1) (by simp))

 have hsz : (((((w1.alloc (.cells #[.int .i64 T, .int .i64 O, .int .i64 L, .slice A R.length c, .map (some m), .slice A1 hs.length c1] 92)).alloc (.map #[] 0)).alloc (.cells #[.map (some (w1.heap.size + 1))] 103)).alloc (.cells #[.int .i64 T, .int .i64 O, .int .i64 L, .slice A R.length c, .map (some m), .slice A1 hs.length c1] 92)).alloc (.cells #[.int .i64 (p : Int)] 3)).heap.size = w1.heap.size + 5 := by simp
 obtain ⟨W0, hW0⟩ : ∃ W0, (((((w1.alloc (.cells #[.int .i64 T, .int .i64 O, .int .i64 L, .slice A R.length c, .map (some m), .slice A1 hs.length c1] 92)).alloc (.map #[] 0)).alloc (.cells #[.map (some (w1.heap.size + 1))] 103)).alloc (.cells #[.int .i64 T, .int .i64 O, .int .i64 L, .slice A R.length c, .map (some m), .slice A1 hs.length c1] 92)).alloc (.cells #[.int .i64 (p : Int)] 3)) = W0 := ⟨_, rfl⟩
 simp only [hW0] at KA Y0 Y1 Y2 Y3 Y4 hsz ⊢
 clear hW0
 have X0 := zh (KA.out.ctx X1.out)
 have hw1s := X1.out.base.size
 have hmw1 := X1.out.memo.lt
 have hPlt := blk_lt YP1.out
 have hPm : w.heap.size + 1 ≠ m := by rintro e; exact X1.out.memo.no_cells (e ▸ YP1.out)
 have YP0 := zh (KA.out.at YP1.out hPm)
 refine wpIn_range (n := 9) (by omega) (gf := 85) (lb := #[.pointer (some ⟨w1.heap.size + 1 + 1 + 1, 0, none⟩), .pointer (some ⟨w1.heap.size + 1 + 1 + 1 + 1, 0, none⟩)]) rfl (enters_of Tryd.func85 zk rfl)
  (fits_seq T O L A R c m A1 c1 hs p N (w1.heap.size + 1 + 1 + 1) (w1.heap.size + 1 + 1 + 1 + 1) (fun i => i < W0.heap.size ∧ i ≠ w1.heap.size + 1) w W0 X0.out HL0.out HOH.out t5 t6 hpL Y3.out Y4.out ⟨by omega, by omega⟩ ⟨by omega, by omega⟩ (fun i hi => ⟨by omega, by omega⟩) (fun i hi => hi.1) hN hN') (fun i hi => hi.1) (by omega) (fun _ => rfl)
  (fun pre Wx => KR T R m (fun i => i < W0.heap.size ∧ i ≠ w1.heap.size + 1) W0 Wx ∧ MapIs E3 Value.bool Wx (w1.heap.size + 1) (toneKeys place pre))
  (fun _ _ _ => False)
  (fun s X Y h hk => ⟨h.1.weak hk (fun i hi _ => hi.1), hk.map h.2 (by omega) (by omega)⟩)
  (fun c s X Y h hk => h)
  ⟨KR.refl _ _ _ _ _, ⟨#[], 0, Y1.out, rfl⟩⟩
  (AxBox m W0.heap.size (fun x => #[.int .i64 x.1, .int .i64 x.2]) 84 ?Fr)
  (fun x a' X Y h hk => h.keep hk)
  ?assign ?body ?done ?stop
 case assign =>
  rintro l2 pre x Wx K hI hK
  dsimp only [encP]
  gi_wp2
  refine hK _ _ ((KeepsOthers.alloc _ _).from _) ((KB.alloc T R m Wx _).round _) ⟨hI.1.step (KB.alloc T R m Wx _), (KB.alloc T R m Wx _).map hI.2 (by omega)⟩ ⟨Wx.heap.size, by have := hI.1.size; omega, heap_alloc_new Wx _, hI.1.size, ?_⟩
  generalize Wx.heap.size = gg
  rfl
 case body =>
  rintro l2 pre ⟨xa, xb⟩ a' Wx hl2 hok hpre ⟨hK1, hM1⟩ ⟨gp, hgm, hgp, hgl, rfl⟩
  dsimp only at hgp ⊢
  have HKx := zh hK1
  have HMx := zh hM1
  have HGx := zh hgp
  have hWxs := hK1.size
  have K_ := zh (KB.of_below (T := T) (R := R) (m := m) (below_drew1 (Below.refl Wx.heap.size Wx)))
  have M_ := zh (show Wx.drew.heap[w1.heap.size + 1 + 1]? = _ from hK1.at Y2.out ⟨by omega, by omega⟩ (by omega))
  have P_ := zh (show Wx.drew.heap[w.heap.size + 1]? = _ from hK1.at YP0.out ⟨by omega, by omega⟩ hPm)
  have G_ := zh (show Wx.drew.heap[gp]? = _ from hgp)
  have HM_ := zh (show MapIs E3 Value.bool Wx.drew (w1.heap.size + 1) (toneKeys place pre) from hM1.move rfl)
  clear hK1 hM1 hgp
  by_cases hpar : place % 2 = 0
  ·have hr2 : place.tmod 2 = 0 := by rw [Int.tmod_eq_emod_of_nonneg pl0, hpar]
   have HSD := zh (show side (xa, xb) place = xa by unfold side; rw [if_pos hpar])
   gi_wp2
   refine start_in (n := 6) (S := fun w' => w'.cell? ⟨w1.heap.size + 1 + 1, 0, none⟩ = some (.map (some (w1.heap.size + 1))) ∧ w'.cell? ⟨w.heap.size + 1, 0, none⟩ = some (.int .i64 place) ∧ w'.cell? ⟨gp, 0, none⟩ = some (.int .i64 xa) ∧ w'.cell? ⟨gp, 1, none⟩ = some (.int .i64 xb)) (ds := [5]) #[false, false, false, false, false, false] zk rfl rfl zk dQ12 ⟨vb M_ 0, vb P_ 0, vb G_ 0, vb G_ 1⟩ (fun hHeld => ?_)
   refine with_tabW fCan.tab7 fCan.bits7 (fun HT_ HW_ => ?_)
   generalize Wx.drew = W2 at K_ M_ P_ G_ HM_ hHeld ⊢
   refine zt 0 ?_
   refine zt 1 ?_
   refine zu 2 ?_
   refine zu 3 ?_
   refine zt 4 ?_
   refine zq 5 (fun K hK => ?_)
   obtain ⟨w9, hrun, hm9, hg9⟩ := HM_.out.update Tryd.underlying103 (xa) true
   refine updates_ (by rfl) rfl rfl rfl rfl rfl hrun ?_
   have HM9 := zh hm9
   have HG9 := zh hg9
   clear hm9 hg9 hrun
   refine hK.out _ _ ?_
   clear hK K
   refine zd ?_
   (try gi_wp2)
   exact ⟨((K_.out.round (fun _ => True)).keeps (fun _ _ _ => trivial) (by omega)).trans (KeepsFrom.of_grownBy HG9.out (fun j hj => by injection hj; omega)), (K_.out.round _).grown HG9.out (.inl dQ15) (by omega), (HKx.out.step K_.out).grown HG9.out (.inl (fun h => h.2 rfl)) (by omega), by rw [toneKeys_snoc, HSD.out]; exact HM9.out⟩
  ·have hpar' : place % 2 = 1 := by omega
   have hr2 : place.tmod 2 = 1 := by rw [Int.tmod_eq_emod_of_nonneg pl0, hpar']
   have HSD := zh (show side (xa, xb) place = xb by unfold side; rw [if_neg hpar])
   clear hpar
   gi_wp2
   refine start_in (n := 6) (S := fun w' => w'.cell? ⟨w1.heap.size + 1 + 1, 0, none⟩ = some (.map (some (w1.heap.size + 1))) ∧ w'.cell? ⟨w.heap.size + 1, 0, none⟩ = some (.int .i64 place) ∧ w'.cell? ⟨gp, 0, none⟩ = some (.int .i64 xa) ∧ w'.cell? ⟨gp, 1, none⟩ = some (.int .i64 xb)) (ds := [5]) #[false, false, false, false, false, false] zk rfl rfl zk dQ12 ⟨vb M_ 0, vb P_ 0, vb G_ 0, vb G_ 1⟩ (fun hHeld => ?_)
   refine with_tabW fCan.tab7 fCan.bits7 (fun HT_ HW_ => ?_)
   generalize Wx.drew = W2 at K_ M_ P_ G_ HM_ hHeld ⊢
   refine zt 0 ?_
   refine zt 1 ?_
   refine zu 2 ?_
   refine zu 3 ?_
   refine zt 4 ?_
   refine zq 5 (fun K hK => ?_)
   obtain ⟨w9, hrun, hm9, hg9⟩ := HM_.out.update Tryd.underlying103 (xb) true
   refine updates_ (by rfl) rfl rfl rfl rfl rfl hrun ?_
   have HM9 := zh hm9
   have HG9 := zh hg9
   clear hm9 hg9 hrun
   refine hK.out _ _ ?_
   clear hK K
   refine zd ?_
   (try gi_wp2)
   exact ⟨((K_.out.round (fun _ => True)).keeps (fun _ _ _ => trivial) (by omega)).trans (KeepsFrom.of_grownBy HG9.out (fun j hj => by injection hj; omega)), (K_.out.round _).grown HG9.out (.inl dQ15) (by omega), (HKx.out.step K_.out).grown HG9.out (.inl (fun h => h.2 rfl)) (by omega), by rw [toneKeys_snoc, HSD.out]; exact HM9.out⟩
 case done =>
  rintro D Wx hD ⟨hK1, hM1⟩ hKd
  have HMx := zh hM1
  have HD := zh hKd
  have KX := zh (KR.kbs KA.out hK1 (fun i hi => ⟨by omega, by omega⟩))
  have X2 := zh (KX.out.ctx X1.out)
  have B92 := zh (hK1.at Y0.out ⟨by omega, by omega⟩ (by omega))
  have B103 := zh (hK1.at Y2.out ⟨by omega, by omega⟩ (by omega))
  have hDl := blk_lt hKd
  have z0 : Wx.cell? ⟨w1.heap.size, 0, none⟩ = some (.int .i64 T) := vb B92 0
  have z1 : Wx.cell? ⟨w1.heap.size, 1, none⟩ = some (.int .i64 O) := vb B92 1
  have z2 : Wx.cell? ⟨w1.heap.size, 2, none⟩ = some (.int .i64 L) := vb B92 2
  have z3 : Wx.cell? ⟨w1.heap.size, 3, none⟩ = some (.slice A R.length c) := vb B92 3
  have z4 : Wx.cell? ⟨w1.heap.size, 4, none⟩ = some (.map (some m)) := vb B92 4
  clear hK1 hM1 hKd
  gi_wp2_with (refine ⟨trivial, ?_⟩; gi_at_call 56; refine (callsIn_wide.2 (many_calls T O L A R.length c m _ (by omega) (by omega))).mono ?_; rintro e w5 ⟨rfl, hb5⟩; rw [hN]; have HB5 := zh hb5; clear hb5)
  clear z0 z1 z2 z3 z4
  have X5 := zh (X2.out.below HB5.out)
  have HM5 := zh (HMx.out.below HB5.out)
  have HD5 := zh (blk_below HD.out HB5.out)
  have B5 := zh (blk_below B103.out HB5.out)
  refine wpIn_wide.2 ?_
  go_loopw [12, 38] (fun v u wr => ∃ t : Nat, t ≤ N ∧ u = .int .i64 t ∧ Aside0 (Kd.R (Kd.int .i64) 3 wr w.heap.size (fun k_ => w.heap.size ≤ k_) v (canTo T O R hs place t)) ∧ Aside0 (canTo T O R hs place t = [] → v = .slice none 0 0) ∧ Aside0 (Below w.heap.size w wr) ∧ Aside0 (MapIs E3 Value.bool wr (w1.heap.size + 1) (toneKeys place (choices T O R hs (p : Int)))) ∧ Aside0 (wr.heap[D]? = some (.deferred (some []))) ∧ Aside0 (wr.heap[w1.heap.size + 1 + 1]? = some (.cells #[.map (some (w1.heap.size + 1))] 103 (0, 0)))) (fun _ u _ => N - (intOf u).toNat)
  case atStart => exact ⟨0, Nat.zero_le _, rfl, ⟨Kd.R_nil _ _ _ _ _⟩, ⟨fun _ => rfl⟩, ⟨X5.out.base⟩, HM5, HD5, B5⟩
  case round =>
   obtain ⟨t, ht, rfl, HO, HN2, HBr, HMr, HDr, Br⟩ := hrel
   by_cases hlt : t < N
   ·have hlt' : (t : Int) < (N : Int) := by omega
    have hcl := canTo_len T O R hs place t
    have c0 : wr.cell? ⟨w1.heap.size + 1 + 1, 0, none⟩ = some (.map (some (w1.heap.size + 1))) := vb Br 0
    have hkv := toneKeys_get place (t : Int) (choices T O R hs (p : Int))
    have hcs := canTo_succ T O R hs place t
    rw [HP.out] at hcs
    cases hb : (choices T O R hs (p : Int)).any fun q => decide (side q place = (t : Int)) with
    | true =>
     rw [hb] at hkv hcs
     have HKV := zh hkv
     have HCS := zh (hcs.trans (by rw [if_pos rfl]))
     clear hkv hcs hb
     go_wp2_with (first | ((with_reducible refine wpList_look E3 Value.bool rfl (.tmp 41) (.tmp 42) false rfl Tryd.underlying103 rfl HMr.out (.bool false) (zero4 _) (t : Int) rfl ?_); simp only [Bool.false_eq_true, if_false]; rw [HKV.out]) | ((with_reducible refine gate_builtin (b := .append) (xs := #[.tmp 44, .tmp 46]) rfl ?_); at_builtin; refine Kd.R_append (Kd.int .i64) (w0 := w) w.heap.size rfl (.tmp 44) (.tmp 46) 25 3 (.int .i64 0) 8 rfl Tryd.underlying25 info3 rfl (by decide) (by omega) u12 (canTo T O R hs place t) (t : Int) [.int .i64 (t : Int)] (fun k_ => w.heap.size ≤ k_) (fun _ => False) rfl rfl rfl (fun _ hk => hk.elim) (fun k_ hk_ => Nat.le_trans HBr.out.size hk_) HO.out HBr.out HBr.out.size (by omega) ?_; intro v6 w6 hO6 hB6 hg6 hat; have HO6 := zh hO6; have HB6 := zh hB6; have HG6 := zh hg6; clear hO6 hB6 hg6 hat))
     have hnm := HMr.out.not_own HO.out
     have hnd := R_not HDr.out rfl HO.out
     have hnb := Kd.R_ne HO.out Br.out (by decide)
     go_roundw
     case rel => exact ⟨t + 1, by omega, by go_num, ⟨by rw [HCS.out]; exact HO6.out⟩, ⟨fun h => by rw [HCS.out] at h; simp at h⟩, HB6, ⟨HMr.out.move (HG6.out.block _ HMr.out.lt hnm)⟩, ⟨(HG6.out.block _ (blk_lt HDr.out) hnd).trans HDr.out⟩, ⟨(HG6.out.block _ (blk_lt Br.out) hnb).trans Br.out⟩⟩
     case measure => simp [intOf]; omega
    | false =>
     rw [hb] at hkv hcs
     have HKV := zh hkv
     have HCS := zh (hcs.trans (by rw [if_neg (by simp), List.append_nil]))
     clear hkv hcs hb
     go_wp2_with (first | ((with_reducible refine wpList_look E3 Value.bool rfl (.tmp 41) (.tmp 42) false rfl Tryd.underlying103 rfl HMr.out (.bool false) (zero4 _) (t : Int) rfl ?_); simp only [Bool.false_eq_true, if_false]; rw [HKV.out]))
     go_roundw
     case rel => exact ⟨t + 1, by omega, by go_num, ⟨by rw [HCS.out]; exact HO.out⟩, ⟨by rw [HCS.out]; exact HN2.out⟩, HBr, HMr, HDr, Br⟩
     case measure => simp [intOf]; omega
   ·obtain rfl : t = N := by omega
    have hlt' : ¬ (t : Int) < (t : Int) := by omega
    have HALL := zh (canTo_all T O R hs place t hN)
    have hDw : w.heap.size ≤ D := by omega
    by_cases hne : canTo T O R hs place t = []
    ·have hv := HN2.out hne
     subst hv
     have HNE := zh hne
     clear hne
     go_wp2
     gi_wp2
     refine ⟨by simp, .inl ⟨_, _, rfl, run_takeDeferred HDr.out, ?_⟩⟩
     exact ⟨_, results_tmp2 rfl _ _ _, _, rfl, by rw [← HALL.out, HNE.out]; exact Kd.V_nil _ _ _ _ _, below_putObj HBr.out hDw _⟩
    ·have hO := HO.out
     clear HO HN2
     generalize canTo T O R hs place t = l at hO hne HALL
     have hne' : 0 < l.length := List.length_pos_iff.2 hne
     clear hne
     obtain ⟨g, cap, rfl, hg1, hg2, cells, hg3⟩ := Kd.R_form hO hne'
     have HO2 := zh hO
     have hcp : ((l.length : Nat) : Int) ≤ (cap : Int) := by have := (Kd.R_reads' hO).2.1; omega
     have h00 : (0 : Int) ≤ (l.length : Int) := by omega
     have hle : (l.length : Int) ≤ (l.length : Int) := by omega
     have htn : ((l.length : Int)).toNat = l.length := by omega
     clear hO hg3
     go_wp2
     gi_wp2
     refine ⟨by simp, .inl ⟨_, _, rfl, run_takeDeferred HDr.out, ?_⟩⟩
     refine ⟨_, results_tmp2 rfl _ _ _, _, rfl, ?_, below_putObj HBr.out hDw _⟩
     rw [← HALL.out]
     exact Kd.V_mk (Nat.le_refl _) (Kd.R_F (R_putObj _ HDr.out rfl HO2.out))
 case stop =>
  rintro D c pre Wx hD hpre h hKd
  exact h.elim
end Go.Proofs.YtagkfkdoibnhfaaDoor.K
end
