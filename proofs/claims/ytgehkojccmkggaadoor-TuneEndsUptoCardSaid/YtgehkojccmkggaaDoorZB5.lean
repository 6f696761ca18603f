/- Texts of this seat, joined (pruned by a program of this session to what the claim comes to). -/
import Derived.Deep.Slices
import Derived.LaidMore
import Derived.OpenShut
import Derived.ProofKit
import Derived.Stop.Joined
import Derived.Test.YtgehkojccmkggaaDoorRows
import Derived.Test.YtgehkojccmkggaaDoorZB1
import Derived.Test.YtgehkojccmkggaaDoorZB2
import Derived.Test.YtgehkojccmkggaaDoorZB3
import Derived.Test.YtgehkojccmkggaaDoorZB4
set_option linter.all false
section
namespace Go.Proofs.YtgehkojccmkggaaDoor.K
open Go.RowKit Go.Shelf Go.Proofs.YtgehkojccmkggaaDoorW.PrintWords Go.Proofs.YtgehkojccmkggaaDoorW.PrintLast Go.Proofs.YtgehkojccmkggaaDoorW.PrintMore Go.Proofs.YtgehkojccmkggaaDoor.H Tune
set_option linter.unusedVariables false
set_option linter.unusedSimpArgs false
attribute [local go_sem] Oper.semAt_some
attribute [local go_sem] max2_int min2_int max_two min_two
set_option maxRecDepth 100000 in
set_option maxHeartbeats 8000000 in
theorem apart_good (A0 : Option Addr) (c0 : Nat) (h : List S26) (A1 : Option Addr) (c1 : Nat) (s : List S61) (A2 : Option Addr) (c2 : Nat) (p : List S48) (b0 b1 : Int) (w : World) (hsm : small h s p = true) (hG : Glob w)
  (h0 : Kd.C k26 w A0 h.length h) (hc0 : h.length ≤ c0) (h1 : Kd.C k61 w A1 s.length s) (hc1 : s.length ≤ c1) (h2 : Kd.C k48 w A2 p.length p) (hc2 : p.length ≤ c2) (k1 k2 : Nat) (hk1 : k1 < h.length) (hk2 : k2 < h.length) (hi1 : inK h.length (k1 : Int) = true) (hi2 : inK h.length (k2 : Int) = true) (hE : askedE h s p b0 b1 true = 0) (hkk : k1 ≠ k2) :
  Calls Tryd.prog 27 #[.agg #[.slice A0 h.length c0, .slice A1 s.length c1, .slice A2 p.length c2, .int .i64 b0, .int .i64 b1], .int .i64 (k1 : Int), .int .i64 (k2 : Int)] w fun e w' => e = .returned (.tuple #[.agg #[.int .i64 (apartF h (jsOf h s p b0 b1) (b0, b1) k1 k2).1, .int .i64 (apartF h (jsOf h s p b0 b1) (b0, b1) k1 k2).2], .int .i64 0]) ∧ Below w.heap.size w w' := by
 have hu77 := Tryd.underlying77
 have hu80 := Tryd.underlying80
 have hu28 := Tryd.underlying28
 have hu26 := Tryd.underlying26
 have HB0 := zh (below_alloc (below_alloc (Below.refl w.heap.size w) (.cells #[.slice A0 h.length c0, .slice A1 s.length c1, .slice A2 p.length c2, .int .i64 b0, .int .i64 b1] 28)) (.cells #[.int .i64 0, .int .i64 0] 26))
 have B0 := zh (blk_alloc (alloc_at w (.cells #[.slice A0 h.length c0, .slice A1 s.length c1, .slice A2 p.length c2, .int .i64 b0, .int .i64 b1] 28) w.heap.size rfl) (.cells #[.int .i64 0, .int .i64 0] 26))
 have Z0 := zh (alloc_at (w.alloc (.cells #[.slice A0 h.length c0, .slice A1 s.length c1, .slice A2 p.length c2, .int .i64 b0, .int .i64 b1] 28)) (.cells #[.int .i64 0, .int .i64 0] 26) (w.heap.size + 1) (by simp))
 have HGW := zh hG
 have D0 := zh h0
 have D1 := zh h1
 have D2 := zh h2
 have HSM := zh hsm
 clear h0 h1 h2 hG hsm
 obtain ⟨hck, _, hT⟩ := askedE_ok hE
 have HF := zh (fine_of hck).1
 obtain ⟨ad0, rfl⟩ : ∃ ad, A0 = some ad := by obtain ⟨ad, e, _⟩ := H_at D0.out 0 (by have := HF.out.some; omega); exact ⟨ad, e⟩
 have hke : ((k1 : Int) == (k2 : Int)) = false := beq_eq_false_iff_ne.2 (fun e => hkk (by omega))
 have HNE : Aside0 ((k1 : Int) ≠ (k2 : Int)) := ⟨fun e => hkk (by omega)⟩
 have HKK := zh hkk
 obtain ⟨R, hR⟩ : ∃ R, apartF h (jsOf h s p b0 b1) (b0, b1) k1 k2 = R := ⟨_, rfl⟩
 obtain ⟨L1, hL1⟩ : ∃ L, pitL h (jsOf h s p b0 b1) (b0, b1) k1 = L := ⟨_, rfl⟩
 obtain ⟨L2, hL2⟩ : ∃ L, pitL h (jsOf h s p b0 b1) (b0, b1) k2 = L := ⟨_, rfl⟩
 obtain ⟨T, hTT⟩ : ∃ T : Int → Int → Bool, (fun x y => tunS h (jsOf h s p b0 b1) noLeft (b0, b1) [((k1 : Int), x), ((k2 : Int), y)]) = T := ⟨_, rfl⟩
 have HR : Aside0 ((L1.foldl (fun st x => L2.foldl (apartStep T x) st) ((0, 0), false)).1 = R) := ⟨by rw [← hR]; unfold apartF; rw [hL1, hL2, hTT]⟩
 have HM1 : Aside0 (∀ x ∈ L1, 1 ≤ x ∧ x ≤ 4000) := ⟨fun x hx => by
  rw [← hL1] at hx
  have h9 := mem_pitL.1 hx
  have h8 := HF.out.span k1 hk1
  omega⟩
 have HM2 : Aside0 (∀ x ∈ L2, 1 ≤ x ∧ x ≤ 4000) := ⟨fun x hx => by
  rw [← hL2] at hx
  have h9 := mem_pitL.1 hx
  have h8 := HF.out.span k2 hk2
  omega⟩
 have HP1 : Aside0 (∀ W A3 c3, Below w.heap.size w W → Kd.C k80 W A3 (jsOf h s p b0 b1).length ((jsOf h s p b0 b1).map ofJ) → Calls Tryd.prog 66 #[.agg #[.slice (some ad0) h.length c0, .slice A1 s.length c1, .slice A2 p.length c2, .int .i64 b0, .int .i64 b1, .slice A3 (jsOf h s p b0 b1).length c3, .bool false, .bool false, .bool false, .bool false, .bool false, .bool false, .bool false, .bool false, .int .i64 b0, .int .i64 b1], .int .i64 (k1 : Int)] W fun e w' => ∃ v, e = .returned v ∧ Kd.R (Kd.int .i64) 3 w' W.heap.size (fun _ => True) v L1 ∧ Below W.heap.size W w') := ⟨fun W A3 c3 hW hj => by
  have h7 := pitches_calls ad0 c0 h A1 c1 s A2 c2 p b0 b1 A3 c3 (jsOf h s p b0 b1) k1 W HF.out hk1 (Kd.C_below D0.out hW) hj (HGW.out.below hW)
  rw [hL1] at h7
  exact h7⟩
 have HP2 : Aside0 (∀ W A3 c3, Below w.heap.size w W → Kd.C k80 W A3 (jsOf h s p b0 b1).length ((jsOf h s p b0 b1).map ofJ) → Calls Tryd.prog 66 #[.agg #[.slice (some ad0) h.length c0, .slice A1 s.length c1, .slice A2 p.length c2, .int .i64 b0, .int .i64 b1, .slice A3 (jsOf h s p b0 b1).length c3, .bool false, .bool false, .bool false, .bool false, .bool false, .bool false, .bool false, .bool false, .int .i64 b0, .int .i64 b1], .int .i64 (k2 : Int)] W fun e w' => ∃ v, e = .returned v ∧ Kd.R (Kd.int .i64) 3 w' W.heap.size (fun _ => True) v L2 ∧ Below W.heap.size W w') := ⟨fun W A3 c3 hW hj => by
  have h7 := pitches_calls ad0 c0 h A1 c1 s A2 c2 p b0 b1 A3 c3 (jsOf h s p b0 b1) k2 W HF.out hk2 (Kd.C_below D0.out hW) hj (HGW.out.below hW)
  rw [hL2] at h7
  exact h7⟩
 have HT63 : Aside0 (∀ W A3 c3 m pp qq gl, Below w.heap.size w W → Kd.C k80 W A3 (jsOf h s p b0 b1).length ((jsOf h s p b0 b1).map ofJ) → MapIs E3 (Value.int .i64) W m gl → (gl = [((k1 : Int), pp), ((k2 : Int), qq)] ∨ gl = [((k2 : Int), qq), ((k1 : Int), pp)]) → Calls Tryd.prog 63 #[.agg #[.slice (some ad0) h.length c0, .slice A1 s.length c1, .slice A2 p.length c2, .int .i64 b0, .int .i64 b1, .slice A3 (jsOf h s p b0 b1).length c3, .bool false, .bool false, .bool false, .bool false, .bool false, .bool false, .bool false, .bool false, .int .i64 b0, .int .i64 b1], .map (some m)] W fun e w' => ∃ v, e = .returned (.tuple #[v, .bool (T pp qq)]) ∧ Below W.heap.size W w') := ⟨fun W A3 c3 m pp qq gl hW hj hm hgl => by
  have h7 := tunb_calls ad0 c0 h (.slice A1 s.length c1) (.slice A2 p.length c2) b0 b1 A3 c3 (jsOf h s p b0 b1) m gl W HF.out (Kd.C_below D0.out hW) hj hm (HGW.out.below hW)
  have h8 : tunS h (jsOf h s p b0 b1) noLeft (b0, b1) gl = T pp qq := by
   rw [← hTT]
   rcases hgl with rfl | rfl
   ·rfl
   ·show tunB _ _ _ _ _ _ _ = tunB _ _ _ _ _ _ _
    rw [okG_swap k1 k2 pp qq hkk]
  rw [h8] at h7
  exact h7⟩
 rw [hR]
 clear hR hL1 hL2 hTT hkk hk1 hk2
 go_enter Tryd.func27, Tryd.ntmps27
 go_upto_region 1 with (fail)
 obtain ⟨W1, hW1⟩ : ∃ W1, (w.alloc (.cells #[.slice (some ad0) h.length c0, .slice A1 s.length c1, .slice A2 p.length c2, .int .i64 b0, .int .i64 b1] 28)).alloc (.cells #[.int .i64 0, .int .i64 0] 26) = W1 := ⟨_, rfl⟩
 simp only [hW1] at HB0 B0 Z0 ⊢
 clear hW1
 have HBD := zh (below_drew1 HB0.out)
 replace B0 := zh (show W1.drew.heap[w.heap.size]? = _ from B0.out)
 replace Z0 := zh (show W1.drew.heap[w.heap.size + 1]? = _ from Z0.out)
 clear HB0
 have HAS : Aside0 (∀ W, Below W1.drew.heap.size W1.drew W → Calls Tryd.prog 62 #[.agg #[.slice (some ad0) h.length c0, .slice A1 s.length c1, .slice A2 p.length c2, .int .i64 b0, .int .i64 b1], .bool true] W fun e w' => ∃ A3 c3, e = .returned (.tuple #[.agg #[.slice (some ad0) h.length c0, .slice A1 s.length c1, .slice A2 p.length c2, .int .i64 b0, .int .i64 b1, .slice A3 (jsOf h s p b0 b1).length c3, .bool false, .bool false, .bool false, .bool false, .bool false, .bool false, .bool false, .bool false, .int .i64 b0, .int .i64 b1], .int .i64 0]) ∧ Kd.F k80 w' (fun k => W.heap.size ≤ k) A3 (jsOf h s p b0 b1).length ((jsOf h s p b0 b1).map ofJ) ∧ Below W.heap.size W w') := ⟨fun W hW => asked_good (some ad0) c0 h A1 c1 s A2 c2 p b0 b1 true W HSM.out (HGW.out.below (HBD.out.trans (hW.mono HBD.out.size))) (Kd.C_below (Kd.C_below D0.out HBD.out) hW) hc0 (Kd.C_below (Kd.C_below D1.out HBD.out) hW) hc1 (Kd.C_below (Kd.C_below D2.out HBD.out) hW) hc2 hE⟩
 have HIK3 : Aside0 (∀ W, Below W1.drew.heap.size W1.drew W → Calls Tryd.prog 65 #[.agg #[.slice (some ad0) h.length c0, .slice A1 s.length c1, .slice A2 p.length c2, .int .i64 b0, .int .i64 b1], .int .i64 (k1 : Int)] W fun e w' => e = .returned (.bool true) ∧ Below W.heap.size W w') := ⟨fun W hW => by
  have h9 := isKey_calls (some ad0) c0 h A1 c1 s A2 c2 p b0 b1 (k1 : Int) W (small_h HSM.out) (Kd.C_below (Kd.C_below D0.out HBD.out) hW) hc0 (Kd.C_below (Kd.C_below D1.out HBD.out) hW) hc1 (Kd.C_below (Kd.C_below D2.out HBD.out) hW) hc2
  rw [hi1] at h9
  exact h9⟩
 have HIK7 : Aside0 (∀ W, Below W1.drew.heap.size W1.drew W → Calls Tryd.prog 65 #[.agg #[.slice (some ad0) h.length c0, .slice A1 s.length c1, .slice A2 p.length c2, .int .i64 b0, .int .i64 b1], .int .i64 (k2 : Int)] W fun e w' => e = .returned (.bool true) ∧ Below W.heap.size W w') := ⟨fun W hW => by
  have h9 := isKey_calls (some ad0) c0 h A1 c1 s A2 c2 p b0 b1 (k2 : Int) W (small_h HSM.out) (Kd.C_below (Kd.C_below D0.out HBD.out) hW) hc0 (Kd.C_below (Kd.C_below D1.out HBD.out) hW) hc1 (Kd.C_below (Kd.C_below D2.out HBD.out) hW) hc2
  rw [hi2] at h9
  exact h9⟩
 clear hE hck hT hi1 hi2
 go_cut [8, 9] (fun u8 u9 wc => ∃ g A3 c3, u8 = .pointer (some ⟨g, 0, none⟩) ∧ u9 = .int .i64 0 ∧ Aside0 (wc.heap[g]? = some (.cells #[.slice (some ad0) h.length c0, .slice A1 s.length c1, .slice A2 p.length c2, .int .i64 b0, .int .i64 b1, .slice A3 (jsOf h s p b0 b1).length c3, .bool false, .bool false, .bool false, .bool false, .bool false, .bool false, .bool false, .bool false, .int .i64 b0, .int .i64 b1] 77 (0, 0))) ∧ Aside0 (Kd.F k80 wc (fun _ => True) A3 (jsOf h s p b0 b1).length ((jsOf h s p b0 b1).map ofJ)) ∧ Aside0 (wc.heap[w.heap.size + 1]? = some (.cells #[.int .i64 0, .int .i64 0] 26 (0, 0))) ∧ Aside0 (Below w.heap.size w wc))
 case first =>
  have BL0 := zh (Below.refl W1.drew.heap.size W1.drew)
  refine start_ (n := 16) (S := fun w' => w'.cell? ⟨w.heap.size, 0, none⟩ = some (.slice (some ad0) h.length c0) ∧ w'.cell? ⟨w.heap.size, 1, none⟩ = some (.slice A1 s.length c1) ∧ w'.cell? ⟨w.heap.size, 2, none⟩ = some (.slice A2 p.length c2) ∧ w'.cell? ⟨w.heap.size, 3, none⟩ = some (.int .i64 b0) ∧ w'.cell? ⟨w.heap.size, 4, none⟩ = some (.int .i64 b1)) (ds := []) (Array.replicate 16 false) zk rfl rfl ⟨(blk_cell (blk_below B0.out BL0.out) 0).trans rfl, (blk_cell (blk_below B0.out BL0.out) 1).trans rfl, (blk_cell (blk_below B0.out BL0.out) 2).trans rfl, (blk_cell (blk_below B0.out BL0.out) 3).trans rfl, (blk_cell (blk_below B0.out BL0.out) 4).trans rfl⟩ (fun hHeld => ?_)
  refine with_tabW fApart.tab1 fApart.bits1 (fun HT_ HW_ => ?_)
  generalize W1.drew = v0 at B0 HBD HAS Z0 HIK3 HIK7 BL0 hHeld ⊢
  refine zu 2 ?_
  refine zt 0 ?_
  refine zt 1 ?_
  refine two_ (i := 3) (j := 13) (Ni := some 23) (Nj := some 8) #[true, true, true, true, false, false, false, false, false, false, false, false, false, false, false, false] #[true, true, true, false, false, false, false, false, false, false, false, false, false, true, false, false] rfl rfl rfl rfl (two_of HT_.out zk) (by decide) (by decide) (fun K hK => ?_) (fun K hK => ?_)
  ·refine goes_ Tryd.func65 zk rfl #[.agg #[.slice (some ad0) h.length c0, .slice A1 s.length c1, .slice A2 p.length c2, .int .i64 b0, .int .i64 b1], .int .i64 (k1 : Int)] (by rfl) rfl rfl dQ1 ?_
   (with_reducible refine (HIK3.out v0 BL0.out).mono ?_)
   rintro e v1 ⟨rfl, hb⟩
   refine ⟨_, rfl, ?_⟩
   have BL1 := zh (BL0.out.trans (hb.mono BL0.out.size))
   clear hb
   refine hK.out _ _ (cells5 (blk_below B0.out BL1.out)) (fun hHeld => ?_)
   clear hK K
   refine zr 23 _ ?_
   refine zu 4 ?_
   refine zu 6 ?_
   refine zt 5 ?_
   refine two_ (i := 7) (j := 13) (Ni := some 27) (Nj := some 8) #[true, true, true, true, true, true, true, true, false, false, false, false, false, false, false, false] #[true, true, true, true, true, true, true, false, false, false, false, false, false, true, false, false] rfl rfl rfl rfl (two_of HT_.out zk) (by decide) (by decide) (fun K hK => ?_) (fun K hK => ?_)
   ·refine goes_ Tryd.func65 zk rfl #[.agg #[.slice (some ad0) h.length c0, .slice A1 s.length c1, .slice A2 p.length c2, .int .i64 b0, .int .i64 b1], .int .i64 (k2 : Int)] (by rfl) rfl rfl dQ1 ?_
    (with_reducible refine (HIK7.out v1 BL1.out).mono ?_)
    rintro e v2 ⟨rfl, hb⟩
    refine ⟨_, rfl, ?_⟩
    have BL2 := zh (BL1.out.trans (hb.mono BL1.out.size))
    clear hb
    refine hK.out _ _ (cells5 (blk_below B0.out BL2.out)) (fun hHeld => ?_)
    clear hK K
    refine zr 27 _ ?_
    refine zu 8 ?_
    refine two_ (i := 9) (j := 13) (Ni := some 29) (Nj := some 8) #[true, true, true, true, true, true, true, true, true, true, false, false, false, false, false, false] #[true, true, true, true, true, true, true, true, true, false, false, false, false, true, false, false] rfl rfl rfl rfl (two_of HT_.out zk) (by decide) (by decide) (fun K hK => ?_) (fun K hK => ?_)
    ·refine goes_ Tryd.func62 zk rfl #[.agg #[.slice (some ad0) h.length c0, .slice A1 s.length c1, .slice A2 p.length c2, .int .i64 b0, .int .i64 b1], .bool true] (by rfl) rfl rfl dQ1 ?_
     (with_reducible refine (HAS.out v2 BL2.out).mono ?_)
     rintro e v3 ⟨A3, c3, rfl, hF, hb⟩
     refine ⟨_, rfl, ?_⟩
     have BL3 := zh (BL2.out.trans (hb.mono BL2.out.size))
     have hs2_ := BL2.out.size
     have HF3 := zh (Kd.F_bound hF)
     clear hF hb
     refine hK.out _ _ (cells5 (blk_below B0.out BL3.out)) (fun hHeld => ?_)
     clear hK K
     refine zr 29 _ ?_
     refine zu 10 ?_
     refine zu 11 ?_
     refine zu 12 ?_
     refine zo 13 (fun K hK => ?_)
     refine value_ (v := .pointer (some ⟨v3.heap.size, 0, none⟩)) (w1 := v3.alloc (.cells #[.slice none 0 0, .slice none 0 0, .slice none 0 0, .int .i64 0, .int .i64 0, .slice none 0 0, .bool false, .bool false, .bool false, .bool false, .bool false, .bool false, .bool false, .bool false, .int .i64 0, .int .i64 0] 77)) (by rfl) rfl ?hr3 ?_
     (case hr3 => first | (go_simp; done) | (go_simp; rfl))
     generalize hv_ : v3.alloc (.cells #[.slice none 0 0, .slice none 0 0, .slice none 0 0, .int .i64 0, .int .i64 0, .slice none 0 0, .bool false, .bool false, .bool false, .bool false, .bool false, .bool false, .bool false, .bool false, .int .i64 0, .int .i64 0] 77) = v4
     have BL4 := zh (al_below hv_ BL3.out)
     have G13_4 := zh (al_at hv_)
     have hs3 := BL3.out.size
     have HF4 := zh (al_F hv_ HF3.out)
     clear hv_
     refine hK.out _ _ (cells5 (blk_below B0.out BL4.out)) (fun hHeld => ?_)
     clear hK K
     refine zr 8 _ ?_
     refine zp 14 (fun K hK => ?_)
     obtain ⟨c0_, c1_, c2_, c3_, c4_, c5_, c6_, c7_, c8_, c9_, c10_, c11_, c12_, c13_, c14_, c15_⟩ := cells16 G13_4.out
     obtain ⟨d0_, d1_, d2_, d3_, d4_, d5_, d6_, d7_, d8_, d9_, d10_, d11_, d12_, d13_, d14_, d15_⟩ := froz16 G13_4.out
     refine skip_ (w1 := stS v4 v3.heap.size (some ad0) h.length c0 A1 s.length c1 A2 p.length c2 b0 b1 A3 (jsOf h s p b0 b1).length c3) (by rfl) rfl ?hs4_ ?_
     (case hs4_ => unfold stS st16; first | (go_simp; done) | (go_simp; rfl))
     clear c0_ d0_ c1_ d1_ c2_ d2_ c3_ d3_ c4_ d4_ c5_ d5_ c6_ d6_ c7_ d7_ c8_ d8_ c9_ d9_ c10_ d10_ c11_ d11_ c12_ d12_ c13_ d13_ c14_ d14_ c15_ d15_
     have hs4 := BL4.out.size
     generalize hv_ : stS v4 v3.heap.size (some ad0) h.length c0 A1 s.length c1 A2 p.length c2 b0 b1 A3 (jsOf h s p b0 b1).length c3 = v5
     have BL5 := zh (st_below hv_ BL4.out (by show v0.heap.size ≤ v3.heap.size; omega))
     have G13_5 := zh (st_set hv_ G13_4.out)
     have HF5 := zh (st_F hv_ HF4.out (fun k_ hk_ => by show k_ ≠ v3.heap.size; have h1_ := hk_.1; have h2_ := hk_.2; omega))
     clear hv_
     refine hK.out _ _ (cells5 (blk_below B0.out BL5.out)) (fun hHeld => ?_)
     clear hK K
     refine zu 15 ?_
     refine zd ?_
     go_wp2_with (fail)
     go_meet
     case rel => exact ⟨_, A3, c3, rfl, rfl, G13_5, ⟨Kd.F_mono HF5.out (fun _ _ => trivial)⟩, ⟨blk_below Z0.out BL5.out⟩, ⟨HBD.out.trans (BL5.out.mono HBD.out.size)⟩⟩
    ·refine value_ (v := .pointer (some ⟨v2.heap.size, 0, none⟩)) (w1 := v2.alloc (.cells #[.slice none 0 0, .slice none 0 0, .slice none 0 0, .int .i64 0, .int .i64 0, .slice none 0 0, .bool false, .bool false, .bool false, .bool false, .bool false, .bool false, .bool false, .bool false, .int .i64 0, .int .i64 0] 77)) (by rfl) rfl ?hr2 ?_
     (case hr2 => first | (go_simp; done) | (go_simp; rfl))
     generalize hv_ : v2.alloc (.cells #[.slice none 0 0, .slice none 0 0, .slice none 0 0, .int .i64 0, .int .i64 0, .slice none 0 0, .bool false, .bool false, .bool false, .bool false, .bool false, .bool false, .bool false, .bool false, .int .i64 0, .int .i64 0] 77) = v3
     have BL3 := zh (al_below hv_ BL2.out)
     have G13_3 := zh (al_at hv_)
     have hs2 := BL2.out.size
     clear hv_
     refine hK.out _ _ (cells5 (blk_below B0.out BL3.out)) (fun hHeld => ?_)
     clear hK K
     refine zr 8 _ ?_
     refine zo 9 (fun K hK => ?_)
     refine goes_ Tryd.func62 zk rfl #[.agg #[.slice (some ad0) h.length c0, .slice A1 s.length c1, .slice A2 p.length c2, .int .i64 b0, .int .i64 b1], .bool true] (by rfl) rfl rfl dQ1 ?_
     (with_reducible refine (HAS.out v3 BL3.out).mono ?_)
     rintro e v4 ⟨A3, c3, rfl, hF, hb⟩
     refine ⟨_, rfl, ?_⟩
     have BL4 := zh (BL3.out.trans (hb.mono BL3.out.size))
     have G13_4 := zh (blk_below G13_3.out hb)
     have hs3_ := BL3.out.size
     have hga := blk_lt G13_3.out
     have HF4 := zh (Kd.F_bound hF)
     clear hF hb
     refine hK.out _ _ (cells5 (blk_below B0.out BL4.out)) (fun hHeld => ?_)
     clear hK K
     refine zr 29 _ ?_
     refine zu 10 ?_
     refine zu 11 ?_
     refine zu 12 ?_
     refine zp 14 (fun K hK => ?_)
     obtain ⟨c0_, c1_, c2_, c3_, c4_, c5_, c6_, c7_, c8_, c9_, c10_, c11_, c12_, c13_, c14_, c15_⟩ := cells16 G13_4.out
     obtain ⟨d0_, d1_, d2_, d3_, d4_, d5_, d6_, d7_, d8_, d9_, d10_, d11_, d12_, d13_, d14_, d15_⟩ := froz16 G13_4.out
     refine skip_ (w1 := stS v4 v2.heap.size (some ad0) h.length c0 A1 s.length c1 A2 p.length c2 b0 b1 A3 (jsOf h s p b0 b1).length c3) (by rfl) rfl ?hs4_ ?_
     (case hs4_ => unfold stS st16; first | (go_simp; done) | (go_simp; rfl))
     clear c0_ d0_ c1_ d1_ c2_ d2_ c3_ d3_ c4_ d4_ c5_ d5_ c6_ d6_ c7_ d7_ c8_ d8_ c9_ d9_ c10_ d10_ c11_ d11_ c12_ d12_ c13_ d13_ c14_ d14_ c15_ d15_
     have hs4 := BL4.out.size
     generalize hv_ : stS v4 v2.heap.size (some ad0) h.length c0 A1 s.length c1 A2 p.length c2 b0 b1 A3 (jsOf h s p b0 b1).length c3 = v5
     have BL5 := zh (st_below hv_ BL4.out dQ5)
     have G13_5 := zh (st_set hv_ G13_4.out)
     have HF5 := zh (st_F hv_ HF4.out (fun k_ hk_ => by show k_ ≠ v2.heap.size; have h1_ := hk_.1; have h2_ := hk_.2; omega))
     clear hv_
     refine hK.out _ _ (cells5 (blk_below B0.out BL5.out)) (fun hHeld => ?_)
     clear hK K
     refine zu 15 ?_
     refine zd ?_
     go_wp2_with (fail)
     go_meet
     case rel => exact ⟨_, A3, c3, rfl, rfl, G13_5, ⟨Kd.F_mono HF5.out (fun _ _ => trivial)⟩, ⟨blk_below Z0.out BL5.out⟩, ⟨HBD.out.trans (BL5.out.mono HBD.out.size)⟩⟩
   ·refine value_ (v := .pointer (some ⟨v1.heap.size, 0, none⟩)) (w1 := v1.alloc (.cells #[.slice none 0 0, .slice none 0 0, .slice none 0 0, .int .i64 0, .int .i64 0, .slice none 0 0, .bool false, .bool false, .bool false, .bool false, .bool false, .bool false, .bool false, .bool false, .int .i64 0, .int .i64 0] 77)) (by rfl) rfl ?hr1 ?_
    (case hr1 => first | (go_simp; done) | (go_simp; rfl))
    generalize hv_ : v1.alloc (.cells #[.slice none 0 0, .slice none 0 0, .slice none 0 0, .int .i64 0, .int .i64 0, .slice none 0 0, .bool false, .bool false, .bool false, .bool false, .bool false, .bool false, .bool false, .bool false, .int .i64 0, .int .i64 0] 77) = v2
    have BL2 := zh (al_below hv_ BL1.out)
    have G13_2 := zh (al_at hv_)
    have hs1 := BL1.out.size
    clear hv_
    refine hK.out _ _ (cells5 (blk_below B0.out BL2.out)) (fun hHeld => ?_)
    clear hK K
    refine zr 8 _ ?_
    refine zo 7 (fun K hK => ?_)
    refine goes_ Tryd.func65 zk rfl #[.agg #[.slice (some ad0) h.length c0, .slice A1 s.length c1, .slice A2 p.length c2, .int .i64 b0, .int .i64 b1], .int .i64 (k2 : Int)] (by rfl) rfl rfl dQ1 ?_
    (with_reducible refine (HIK7.out v2 BL2.out).mono ?_)
    rintro e v3 ⟨rfl, hb⟩
    refine ⟨_, rfl, ?_⟩
    have BL3 := zh (BL2.out.trans (hb.mono BL2.out.size))
    have G13_3 := zh (blk_below G13_2.out hb)
    clear hb
    refine hK.out _ _ (cells5 (blk_below B0.out BL3.out)) (fun hHeld => ?_)
    clear hK K
    refine zr 27 _ ?_
    refine zu 8 ?_
    refine zo 9 (fun K hK => ?_)
    refine goes_ Tryd.func62 zk rfl #[.agg #[.slice (some ad0) h.length c0, .slice A1 s.length c1, .slice A2 p.length c2, .int .i64 b0, .int .i64 b1], .bool true] (by rfl) rfl rfl dQ1 ?_
    (with_reducible refine (HAS.out v3 BL3.out).mono ?_)
    rintro e v4 ⟨A3, c3, rfl, hF, hb⟩
    refine ⟨_, rfl, ?_⟩
    have BL4 := zh (BL3.out.trans (hb.mono BL3.out.size))
    have G13_4 := zh (blk_below G13_3.out hb)
    have hs3_ := BL3.out.size
    have hga := blk_lt G13_3.out
    have HF4 := zh (Kd.F_bound hF)
    clear hF hb
    refine hK.out _ _ (cells5 (blk_below B0.out BL4.out)) (fun hHeld => ?_)
    clear hK K
    refine zr 29 _ ?_
    refine zu 10 ?_
    refine zu 11 ?_
    refine zu 12 ?_
    refine zp 14 (fun K hK => ?_)
    obtain ⟨c0_, c1_, c2_, c3_, c4_, c5_, c6_, c7_, c8_, c9_, c10_, c11_, c12_, c13_, c14_, c15_⟩ := cells16 G13_4.out
    obtain ⟨d0_, d1_, d2_, d3_, d4_, d5_, d6_, d7_, d8_, d9_, d10_, d11_, d12_, d13_, d14_, d15_⟩ := froz16 G13_4.out
    refine skip_ (w1 := stS v4 v1.heap.size (some ad0) h.length c0 A1 s.length c1 A2 p.length c2 b0 b1 A3 (jsOf h s p b0 b1).length c3) (by rfl) rfl ?hs4_ ?_
    (case hs4_ => unfold stS st16; first | (go_simp; done) | (go_simp; rfl))
    clear c0_ d0_ c1_ d1_ c2_ d2_ c3_ d3_ c4_ d4_ c5_ d5_ c6_ d6_ c7_ d7_ c8_ d8_ c9_ d9_ c10_ d10_ c11_ d11_ c12_ d12_ c13_ d13_ c14_ d14_ c15_ d15_
    have hs4 := BL4.out.size
    generalize hv_ : stS v4 v1.heap.size (some ad0) h.length c0 A1 s.length c1 A2 p.length c2 b0 b1 A3 (jsOf h s p b0 b1).length c3 = v5
    have BL5 := zh (st_below hv_ BL4.out dQ3)
    have G13_5 := zh (st_set hv_ G13_4.out)
    have HF5 := zh (st_F hv_ HF4.out (fun k_ hk_ => by show k_ ≠ v1.heap.size; have h1_ := hk_.1; have h2_ := hk_.2; omega))
    clear hv_
    refine hK.out _ _ (cells5 (blk_below B0.out BL5.out)) (fun hHeld => ?_)
    clear hK K
    refine zu 15 ?_
    refine zd ?_
    go_wp2_with (fail)
    go_meet
    case rel => exact ⟨_, A3, c3, rfl, rfl, G13_5, ⟨Kd.F_mono HF5.out (fun _ _ => trivial)⟩, ⟨blk_below Z0.out BL5.out⟩, ⟨HBD.out.trans (BL5.out.mono HBD.out.size)⟩⟩
  ·refine value_ (v := .pointer (some ⟨v0.heap.size, 0, none⟩)) (w1 := v0.alloc (.cells #[.slice none 0 0, .slice none 0 0, .slice none 0 0, .int .i64 0, .int .i64 0, .slice none 0 0, .bool false, .bool false, .bool false, .bool false, .bool false, .bool false, .bool false, .bool false, .int .i64 0, .int .i64 0] 77)) (by rfl) rfl ?hr0 ?_
   (case hr0 => first | (go_simp; done) | (go_simp; rfl))
   generalize hv_ : v0.alloc (.cells #[.slice none 0 0, .slice none 0 0, .slice none 0 0, .int .i64 0, .int .i64 0, .slice none 0 0, .bool false, .bool false, .bool false, .bool false, .bool false, .bool false, .bool false, .bool false, .int .i64 0, .int .i64 0] 77) = v1
   have BL1 := zh (al_below hv_ BL0.out)
   have G13_1 := zh (al_at hv_)
   have hs0 := BL0.out.size
   clear hv_
   refine hK.out _ _ (cells5 (blk_below B0.out BL1.out)) (fun hHeld => ?_)
   clear hK K
   refine zr 8 _ ?_
   refine zo 3 (fun K hK => ?_)
   refine goes_ Tryd.func65 zk rfl #[.agg #[.slice (some ad0) h.length c0, .slice A1 s.length c1, .slice A2 p.length c2, .int .i64 b0, .int .i64 b1], .int .i64 (k1 : Int)] (by rfl) rfl rfl dQ1 ?_
   (with_reducible refine (HIK3.out v1 BL1.out).mono ?_)
   rintro e v2 ⟨rfl, hb⟩
   refine ⟨_, rfl, ?_⟩
   have BL2 := zh (BL1.out.trans (hb.mono BL1.out.size))
   have G13_2 := zh (blk_below G13_1.out hb)
   clear hb
   refine hK.out _ _ (cells5 (blk_below B0.out BL2.out)) (fun hHeld => ?_)
   clear hK K
   refine zr 23 _ ?_
   refine zu 4 ?_
   refine zu 6 ?_
   refine zt 5 ?_
   refine zo 7 (fun K hK => ?_)
   refine goes_ Tryd.func65 zk rfl #[.agg #[.slice (some ad0) h.length c0, .slice A1 s.length c1, .slice A2 p.length c2, .int .i64 b0, .int .i64 b1], .int .i64 (k2 : Int)] (by rfl) rfl rfl dQ1 ?_
   (with_reducible refine (HIK7.out v2 BL2.out).mono ?_)
   rintro e v3 ⟨rfl, hb⟩
   refine ⟨_, rfl, ?_⟩
   have BL3 := zh (BL2.out.trans (hb.mono BL2.out.size))
   have G13_3 := zh (blk_below G13_2.out hb)
   clear hb
   refine hK.out _ _ (cells5 (blk_below B0.out BL3.out)) (fun hHeld => ?_)
   clear hK K
   refine zr 27 _ ?_
   refine zu 8 ?_
   refine zo 9 (fun K hK => ?_)
   refine goes_ Tryd.func62 zk rfl #[.agg #[.slice (some ad0) h.length c0, .slice A1 s.length c1, .slice A2 p.length c2, .int .i64 b0, .int .i64 b1], .bool true] (by rfl) rfl rfl dQ1 ?_
   (with_reducible refine (HAS.out v3 BL3.out).mono ?_)
   rintro e v4 ⟨A3, c3, rfl, hF, hb⟩
   refine ⟨_, rfl, ?_⟩
   have BL4 := zh (BL3.out.trans (hb.mono BL3.out.size))
   have G13_4 := zh (blk_below G13_3.out hb)
   have hs3_ := BL3.out.size
   have hga := blk_lt G13_3.out
   have HF4 := zh (Kd.F_bound hF)
   clear hF hb
   refine hK.out _ _ (cells5 (blk_below B0.out BL4.out)) (fun hHeld => ?_)
   clear hK K
   refine zr 29 _ ?_
   refine zu 10 ?_
   refine zu 11 ?_
   refine zu 12 ?_
   refine zp 14 (fun K hK => ?_)
   obtain ⟨c0_, c1_, c2_, c3_, c4_, c5_, c6_, c7_, c8_, c9_, c10_, c11_, c12_, c13_, c14_, c15_⟩ := cells16 G13_4.out
   obtain ⟨d0_, d1_, d2_, d3_, d4_, d5_, d6_, d7_, d8_, d9_, d10_, d11_, d12_, d13_, d14_, d15_⟩ := froz16 G13_4.out
   refine skip_ (w1 := stS v4 v0.heap.size (some ad0) h.length c0 A1 s.length c1 A2 p.length c2 b0 b1 A3 (jsOf h s p b0 b1).length c3) (by rfl) rfl ?hs4_ ?_
   (case hs4_ => unfold stS st16; first | (go_simp; done) | (go_simp; rfl))
   clear c0_ d0_ c1_ d1_ c2_ d2_ c3_ d3_ c4_ d4_ c5_ d5_ c6_ d6_ c7_ d7_ c8_ d8_ c9_ d9_ c10_ d10_ c11_ d11_ c12_ d12_ c13_ d13_ c14_ d14_ c15_ d15_
   have hs4 := BL4.out.size
   generalize hv_ : stS v4 v0.heap.size (some ad0) h.length c0 A1 s.length c1 A2 p.length c2 b0 b1 A3 (jsOf h s p b0 b1).length c3 = v5
   have BL5 := zh (st_below hv_ BL4.out dQ4)
   have G13_5 := zh (st_set hv_ G13_4.out)
   have HF5 := zh (st_F hv_ HF4.out (fun k_ hk_ => by show k_ ≠ v0.heap.size; have h1_ := hk_.1; have h2_ := hk_.2; omega))
   clear hv_
   refine hK.out _ _ (cells5 (blk_below B0.out BL5.out)) (fun hHeld => ?_)
   clear hK K
   refine zu 15 ?_
   refine zd ?_
   go_wp2_with (fail)
   go_meet
   case rel => exact ⟨_, A3, c3, rfl, rfl, G13_5, ⟨Kd.F_mono HF5.out (fun _ _ => trivial)⟩, ⟨blk_below Z0.out BL5.out⟩, ⟨HBD.out.trans (BL5.out.mono HBD.out.size)⟩⟩
 case rest => as_aux_lemma =>
  obtain ⟨g, A3, c3, rfl, rfl, GX, HF3, Zc, HBc⟩ := hcut
  have HC3 := zh (Kd.F_now HF3.out)
  have HBo := zh (below_alloc HBc.out (.cells #[.int .i64 0, .int .i64 0] 26))
  have O0 := zh (alloc_at wc (.cells #[.int .i64 0, .int .i64 0] 26) wc.heap.size rfl)
  have Go := zh (blk_alloc GX.out (.cells #[.int .i64 0, .int .i64 0] 26))
  obtain ⟨x0, x1, x2, x3, x4, x5, x6, x7, x8, x9, x10, x11, x12, x13, x14, x15⟩ := cells16 Go.out
  have Zo := zh (blk_alloc Zc.out (.cells #[.int .i64 0, .int .i64 0] 26))
  have HCo := zh (Kd.C_alloc HC3.out (.cells #[.int .i64 0, .int .i64 0] 26))
  go_wp2_with (first | (go_at_call 66; (with_reducible refine (HP2.out _ A3 c3 HBo.out HCo.out).mono ?_); rintro e w5 ⟨v2, rfl, hr, hb⟩; have HR2 := zh hr; have HB5 := zh (HBo.out.trans (hb.mono HBo.out.size)); have BL5 := zh hb; have G5 := zh (blk_below Go.out hb); have HC5 := zh (Kd.C_below HCo.out hb); clear hr hb x0 x1 x2 x3 x4 x5 x6 x7 x8 x9 x10 x11 x12 x13 x14 x15; obtain ⟨x0, x1, x2, x3, x4, x5, x6, x7, x8, x9, x10, x11, x12, x13, x14, x15⟩ := cells16 G5.out) | (go_at_call 66; (with_reducible refine (HP1.out _ A3 c3 HB5.out HC5.out).mono ?_); rintro e w6 ⟨v1, rfl, hr, hb⟩; obtain ⟨A_1, cl1, rfl⟩ := Kd.R_slice hr; have HR1 := zh hr; have HB6 := zh (HB5.out.trans (hb.mono HB5.out.size)); have BL6 := zh (BL5.out.trans (hb.mono BL5.out.size)); have HR2b := zh (Kd.R_below HR2.out hb); clear hr hb))
  obtain ⟨A_2, cl2, rfl⟩ := Kd.R_slice HR2b.out
  have O6 := zh (blk_below O0.out BL6.out)
  have G6 := zh (blk_below Go.out BL6.out)
  have Z6 := zh (blk_below Zo.out BL6.out)
  have hn1 := (Kd.R_reads' HR1.out).2.2.2.1
  have hn2 := (Kd.R_reads' HR2b.out).2.2.2.1
  have hgo := blk_lt GX.out
  have hzo := blk_lt Zc.out
  have hso := HBc.out.size
  obtain ⟨go, hgoe⟩ : ∃ x, wc.heap.size = x := ⟨_, rfl⟩
  obtain ⟨Q, hQ⟩ : ∃ Q : Int × Int → World → Prop, ∀ o X, Q o X ↔ (X.heap[go]? = some (.cells #[.int .i64 o.1, .int .i64 o.2] 26 (0, 0)) ∧ X.heap[g]? = some (.cells #[.slice (some ad0) h.length c0, .slice A1 s.length c1, .slice A2 p.length c2, .int .i64 b0, .int .i64 b1, .slice A3 (jsOf h s p b0 b1).length c3, .bool false, .bool false, .bool false, .bool false, .bool false, .bool false, .bool false, .bool false, .int .i64 b0, .int .i64 b1] 77 (0, 0)) ∧ Kd.F k80 X (fun k => k ≠ go) A3 (jsOf h s p b0 b1).length ((jsOf h s p b0 b1).map ofJ) ∧ Kd.F (Kd.int .i64) X (fun k => k ≠ go) A_1 L1.length L1 ∧ Kd.F (Kd.int .i64) X (fun k => k ≠ go) A_2 L2.length L2 ∧ X.heap[w.heap.size + 1]? = some (.cells #[.int .i64 0, .int .i64 0] 26 (0, 0)) ∧ Below w.heap.size w X) := ⟨_, fun _ _ => Iff.rfl⟩
  have HQ := zh hQ
  have HQB : Aside0 (∀ o X X', Q o X → Below X.heap.size X X' → Q o X') := ⟨fun o X X' hq hb => by
   obtain ⟨q1, q2, q3, q4, q5, q6, q7⟩ := (HQ.out o X).1 hq
   exact (HQ.out o X').2 ⟨blk_below q1 hb, blk_below q2 hb, Kd.F_below q3 hb, Kd.F_below q4 hb, Kd.F_below q5 hb, blk_below q6 hb, q7.trans (hb.mono q7.size)⟩⟩
  have HQS : Aside0 (∀ o X a b, Q o X → Q (a, b) ((X.setCell ⟨go, 0, none⟩ (.int .i64 a)).setCell ⟨go, 1, none⟩ (.int .i64 b))) := ⟨fun o X a b hq => by
   obtain ⟨q1, q2, q3, q4, q5, q6, q7⟩ := (HQ.out o X).1 hq
   refine (HQ.out _ _).2 ⟨set2 q1 _ _, ?_, ?_, ?_, ?_, ?_, ?_⟩
   ·exact blk_far (blk_far q2 (p := ⟨go, 0, none⟩) (by show g ≠ go; omega) _) (p := ⟨go, 1, none⟩) (by show g ≠ go; omega) _
   ·exact Kd.F_far (Kd.F_far q3 (p := ⟨go, 0, none⟩) (fun k hk => hk) _) (p := ⟨go, 1, none⟩) (fun k hk => hk) _
   ·exact Kd.F_far (Kd.F_far q4 (p := ⟨go, 0, none⟩) (fun k hk => hk) _) (p := ⟨go, 1, none⟩) (fun k hk => hk) _
   ·exact Kd.F_far (Kd.F_far q5 (p := ⟨go, 0, none⟩) (fun k hk => hk) _) (p := ⟨go, 1, none⟩) (fun k hk => hk) _
   ·exact blk_far (blk_far q6 (p := ⟨go, 0, none⟩) (by show w.heap.size + 1 ≠ go; omega) _) (p := ⟨go, 1, none⟩) (by show w.heap.size + 1 ≠ go; omega) _
   ·exact (q7.setCell (p := ⟨go, 0, none⟩) (by show w.heap.size ≤ go; omega) _).setCell (p := ⟨go, 1, none⟩) (by show w.heap.size ≤ go; omega) _⟩
  have HQ6 : Aside0 (Q (0, 0) w6) := ⟨by
   rw [hQ, ← hgoe]
   have hb5 := BL5.out.size
   refine ⟨O6.out, G6.out, ?_, ?_, ?_, Z6.out, HB6.out⟩
   ·exact Kd.F_mono (Kd.F_below (Kd.F_bound HF3.out) ((below_alloc (Below.refl wc.heap.size wc) (.cells #[.int .i64 0, .int .i64 0] 26)).trans (BL6.out.mono (by simp)))) (fun k hk => Nat.ne_of_lt hk.2)
   ·exact Kd.F_mono (Kd.R_F (Kd.R_bound HR1.out)) (fun k hk => by have h9 := hk.2.1; simp at hb5; omega)
   ·exact Kd.F_mono (Kd.R_F (Kd.R_bound HR2b.out)) (fun k hk => by have h9 := hk.2.1; simp at h9; omega)⟩
  simp only [hgoe]
  clear hQ HBo O0 Go Zo HCo HR2 HR2b HR1 HB5 BL5 G5 HC5 HB6 BL6 O6 G6 Z6 x0 x1 x2 x3 x4 x5 x6 x7 x8 x9 x10 x11 x12 x13 x14 x15 GX HC3 Zc HBc
  go_loopw [11, 48] (fun u11 u48 wr => ∃ (i : Nat) (o : Int × Int) (fd : Bool), i ≤ L1.length ∧ u48 = .int .i64 i ∧ u11 = .bool fd ∧ Aside0 (((L1.drop i).foldl (fun st x => L2.foldl (apartStep T x) st) (o, fd)).1 = R) ∧ Aside0 (Q o wr)) (fun _ u48 _ => L1.length - (intOf u48).toNat)
  case atStart => exact ⟨0, (0, 0), false, Nat.zero_le _, rfl, rfl, HR, HQ6⟩
  case round =>
   obtain ⟨i, o, fd, hi, rfl, rfl, HI, HQ0⟩ := hrel
   by_cases hil : i < L1.length
   ·have hil' : (i : Int) < (L1.length : Int) := by omega
    obtain ⟨q1, q2, q3, q4, q5, q6, q7⟩ := (HQ.out o wr).1 HQ0.out
    obtain ⟨ad1, rfl, ca⟩ := C_int_at (Kd.F_now q4) i hil
    have hpm := HM1.out _ (List.getElem_mem hil)
    have HI2 : Aside0 (((L1.drop (i + 1)).foldl (fun st x => L2.foldl (apartStep T x) st) (L2.foldl (apartStep T L1[i]) (o, fd))).1 = R) := ⟨by have h9 := HI.out; rw [List.drop_eq_getElem_cons hil, List.foldl_cons] at h9; exact h9⟩
    obtain ⟨pp, hpp⟩ : ∃ x, L1[i] = x := ⟨_, rfl⟩
    rw [show L1.getD i 0 = L1[i] by simp [List.getD_eq_getElem?_getD, hil], hpp] at ca
    rw [hpp] at hpm HI2
    clear q1 q2 q3 q4 q5 q6 q7 hpp
    obtain ⟨ST, hST⟩ : ∃ ST, L2.foldl (apartStep T pp) (o, fd) = ST := ⟨_, rfl⟩
    have HST : Aside0 ((L2.drop 0).foldl (apartStep T pp) (o, fd) = ST) := ⟨by rw [List.drop_zero]; exact hST⟩
    rw [hST] at HI2
    clear hST
    go_wp2
    clear ca
    go_loopw [11, 54] (fun u11 u54 wr => ∃ (m : Nat) (o : Int × Int) (fd : Bool), m ≤ L2.length ∧ u54 = .int .i64 m ∧ u11 = .bool fd ∧ Aside0 ((L2.drop m).foldl (apartStep T pp) (o, fd) = ST) ∧ Aside0 (Q o wr)) (fun _ u54 _ => L2.length - (intOf u54).toNat)
    case atStart => exact ⟨0, o, fd, Nat.zero_le _, rfl, rfl, HST, HQ0⟩
    case round =>
     obtain ⟨m, ⟨o0, o1⟩, fd, hm, rfl, rfl, HM, HQ0⟩ := hrel
     by_cases hml : m < L2.length
     ·have hml' : (m : Int) < (L2.length : Int) := by omega
      obtain ⟨q1, q2, q3, q4, q5, q6, q7⟩ := (HQ.out (o0, o1) wr).1 HQ0.out
      obtain ⟨ad2, rfl, ca⟩ := C_int_at (Kd.F_now q5) m hml
      have hqm := HM2.out _ (List.getElem_mem hml)
      have HMS : Aside0 ((L2.drop (m + 1)).foldl (apartStep T pp) (apartStep T pp ((o0, o1), fd) L2[m]) = ST) := ⟨by have h9 := HM.out; rw [List.drop_eq_getElem_cons hml, List.foldl_cons] at h9; exact h9⟩
      obtain ⟨qq, hqq⟩ : ∃ x, L2[m] = x := ⟨_, rfl⟩
      rw [show L2.getD m 0 = L2[m] by simp [List.getD_eq_getElem?_getD, hml], hqq] at ca
      rw [hqq] at hqm HMS
      have y0 : wr.cell? ⟨go, 0, none⟩ = some (.int .i64 o0) := (blk_cell q1 0).trans rfl
      have y1 : wr.cell? ⟨go, 1, none⟩ = some (.int .i64 o1) := (blk_cell q1 1).trans rfl
      clear q1 q2 q3 q4 q5 q6 q7 hqq
      go_upto_region 13 with (fail)
      go_cut [16, 68] (fun u16 u68 wc => u16 = .int .i64 qq ∧ u68 = .bool (fd && (decide (o0 ≤ qq - pp) && decide (qq - pp ≤ o1))) ∧ Aside0 (Q (o0, o1) wc))
      case first =>
       cases fd with
       | false =>
        go_wp2
        go_meet
        case rel => exact ⟨rfl, rfl, HQ0⟩
       | true =>
        cases hl : (decide (o0 ≤ qq - pp) && decide (qq - pp ≤ o1)) with
        | false =>
         have HL := zh hl
         clear hl
         go_wp2_with (go_at_call 51; (with_reducible refine (tune_lies.calls (qq - pp) o0 o1 _ _ (lies_f _ _ _)).mono ?_); rintro e w8 ⟨rfl, hd⟩; rw [HL.out]; have HQ8 := zh (HQB.out _ _ _ HQ0.out (drawn_below hd)); clear hd)
         go_meet
         case rel => exact ⟨rfl, by rw [HL.out]; rfl, HQ8⟩
        | true =>
         have HL := zh hl
         clear hl
         go_wp2_with (go_at_call 51; (with_reducible refine (tune_lies.calls (qq - pp) o0 o1 _ _ (lies_f _ _ _)).mono ?_); rintro e w8 ⟨rfl, hd⟩; rw [HL.out]; have HQ8 := zh (HQB.out _ _ _ HQ0.out (drawn_below hd)); clear hd)
         go_meet
         case rel => exact ⟨rfl, by rw [HL.out]; rfl, HQ8⟩
      case rest =>
       obtain ⟨rfl, hu68, HQc⟩ := hcut
       subst hu68
       cases hnl : (fd && (decide (o0 ≤ qq - pp) && decide (qq - pp ≤ o1))) with
       | true =>
        have HMT : Aside0 ((L2.drop (m + 1)).foldl (apartStep T pp) ((o0, o1), fd) = ST) := ⟨by have h9 := HMS.out; rw [show apartStep T pp ((o0, o1), fd) qq = ((o0, o1), fd) by unfold apartStep; rw [if_pos hnl]] at h9; exact h9⟩
        clear hnl
        go_wp2
        go_roundw
        case rel => exact ⟨m + 1, (o0, o1), fd, by omega, by go_num, rfl, HMT, HQc⟩
        case measure => simp [intOf]; omega
       | false =>
        obtain ⟨q1, q2, q3, q4, q5, q6, q7⟩ := (HQ.out (o0, o1) wc).1 HQc.out
        have X0 := zh (show wc.drew.heap[g]? = _ from q2)
        have HQ1 := zh (HQB.out _ _ _ HQc.out (below_drew1 (Below.refl wc.heap.size wc)))
        have HT14 : Aside0 (∀ W m gl, Below wc.drew.heap.size wc.drew W → MapIs E3 (Value.int .i64) W m gl → (gl = [((k1 : Int), pp), ((k2 : Int), qq)] ∨ gl = [((k2 : Int), qq), ((k1 : Int), pp)]) → Calls Tryd.prog 63 #[.agg #[.slice (some ad0) h.length c0, .slice A1 s.length c1, .slice A2 p.length c2, .int .i64 b0, .int .i64 b1, .slice A3 (jsOf h s p b0 b1).length c3, .bool false, .bool false, .bool false, .bool false, .bool false, .bool false, .bool false, .bool false, .int .i64 b0, .int .i64 b1], .map (some m)] W fun e w' => ∃ v, e = .returned (.tuple #[v, .bool (T pp qq)]) ∧ Below W.heap.size W w') := ⟨fun W m gl hW hm hgl => HT63.out W A3 c3 m pp qq gl ((below_drew1 q7).trans (hW.mono q7.size)) (Kd.C_below (Kd.F_now (Kd.F_drew q3)) hW) hm hgl⟩
        have BL0 := zh (Below.refl wc.drew.heap.size wc.drew)
        clear q1 q2 q3 q4 q5 q6 q7 y0 y1 ca
        go_upto_region 14 with (fail)
        go_cut [18] (fun u18 wx => u18 = .bool (T pp qq) ∧ Aside0 (Q (o0, o1) wx))
        case first =>
         refine start_ (n := 15) (S := fun w' => w'.cell? ⟨g, 0, none⟩ = some (.slice (some ad0) h.length c0) ∧ w'.cell? ⟨g, 1, none⟩ = some (.slice A1 s.length c1) ∧ w'.cell? ⟨g, 2, none⟩ = some (.slice A2 p.length c2) ∧ w'.cell? ⟨g, 3, none⟩ = some (.int .i64 b0) ∧ w'.cell? ⟨g, 4, none⟩ = some (.int .i64 b1) ∧ w'.cell? ⟨g, 5, none⟩ = some (.slice A3 (jsOf h s p b0 b1).length c3) ∧ w'.cell? ⟨g, 6, none⟩ = some (.bool false) ∧ w'.cell? ⟨g, 7, none⟩ = some (.bool false) ∧ w'.cell? ⟨g, 8, none⟩ = some (.bool false) ∧ w'.cell? ⟨g, 9, none⟩ = some (.bool false) ∧ w'.cell? ⟨g, 10, none⟩ = some (.bool false) ∧ w'.cell? ⟨g, 11, none⟩ = some (.bool false) ∧ w'.cell? ⟨g, 12, none⟩ = some (.bool false) ∧ w'.cell? ⟨g, 13, none⟩ = some (.bool false) ∧ w'.cell? ⟨g, 14, none⟩ = some (.int .i64 b0) ∧ w'.cell? ⟨g, 15, none⟩ = some (.int .i64 b1)) (ds := []) (Array.replicate 15 false) zk rfl rfl ⟨(blk_cell (blk_below X0.out BL0.out) 0).trans rfl, (blk_cell (blk_below X0.out BL0.out) 1).trans rfl, (blk_cell (blk_below X0.out BL0.out) 2).trans rfl, (blk_cell (blk_below X0.out BL0.out) 3).trans rfl, (blk_cell (blk_below X0.out BL0.out) 4).trans rfl, (blk_cell (blk_below X0.out BL0.out) 5).trans rfl, (blk_cell (blk_below X0.out BL0.out) 6).trans rfl, (blk_cell (blk_below X0.out BL0.out) 7).trans rfl, (blk_cell (blk_below X0.out BL0.out) 8).trans rfl, (blk_cell (blk_below X0.out BL0.out) 9).trans rfl, (blk_cell (blk_below X0.out BL0.out) 10).trans rfl, (blk_cell (blk_below X0.out BL0.out) 11).trans rfl, (blk_cell (blk_below X0.out BL0.out) 12).trans rfl, (blk_cell (blk_below X0.out BL0.out) 13).trans rfl, (blk_cell (blk_below X0.out BL0.out) 14).trans rfl, (blk_cell (blk_below X0.out BL0.out) 15).trans rfl⟩ (fun hHeld => ?_)
         refine with_tabW fApart.tab14 fApart.bits14 (fun HT_ HW_ => ?_)
         generalize wc.drew = v0 at X0 BL0 HQ1 HT14 hHeld ⊢
         refine zu 2 ?_
         refine zu 3 ?_
         refine zu 5 ?_
         refine zu 6 ?_
         refine zt 0 ?_
         refine zo 1 (fun K hK => ?_)
         refine value_ (v := .map (some v0.heap.size)) (w1 := v0.alloc (.map #[] 0)) (by rfl) rfl ?hr0 ?_
         (case hr0 => first | rfl | (go_simp; done) | (go_simp; rfl))
         have BL1 := zh (below_alloc BL0.out (.map #[] 0))
         have M1 : Aside0 (MapIs E3 (Value.int .i64) (v0.alloc (.map #[] 0)) v0.heap.size []) := ⟨MapIs.new v0⟩
         generalize v0.alloc (.map #[] 0) = v1 at BL1 M1 ⊢
         refine hK.out _ _ (cells16 (blk_below X0.out BL1.out)) (fun hHeld => ?_)
         clear hK K
         refine zr 71 _ ?_
         refine two_ (i := 4) (j := 7) (Ni := none) (Nj := none) #[true, true, true, true, true, true, true, false, false, false, false, false, false, false, false] #[true, true, true, true, false, true, true, true, false, false, false, false, false, false, false] rfl rfl rfl rfl (two_of HT_.out zk) (by decide) (by decide) (fun K hK => ?_) (fun K hK => ?_)
         ·refine ins_ E3 (Value.int .i64) (by rfl) rfl (mo := .tmp 71) (x := .tmp 72) (v := .tmp 73) rfl Tryd.underlying99 rfl M1.out (k1 : Int) pp rfl rfl ?_
          intro v2 hm9 hg9
          have M2 : Aside0 (MapIs E3 (Value.int .i64) v2 v0.heap.size [((k1 : Int), pp)]) := ⟨by first | exact hm9 | (rw [kvSet_two (fun e => HNE.out e.symm)] at hm9; exact hm9)⟩
          have BL2 := zh (BL1.out.grown hg9 BL1.out.size (fun k hk => by injection hk with hk; subst hk; exact Nat.le_refl _))
          clear hm9 hg9
          refine hK.out _ _ (cells16 (blk_below X0.out BL2.out)) (fun hHeld => ?_)
          clear hK K
          refine zp 7 (fun K hK => ?_)
          refine ins_ E3 (Value.int .i64) (by rfl) rfl (mo := .tmp 71) (x := .tmp 74) (v := .tmp 75) rfl Tryd.underlying99 rfl M2.out (k2 : Int) qq rfl rfl ?_
          intro v3 hm9 hg9
          have M3 : Aside0 (MapIs E3 (Value.int .i64) v3 v0.heap.size [((k1 : Int), pp), ((k2 : Int), qq)]) := ⟨by first | exact hm9 | (rw [kvSet_two HNE.out] at hm9; exact hm9)⟩
          have BL3 := zh (BL2.out.grown hg9 BL2.out.size (fun k hk => by injection hk with hk; subst hk; exact Nat.le_refl _))
          clear hm9 hg9
          refine hK.out _ _ (cells16 (blk_below X0.out BL3.out)) (fun hHeld => ?_)
          clear hK K
          refine zu 8 ?_
          refine zo 9 (fun K hK => ?_)
          refine goes_ Tryd.func63 zk rfl #[.agg #[.slice (some ad0) h.length c0, .slice A1 s.length c1, .slice A2 p.length c2, .int .i64 b0, .int .i64 b1, .slice A3 (jsOf h s p b0 b1).length c3, .bool false, .bool false, .bool false, .bool false, .bool false, .bool false, .bool false, .bool false, .int .i64 b0, .int .i64 b1], .map (some v0.heap.size)] (by rfl) rfl rfl dQ1 ?_
          (with_reducible refine (HT14.out _ v0.heap.size [((k1 : Int), pp), ((k2 : Int), qq)] BL3.out M3.out (.inl rfl)).mono ?_)
          rintro e v4 ⟨vl, rfl, hb⟩
          refine ⟨_, rfl, ?_⟩
          have BL4 := zh (BL3.out.trans (hb.mono BL3.out.size))
          clear hb
          refine hK.out _ _ (cells16 (blk_below X0.out BL4.out)) (fun hHeld => ?_)
          clear hK K
          refine zr 77 _ ?_
          refine zu 10 ?_
          refine zu 11 ?_
          refine zu 12 ?_
          refine zu 13 ?_
          refine zu 14 ?_
          refine zd ?_
          go_wp2_with (fail)
          go_meet
          case rel => exact ⟨rfl, ⟨HQB.out _ _ _ HQ1.out BL4.out⟩⟩
         ·refine ins_ E3 (Value.int .i64) (by rfl) rfl (mo := .tmp 71) (x := .tmp 74) (v := .tmp 75) rfl Tryd.underlying99 rfl M1.out (k2 : Int) qq rfl rfl ?_
          intro v2 hm9 hg9
          have M2 : Aside0 (MapIs E3 (Value.int .i64) v2 v0.heap.size [((k2 : Int), qq)]) := ⟨by first | exact hm9 | (rw [kvSet_two HNE.out] at hm9; exact hm9)⟩
          have BL2 := zh (BL1.out.grown hg9 BL1.out.size (fun k hk => by injection hk with hk; subst hk; exact Nat.le_refl _))
          clear hm9 hg9
          refine hK.out _ _ (cells16 (blk_below X0.out BL2.out)) (fun hHeld => ?_)
          clear hK K
          refine zp 4 (fun K hK => ?_)
          refine ins_ E3 (Value.int .i64) (by rfl) rfl (mo := .tmp 71) (x := .tmp 72) (v := .tmp 73) rfl Tryd.underlying99 rfl M2.out (k1 : Int) pp rfl rfl ?_
          intro v3 hm9 hg9
          have M3 : Aside0 (MapIs E3 (Value.int .i64) v3 v0.heap.size [((k2 : Int), qq), ((k1 : Int), pp)]) := ⟨by first | exact hm9 | (rw [kvSet_two (fun e => HNE.out e.symm)] at hm9; exact hm9)⟩
          have BL3 := zh (BL2.out.grown hg9 BL2.out.size (fun k hk => by injection hk with hk; subst hk; exact Nat.le_refl _))
          clear hm9 hg9
          refine hK.out _ _ (cells16 (blk_below X0.out BL3.out)) (fun hHeld => ?_)
          clear hK K
          refine zu 8 ?_
          refine zo 9 (fun K hK => ?_)
          refine goes_ Tryd.func63 zk rfl #[.agg #[.slice (some ad0) h.length c0, .slice A1 s.length c1, .slice A2 p.length c2, .int .i64 b0, .int .i64 b1, .slice A3 (jsOf h s p b0 b1).length c3, .bool false, .bool false, .bool false, .bool false, .bool false, .bool false, .bool false, .bool false, .int .i64 b0, .int .i64 b1], .map (some v0.heap.size)] (by rfl) rfl rfl dQ1 ?_
          (with_reducible refine (HT14.out _ v0.heap.size [((k2 : Int), qq), ((k1 : Int), pp)] BL3.out M3.out (.inr rfl)).mono ?_)
          rintro e v4 ⟨vl, rfl, hb⟩
          refine ⟨_, rfl, ?_⟩
          have BL4 := zh (BL3.out.trans (hb.mono BL3.out.size))
          clear hb
          refine hK.out _ _ (cells16 (blk_below X0.out BL4.out)) (fun hHeld => ?_)
          clear hK K
          refine zr 77 _ ?_
          refine zu 10 ?_
          refine zu 11 ?_
          refine zu 12 ?_
          refine zu 13 ?_
          refine zu 14 ?_
          refine zd ?_
          go_wp2_with (fail)
          go_meet
          case rel => exact ⟨rfl, ⟨HQB.out _ _ _ HQ1.out BL4.out⟩⟩
        case rest =>
         obtain ⟨hu18, HQx⟩ := hcut
         subst hu18
         obtain ⟨q1, q2, q3, q4, q5, q6, q7⟩ := (HQ.out (o0, o1) wc).1 HQx.out
         obtain ⟨y0, y1⟩ := cells2 q1
         obtain ⟨f0, f1⟩ := froz2 q1
         clear q1 q2 q3 q4 q5 q6 q7
         cases hT : T pp qq with
         | false =>
          have HMT : Aside0 ((L2.drop (m + 1)).foldl (apartStep T pp) ((o0, o1), fd) = ST) := ⟨by have h9 := HMS.out; rw [show apartStep T pp ((o0, o1), fd) qq = ((o0, o1), fd) by unfold apartStep; dsimp only; rw [hnl, hT]; rfl] at h9; exact h9⟩
          clear hT hnl
          go_wp2
          go_roundw
          case rel => exact ⟨m + 1, (o0, o1), fd, by omega, by go_num, rfl, HMT, HQx⟩
          case measure => simp [intOf]; omega
         | true =>
          cases fd with
          | false =>
           have HMT : Aside0 ((L2.drop (m + 1)).foldl (apartStep T pp) ((qq - pp, qq - pp), true) = ST) := ⟨by have h9 := HMS.out; rw [show apartStep T pp ((o0, o1), false) qq = ((qq - pp, qq - pp), true) by unfold apartStep; dsimp only; rw [hT]; rfl] at h9; exact h9⟩
           have HQ2 := zh (HQS.out _ _ (qq - pp) (qq - pp) HQx.out)
           have HQ3 := zh (HQS.out _ _ (qq - pp) (qq - pp) HQ2.out)
           obtain ⟨q1, q2, q3, q4, q5, q6, q7⟩ := (HQ.out _ _).1 HQ2.out
           obtain ⟨y2, y3⟩ := cells2 q1
           obtain ⟨f2, f3⟩ := froz2 q1
           clear q1 q2 q3 q4 q5 q6 q7 hT hnl
           go_wp2
           go_roundw
           case rel => exact ⟨m + 1, (qq - pp, qq - pp), true, by omega, by go_num, rfl, HMT, HQ3⟩
           case measure => simp [intOf]; omega
          | true =>
           have HMT : Aside0 ((L2.drop (m + 1)).foldl (apartStep T pp) (((if qq - pp < o0 then qq - pp else o0), (if o1 < qq - pp then qq - pp else o1)), true) = ST) := ⟨by have h9 := HMS.out; rw [show apartStep T pp ((o0, o1), true) qq = (((if qq - pp < o0 then qq - pp else o0), (if o1 < qq - pp then qq - pp else o1)), true) by unfold apartStep; dsimp only; rw [hnl, hT]; rfl] at h9; exact h9⟩
           have HQ3 := zh (HQS.out _ _ (if qq - pp < o0 then qq - pp else o0) (if o1 < qq - pp then qq - pp else o1) HQx.out)
           clear hT hnl
           go_wp2
           go_roundw
           case rel => exact ⟨m + 1, ((if qq - pp < o0 then qq - pp else o0), (if o1 < qq - pp then qq - pp else o1)), true, by omega, by go_num, rfl, HMT, HQ3⟩
           case measure => simp [intOf]; omega
     ·obtain rfl : m = L2.length := by omega
      have hml' : ¬ ((L2.length : Nat) : Int) < (L2.length : Int) := by omega
      have HI3 : Aside0 (((L1.drop (i + 1)).foldl (fun st x => L2.foldl (apartStep T x) st) ((o0, o1), fd)).1 = R) := ⟨by have h9 := HM.out; rw [List.drop_length, List.foldl_nil] at h9; rw [h9]; exact HI2.out⟩
      go_wp2
      go_roundw
      case rel => exact ⟨i + 1, (o0, o1), fd, by omega, by go_num, rfl, HI3, HQ0⟩
      case measure => simp [intOf]; omega
   ·obtain rfl : i = L1.length := by omega
    have hil' : ¬ ((L1.length : Nat) : Int) < (L1.length : Int) := by omega
    obtain ⟨q1, q2, q3, q4, q5, q6, q7⟩ := (HQ.out o wr).1 HQ0.out
    have HRR : Aside0 (R = o) := ⟨by have h9 := HI.out; rw [List.drop_length, List.foldl_nil] at h9; exact h9.symm⟩
    obtain ⟨o0, o1⟩ := o
    have y0 : wr.cell? ⟨go, 0, none⟩ = some (.int .i64 o0) := (blk_cell q1 0).trans rfl
    have y1 : wr.cell? ⟨go, 1, none⟩ = some (.int .i64 o1) := (blk_cell q1 1).trans rfl
    obtain ⟨z0, z1⟩ := cells2 q6
    obtain ⟨f0, f1⟩ := froz2 q6
    have Q6 := zh q6
    have Q7 := zh q7
    clear q1 q2 q3 q4 q5 q6 q7
    go_wp2
    exact bodyPost_ret (results_ct rfl _ _ (w.heap.size + 1) 26 #[.int .i64 o0, .int .i64 o1] (0, 0) _ rfl (set2 Q6.out _ _) Tryd.underlying26 rfl zk) rfl ⟨by rw [HRR.out]; rfl, (Q7.out.setCell dQ2 _).setCell dQ2 _⟩
end Go.Proofs.YtgehkojccmkggaaDoor.K
end
section
namespace Go.Proofs.YtgehkojccmkggaaDoor.K
open Go.RowKit Go.Shelf Go.Proofs.YtgehkojccmkggaaDoorW.PrintWords Go.Proofs.YtgehkojccmkggaaDoorW.PrintLast Go.Proofs.YtgehkojccmkggaaDoorW.PrintMore Go.Proofs.YtgehkojccmkggaaDoor.H Tune
set_option linter.unusedVariables false
set_option linter.unusedSimpArgs false
attribute [local go_sem] Oper.semAt_some
theorem small_of {α : Type} {c : Bool} {x r : α} (h : (if c = true then some x else none) = some r) : c = true ∧ x = r := by
 cases c with
 | true => rw [if_pos rfl] at h; exact ⟨rfl, Option.some.inj h⟩
 | false => rw [if_neg (by decide)] at h; cases h
def tune_Check.f (l0_0 : List S26) (l0_1 : List S61) (l0_2 : List S48) (a0_3 a0_4 : Int) : Option (Int) := if small l0_0 l0_1 l0_2 = true then some (checkT l0_0 l0_1 l0_2 a0_3 a0_4) else none
theorem tune_Check.calls (A0_0 : Option Addr) (c0_0 : Nat) (l0_0 : List S26) (A0_1 : Option Addr) (c0_1 : Nat) (l0_1 : List S61) (A0_2 : Option Addr) (c0_2 : Nat) (l0_2 : List S48) (a0_3 a0_4 : Int) (r : Int) (w : World) (h0 : Kd.C k26 w A0_0 l0_0.length l0_0) (hc0 : l0_0.length ≤ c0_0) (h1 : Kd.C k61 w A0_1 l0_1.length l0_1) (hc1 : l0_1.length ≤ c0_1) (h2 : Kd.C k48 w A0_2 l0_2.length l0_2) (hc2 : l0_2.length ≤ c0_2) (hG : Glob w) (h : tune_Check.f l0_0 l0_1 l0_2 a0_3 a0_4 = some r) :
  Calls Tryd.prog 18 #[.agg #[.slice A0_0 l0_0.length c0_0, .slice A0_1 l0_1.length c0_1, .slice A0_2 l0_2.length c0_2, .int .i64 a0_3, .int .i64 a0_4]] w fun e w' => e = .returned (.int .i64 r) ∧ Below w.heap.size w w' := by
 obtain ⟨hsm, hv⟩ := small_of h
 subst hv
 exact check_calls A0_0 c0_0 l0_0 A0_1 c0_1 l0_1 A0_2 c0_2 l0_2 a0_3 a0_4 w hsm h0 hc0 h1 hc1 h2 hc2
def tune_IsTuning.f (l0_0 : List S26) (l0_1 : List S61) (l0_2 : List S48) (a0_3 a0_4 : Int) (l1 : List Int) : Option (Bool × Int) := if small l0_0 l0_1 l0_2 = true then some (isTB l0_0 l0_1 l0_2 a0_3 a0_4 l1, checkT l0_0 l0_1 l0_2 a0_3 a0_4) else none
theorem tune_IsTuning.calls (A0_0 : Option Addr) (c0_0 : Nat) (l0_0 : List S26) (A0_1 : Option Addr) (c0_1 : Nat) (l0_1 : List S61) (A0_2 : Option Addr) (c0_2 : Nat) (l0_2 : List S48) (a0_3 a0_4 : Int) (A1 : Option Addr) (c1 : Nat) (l1 : List Int) (r1 : Bool) (r2 : Int) (w : World) (h0 : Kd.C k26 w A0_0 l0_0.length l0_0) (hc0 : l0_0.length ≤ c0_0) (h1 : Kd.C k61 w A0_1 l0_1.length l0_1) (hc1 : l0_1.length ≤ c0_1) (h2 : Kd.C k48 w A0_2 l0_2.length l0_2) (hc2 : l0_2.length ≤ c0_2) (hr1 : Kd.C (Kd.int .i64) w A1 l1.length l1) (hc1' : l1.length ≤ c1) (hG : Glob w) (h : tune_IsTuning.f l0_0 l0_1 l0_2 a0_3 a0_4 l1 = some (r1, r2)) :
  Calls Tryd.prog 16 #[.agg #[.slice A0_0 l0_0.length c0_0, .slice A0_1 l0_1.length c0_1, .slice A0_2 l0_2.length c0_2, .int .i64 a0_3, .int .i64 a0_4], .slice A1 l1.length c1] w fun e w' => e = .returned (.tuple #[.bool r1, .int .i64 r2]) ∧ Below w.heap.size w w' := by
 obtain ⟨hsm, hv⟩ := small_of h
 injection hv with e1 e2
 subst e1 e2
 exact isTuning_calls A0_0 c0_0 l0_0 A0_1 c0_1 l0_1 A0_2 c0_2 l0_2 a0_3 a0_4 A1 c1 l1 w hsm hG h0 hc0 h1 hc1 h2 hc2 hr1
noncomputable def tune_Tuning.f (l0_0 : List S26) (l0_1 : List S61) (l0_2 : List S48) (a0_3 a0_4 : Int) : Option (List Int × Int) := if small l0_0 l0_1 l0_2 = true then some (tuningL l0_0 l0_1 l0_2 a0_3 a0_4, askedE l0_0 l0_1 l0_2 a0_3 a0_4 true) else none
theorem tune_Tuning.calls (A0_0 : Option Addr) (c0_0 : Nat) (l0_0 : List S26) (A0_1 : Option Addr) (c0_1 : Nat) (l0_1 : List S61) (A0_2 : Option Addr) (c0_2 : Nat) (l0_2 : List S48) (a0_3 a0_4 : Int) (r1 : List Int) (r2 : Int) (w : World) (h0 : Kd.C k26 w A0_0 l0_0.length l0_0) (hc0 : l0_0.length ≤ c0_0) (h1 : Kd.C k61 w A0_1 l0_1.length l0_1) (hc1 : l0_1.length ≤ c0_1) (h2 : Kd.C k48 w A0_2 l0_2.length l0_2) (hc2 : l0_2.length ≤ c0_2) (hG : Glob w) (h : tune_Tuning.f l0_0 l0_1 l0_2 a0_3 a0_4 = some (r1, r2)) :
  Calls Tryd.prog 20 #[.agg #[.slice A0_0 l0_0.length c0_0, .slice A0_1 l0_1.length c0_1, .slice A0_2 l0_2.length c0_2, .int .i64 a0_3, .int .i64 a0_4]] w fun e w' => ∃ v0_ : Value, e = .returned (.tuple #[v0_, .int .i64 r2]) ∧ Kd.V (Kd.int .i64) 3 w' w.heap.size (fun k_ => w.heap.size ≤ k_) v0_ r1 ∧ Below w.heap.size w w' := by
 obtain ⟨hsm, hv⟩ := small_of h
 injection hv with e1 e2
 subst e1 e2
 exact tuning20_calls A0_0 c0_0 l0_0 A0_1 c0_1 l0_1 A0_2 c0_2 l0_2 a0_3 a0_4 w hsm hG h0 hc0 h1 hc1 h2 hc2
def tune_Pitch.f (l0_0 : List S26) (l0_1 : List S61) (l0_2 : List S48) (a0_3 a0_4 : Int) (a1 : Int) : Option (Int × Int × Int) := if small l0_0 l0_1 l0_2 = true then some ((pitchT l0_0 l0_1 l0_2 a0_3 a0_4 a1).1, (pitchT l0_0 l0_1 l0_2 a0_3 a0_4 a1).2, askedE l0_0 l0_1 l0_2 a0_3 a0_4 (inK l0_0.length a1)) else none
theorem tune_Pitch.calls (A0_0 : Option Addr) (c0_0 : Nat) (l0_0 : List S26) (A0_1 : Option Addr) (c0_1 : Nat) (l0_1 : List S61) (A0_2 : Option Addr) (c0_2 : Nat) (l0_2 : List S48) (a0_3 a0_4 : Int) (a1 : Int) (r1 : Int) (r2 : Int) (r3 : Int) (w : World) (h0 : Kd.C k26 w A0_0 l0_0.length l0_0) (hc0 : l0_0.length ≤ c0_0) (h1 : Kd.C k61 w A0_1 l0_1.length l0_1) (hc1 : l0_1.length ≤ c0_1) (h2 : Kd.C k48 w A0_2 l0_2.length l0_2) (hc2 : l0_2.length ≤ c0_2) (hG : Glob w) (h : tune_Pitch.f l0_0 l0_1 l0_2 a0_3 a0_4 a1 = some (r1, r2, r3)) :
  Calls Tryd.prog 23 #[.agg #[.slice A0_0 l0_0.length c0_0, .slice A0_1 l0_1.length c0_1, .slice A0_2 l0_2.length c0_2, .int .i64 a0_3, .int .i64 a0_4], .int .i64 a1] w fun e w' => e = .returned (.tuple #[.agg #[.int .i64 r1, .int .i64 r2], .int .i64 r3]) ∧ Below w.heap.size w w' := by
 obtain ⟨hsm, hv⟩ := small_of h
 injection hv with e1 e2
 injection e2 with e2 e3
 subst e1 e2 e3
 by_cases hz : askedE l0_0 l0_1 l0_2 a0_3 a0_4 (inK l0_0.length a1) = 0
 ·rw [hz]
  exact pitch23_good A0_0 c0_0 l0_0 A0_1 c0_1 l0_1 A0_2 c0_2 l0_2 a0_3 a0_4 a1 w hsm hG h0 hc0 h1 hc1 h2 hc2 hz
 ·have hp : pitchT l0_0 l0_1 l0_2 a0_3 a0_4 a1 = (0, 0) := by unfold pitchT; rw [if_neg hz]
  rw [hp]
  exact pitch23_bad A0_0 c0_0 l0_0 A0_1 c0_1 l0_1 A0_2 c0_2 l0_2 a0_3 a0_4 a1 _ w hsm hG h0 hc0 h1 hc1 h2 hc2 rfl hz
def tune_Can.f (l0_0 : List S26) (l0_1 : List S61) (l0_2 : List S48) (a0_3 a0_4 : Int) (a1 : Int) (a2 : Int) : Option (Bool × Int) := if small l0_0 l0_1 l0_2 = true then some (canB l0_0 l0_1 l0_2 a0_3 a0_4 a1 a2, askedE l0_0 l0_1 l0_2 a0_3 a0_4 (inK l0_0.length a1)) else none
theorem tune_Can.calls (A0_0 : Option Addr) (c0_0 : Nat) (l0_0 : List S26) (A0_1 : Option Addr) (c0_1 : Nat) (l0_1 : List S61) (A0_2 : Option Addr) (c0_2 : Nat) (l0_2 : List S48) (a0_3 a0_4 : Int) (a1 a2 : Int) (r1 : Bool) (r2 : Int) (w : World) (h0 : Kd.C k26 w A0_0 l0_0.length l0_0) (hc0 : l0_0.length ≤ c0_0) (h1 : Kd.C k61 w A0_1 l0_1.length l0_1) (hc1 : l0_1.length ≤ c0_1) (h2 : Kd.C k48 w A0_2 l0_2.length l0_2) (hc2 : l0_2.length ≤ c0_2) (hG : Glob w) (h : tune_Can.f l0_0 l0_1 l0_2 a0_3 a0_4 a1 a2 = some (r1, r2)) :
  Calls Tryd.prog 25 #[.agg #[.slice A0_0 l0_0.length c0_0, .slice A0_1 l0_1.length c0_1, .slice A0_2 l0_2.length c0_2, .int .i64 a0_3, .int .i64 a0_4], .int .i64 a1, .int .i64 a2] w fun e w' => e = .returned (.tuple #[.bool r1, .int .i64 r2]) ∧ Below w.heap.size w w' := by
 obtain ⟨hsm, hv⟩ := small_of h
 injection hv with e1 e2
 subst e1 e2
 by_cases hz : askedE l0_0 l0_1 l0_2 a0_3 a0_4 (inK l0_0.length a1) = 0
 ·have hp : canB l0_0 l0_1 l0_2 a0_3 a0_4 a1 a2 = tunS l0_0 (jsOf l0_0 l0_1 l0_2 a0_3 a0_4) noLeft (a0_3, a0_4) [(a1, a2)] := by unfold canB; rw [hz]; rfl
  rw [hp, hz]
  exact can25_good A0_0 c0_0 l0_0 A0_1 c0_1 l0_1 A0_2 c0_2 l0_2 a0_3 a0_4 a1 a2 w hsm hG h0 hc0 h1 hc1 h2 hc2 hz
 ·have hp : canB l0_0 l0_1 l0_2 a0_3 a0_4 a1 a2 = false := by unfold canB; rw [decide_eq_false hz]; rfl
  rw [hp]
  exact can25_bad A0_0 c0_0 l0_0 A0_1 c0_1 l0_1 A0_2 c0_2 l0_2 a0_3 a0_4 a1 a2 _ w hsm hG h0 hc0 h1 hc1 h2 hc2 rfl hz
def tune_Apart.f (l0_0 : List S26) (l0_1 : List S61) (l0_2 : List S48) (a0_3 a0_4 : Int) (a1 : Int) (a2 : Int) : Option (Int × Int × Int) := if small l0_0 l0_1 l0_2 = true then some ((apartT l0_0 l0_1 l0_2 a0_3 a0_4 a1 a2).1, (apartT l0_0 l0_1 l0_2 a0_3 a0_4 a1 a2).2, apartE l0_0 l0_1 l0_2 a0_3 a0_4 a1 a2) else none
theorem tune_Apart.calls (A0_0 : Option Addr) (c0_0 : Nat) (l0_0 : List S26) (A0_1 : Option Addr) (c0_1 : Nat) (l0_1 : List S61) (A0_2 : Option Addr) (c0_2 : Nat) (l0_2 : List S48) (a0_3 a0_4 : Int) (a1 a2 : Int) (r1 : Int) (r2 : Int) (r3 : Int) (w : World) (h0 : Kd.C k26 w A0_0 l0_0.length l0_0) (hc0 : l0_0.length ≤ c0_0) (h1 : Kd.C k61 w A0_1 l0_1.length l0_1) (hc1 : l0_1.length ≤ c0_1) (h2 : Kd.C k48 w A0_2 l0_2.length l0_2) (hc2 : l0_2.length ≤ c0_2) (hG : Glob w) (h : tune_Apart.f l0_0 l0_1 l0_2 a0_3 a0_4 a1 a2 = some (r1, r2, r3)) :
  Calls Tryd.prog 27 #[.agg #[.slice A0_0 l0_0.length c0_0, .slice A0_1 l0_1.length c0_1, .slice A0_2 l0_2.length c0_2, .int .i64 a0_3, .int .i64 a0_4], .int .i64 a1, .int .i64 a2] w fun e w' => e = .returned (.tuple #[.agg #[.int .i64 r1, .int .i64 r2], .int .i64 r3]) ∧ Below w.heap.size w w' := by
 obtain ⟨hsm, hv⟩ := small_of h
 injection hv with e1 e2
 injection e2 with e2 e3
 subst e1 e2 e3
 by_cases hz : apartE l0_0 l0_1 l0_2 a0_3 a0_4 a1 a2 = 0
 ·have hz' := hz
  unfold apartE at hz'
  obtain ⟨hck, hr, _⟩ := askedE_ok hz'
  rw [Bool.and_eq_true] at hr
  have hr1 := hr.1
  have hr2 := hr.2
  rw [hr1, hr2, Bool.and_true] at hz'
  obtain ⟨k1, rfl⟩ : ∃ k : Nat, a1 = (k : Int) := by
   unfold inK at hr1
   simp only [Bool.and_eq_true, decide_eq_true_eq] at hr1
   exact ⟨a1.toNat, by omega⟩
  obtain ⟨k2, rfl⟩ : ∃ k : Nat, a2 = (k : Int) := by
   unfold inK at hr2
   simp only [Bool.and_eq_true, decide_eq_true_eq] at hr2
   exact ⟨a2.toNat, by omega⟩
  rw [hz]
  by_cases hkk : (k1 : Int) = (k2 : Int)
  ·have hp : apartT l0_0 l0_1 l0_2 a0_3 a0_4 (k1 : Int) (k2 : Int) = (0, 0) := by unfold apartT; rw [if_pos hz, if_pos hkk]
   rw [hp]
   exact apart_same A0_0 c0_0 l0_0 A0_1 c0_1 l0_1 A0_2 c0_2 l0_2 a0_3 a0_4 w hsm hG h0 hc0 h1 hc1 h2 hc2 k1 k2 hr1 hr2 hz' hkk
  ·have hp : apartT l0_0 l0_1 l0_2 a0_3 a0_4 (k1 : Int) (k2 : Int) = apartF l0_0 (jsOf l0_0 l0_1 l0_2 a0_3 a0_4) (a0_3, a0_4) k1 k2 := by unfold apartT; rw [if_pos hz, if_neg hkk, Int.toNat_natCast, Int.toNat_natCast]
   rw [hp]
   have q1 := hr1
   have q2 := hr2
   unfold inK at q1 q2
   simp only [Bool.and_eq_true, decide_eq_true_eq] at q1 q2
   exact apart_good A0_0 c0_0 l0_0 A0_1 c0_1 l0_1 A0_2 c0_2 l0_2 a0_3 a0_4 w hsm hG h0 hc0 h1 hc1 h2 hc2 k1 k2 (by omega) (by omega) hr1 hr2 hz' (fun e => hkk (by rw [e]))
 ·have hp : apartT l0_0 l0_1 l0_2 a0_3 a0_4 a1 a2 = (0, 0) := by unfold apartT; rw [if_neg hz]
  rw [hp]
  have hz' := hz
  cases hi1 : inK l0_0.length a1 with
  | false =>
   have hE : askedE l0_0 l0_1 l0_2 a0_3 a0_4 false = apartE l0_0 l0_1 l0_2 a0_3 a0_4 a1 a2 := by unfold apartE; rw [hi1, Bool.false_and]
   exact apart_bad1 A0_0 c0_0 l0_0 A0_1 c0_1 l0_1 A0_2 c0_2 l0_2 a0_3 a0_4 a1 a2 _ w hsm hG h0 hc0 h1 hc1 h2 hc2 hi1 hE hz
  | true =>
   have hE : askedE l0_0 l0_1 l0_2 a0_3 a0_4 (inK l0_0.length a2) = apartE l0_0 l0_1 l0_2 a0_3 a0_4 a1 a2 := by unfold apartE; rw [hi1, Bool.true_and]
   exact apart_bad2 A0_0 c0_0 l0_0 A0_1 c0_1 l0_1 A0_2 c0_2 l0_2 a0_3 a0_4 a1 a2 _ w hsm hG h0 hc0 h1 hc1 h2 hc2 _ hi1 rfl hE hz
def tune_Even.f (l0_0 : List S26) (l0_1 : List S61) (l0_2 : List S48) (a0_3 a0_4 : Int) : Option (Int × Int × Int) := if small l0_0 l0_1 l0_2 = true then some ((evenT l0_0 l0_1 l0_2 a0_3 a0_4).1, (evenT l0_0 l0_1 l0_2 a0_3 a0_4).2, evenE l0_0 l0_1 l0_2 a0_3 a0_4) else none
theorem tune_Even.calls (A0_0 : Option Addr) (c0_0 : Nat) (l0_0 : List S26) (A0_1 : Option Addr) (c0_1 : Nat) (l0_1 : List S61) (A0_2 : Option Addr) (c0_2 : Nat) (l0_2 : List S48) (a0_3 a0_4 : Int) (r1 : Int) (r2 : Int) (r3 : Int) (w : World) (h0 : Kd.C k26 w A0_0 l0_0.length l0_0) (hc0 : l0_0.length ≤ c0_0) (h1 : Kd.C k61 w A0_1 l0_1.length l0_1) (hc1 : l0_1.length ≤ c0_1) (h2 : Kd.C k48 w A0_2 l0_2.length l0_2) (hc2 : l0_2.length ≤ c0_2) (hG : Glob w) (h : tune_Even.f l0_0 l0_1 l0_2 a0_3 a0_4 = some (r1, r2, r3)) :
  Calls Tryd.prog 29 #[.agg #[.slice A0_0 l0_0.length c0_0, .slice A0_1 l0_1.length c0_1, .slice A0_2 l0_2.length c0_2, .int .i64 a0_3, .int .i64 a0_4]] w fun e w' => e = .returned (.tuple #[.agg #[.int .i64 r1, .int .i64 r2], .int .i64 r3]) ∧ Below w.heap.size w w' := by
 obtain ⟨hsm, hv⟩ := small_of h
 injection hv with e1 e2
 injection e2 with e2 e3
 subst e1 e2 e3
 by_cases hc : checkT l0_0 l0_1 l0_2 a0_3 a0_4 = 0
 ·by_cases hp : l0_2.length = 0
  ·have hE : evenE l0_0 l0_1 l0_2 a0_3 a0_4 = 4 := by unfold evenE; rw [if_neg (fun e => e hc), if_pos hp]
   have hT : evenT l0_0 l0_1 l0_2 a0_3 a0_4 = (0, 0) := by unfold evenT; rw [if_neg (by rw [hE]; decide)]
   rw [hE, hT]
   exact even_4 A0_0 c0_0 l0_0 A0_1 c0_1 l0_1 A0_2 c0_2 l0_2 a0_3 a0_4 w hsm hG h0 hc0 h1 hc1 h2 hc2 hc hp
  ·have hE : evenE l0_0 l0_1 l0_2 a0_3 a0_4 = askedE l0_0 l0_1 l0_2 a0_3 a0_4 true := by unfold evenE; rw [if_neg (fun e => e hc), if_neg hp]
   by_cases hz : askedE l0_0 l0_1 l0_2 a0_3 a0_4 true = 0
   ·have hT : evenT l0_0 l0_1 l0_2 a0_3 a0_4 = evenF l0_0 (jsOf l0_0 l0_1 l0_2 a0_3 a0_4) a0_3 a0_4 := by unfold evenT; rw [if_pos (by rw [hE]; exact hz)]
    rw [hE, hT, hz]
    exact even_good A0_0 c0_0 l0_0 A0_1 c0_1 l0_1 A0_2 c0_2 l0_2 a0_3 a0_4 w hsm hG h0 hc0 h1 hc1 h2 hc2 hp hz
   ·have hT : evenT l0_0 l0_1 l0_2 a0_3 a0_4 = (0, 0) := by unfold evenT; rw [if_neg (by rw [hE]; exact hz)]
    rw [hE, hT]
    exact even_12 A0_0 c0_0 l0_0 A0_1 c0_1 l0_1 A0_2 c0_2 l0_2 a0_3 a0_4 _ w hsm hG h0 hc0 h1 hc1 h2 hc2 hc hp rfl hz
 ·have hE : evenE l0_0 l0_1 l0_2 a0_3 a0_4 = 10 := by unfold evenE; rw [if_pos hc]
  have hT : evenT l0_0 l0_1 l0_2 a0_3 a0_4 = (0, 0) := by unfold evenT; rw [if_neg (by rw [hE]; decide)]
  rw [hE, hT]
  exact even_10 A0_0 c0_0 l0_0 A0_1 c0_1 l0_1 A0_2 c0_2 l0_2 a0_3 a0_4 w hsm hG h0 hc0 h1 hc1 h2 hc2 (checkT_ne hc)
def tune_Sure.f (l0_0 : List S26) (l0_1 : List S61) (l0_2 : List S48) (a0_3 a0_4 : Int) : Option (Bool × Int) := if small l0_0 l0_1 l0_2 = true then some (sureB l0_0 l0_1 l0_2 a0_3 a0_4, checkT l0_0 l0_1 l0_2 a0_3 a0_4) else none
theorem tune_Sure.calls (A0_0 : Option Addr) (c0_0 : Nat) (l0_0 : List S26) (A0_1 : Option Addr) (c0_1 : Nat) (l0_1 : List S61) (A0_2 : Option Addr) (c0_2 : Nat) (l0_2 : List S48) (a0_3 a0_4 : Int) (r1 : Bool) (r2 : Int) (w : World) (h0 : Kd.C k26 w A0_0 l0_0.length l0_0) (hc0 : l0_0.length ≤ c0_0) (h1 : Kd.C k61 w A0_1 l0_1.length l0_1) (hc1 : l0_1.length ≤ c0_1) (h2 : Kd.C k48 w A0_2 l0_2.length l0_2) (hc2 : l0_2.length ≤ c0_2) (hG : Glob w) (h : tune_Sure.f l0_0 l0_1 l0_2 a0_3 a0_4 = some (r1, r2)) :
  Calls Tryd.prog 31 #[.agg #[.slice A0_0 l0_0.length c0_0, .slice A0_1 l0_1.length c0_1, .slice A0_2 l0_2.length c0_2, .int .i64 a0_3, .int .i64 a0_4]] w fun e w' => e = .returned (.tuple #[.bool r1, .int .i64 r2]) ∧ Below w.heap.size w w' := by
 obtain ⟨hsm, hv⟩ := small_of h
 injection hv with e1 e2
 subst e1 e2
 exact sure_calls A0_0 c0_0 l0_0 A0_1 c0_1 l0_1 A0_2 c0_2 l0_2 a0_3 a0_4 w hsm hG h0 hc0 h1 hc1 h2 hc2
def tune_Wrong.f (l0_0 : List S26) (l0_1 : List S61) (l0_2 : List S48) (a0_3 a0_4 : Int) : Option (List Int × Int) := if small l0_0 l0_1 l0_2 = true then some (wrongT l0_0 l0_1 l0_2 a0_3 a0_4, checkT l0_0 l0_1 l0_2 a0_3 a0_4) else none
theorem tune_Wrong.calls (A0_0 : Option Addr) (c0_0 : Nat) (l0_0 : List S26) (A0_1 : Option Addr) (c0_1 : Nat) (l0_1 : List S61) (A0_2 : Option Addr) (c0_2 : Nat) (l0_2 : List S48) (a0_3 a0_4 : Int) (r1 : List Int) (r2 : Int) (w : World) (h0 : Kd.C k26 w A0_0 l0_0.length l0_0) (hc0 : l0_0.length ≤ c0_0) (h1 : Kd.C k61 w A0_1 l0_1.length l0_1) (hc1 : l0_1.length ≤ c0_1) (h2 : Kd.C k48 w A0_2 l0_2.length l0_2) (hc2 : l0_2.length ≤ c0_2) (hG : Glob w) (h : tune_Wrong.f l0_0 l0_1 l0_2 a0_3 a0_4 = some (r1, r2)) :
  Calls Tryd.prog 33 #[.agg #[.slice A0_0 l0_0.length c0_0, .slice A0_1 l0_1.length c0_1, .slice A0_2 l0_2.length c0_2, .int .i64 a0_3, .int .i64 a0_4]] w fun e w' => ∃ v0_ : Value, e = .returned (.tuple #[v0_, .int .i64 r2]) ∧ Kd.V (Kd.int .i64) 3 w' w.heap.size (fun k_ => w.heap.size ≤ k_) v0_ r1 ∧ Below w.heap.size w w' := by
 obtain ⟨hsm, hv⟩ := small_of h
 injection hv with e1 e2
 subst e1 e2
 exact wrong_calls A0_0 c0_0 l0_0 A0_1 c0_1 l0_1 A0_2 c0_2 l0_2 a0_3 a0_4 w hsm hG h0 hc0 h1 hc1 h2 hc2
end Go.Proofs.YtgehkojccmkggaaDoor.K
end
section
namespace Go.Proofs.YtgehkojccmkggaaDoor.K
open Go.RowKit Go.Shelf Go.Proofs.YtgehkojccmkggaaDoorW.PrintWords Go.Proofs.YtgehkojccmkggaaDoorW.PrintLast Go.Proofs.YtgehkojccmkggaaDoorW.PrintMore Go.Proofs.YtgehkojccmkggaaDoor.H Tune
set_option linter.unusedVariables false
set_option linter.unusedSimpArgs false
attribute [local go_sem] Oper.semAt_some
def bH (lo hi : Int) : List S26 := [⟨200, 204⟩, ⟨206, 210⟩, ⟨240, 243⟩, ⟨246, 250⟩, ⟨lo, hi⟩, ⟨300, 310⟩]
def bS : List S61 := [⟨[0, 2, 4], [⟨1190, 1210⟩, ⟨1190, 1230⟩]⟩, ⟨[3, 5], [⟨1230, 1250⟩]⟩]
def bP : List S48 := [⟨0, 1⟩, ⟨2, 3⟩]
theorem pl_check : checkT (bH 290 296) bS bP 4 7 = 0 := by kernel_rfl
theorem pl_check2 : checkT (bH 300 301) bS bP 4 7 = 0 := by kernel_rfl
theorem pl_is : isTB (bH 290 296) bS bP 4 7 [202, 206, 242, 246, 292, 305] = true := by kernel_rfl
theorem pl_asked : askedE (bH 290 296) bS bP 4 7 true = 0 := by kernel_rfl
theorem pl_pitch : pitchT (bH 290 296) bS bP 4 7 5 = (303, 310) := by kernel_rfl
theorem pl_can : canB (bH 290 296) bS bP 4 7 5 303 = true := by kernel_rfl
theorem pl_apart : apartT (bH 290 296) bS bP 4 7 0 2 = (39, 42) := by kernel_rfl
theorem pl_even : evenT (bH 290 296) bS bP 4 7 = (4, 4) := by kernel_rfl
theorem pl_wrong : wrongT (bH 300 301) bS bP 4 7 = [2] := by kernel_rfl
theorem pl_sure : sureB [⟨5, 6⟩, ⟨8, 9⟩] [] [⟨0, 1⟩] 2 4 = true := by kernel_rfl
end Go.Proofs.YtgehkojccmkggaaDoor.K
end
section
namespace Go.Proofs.YtgehkojccmkggaaDoor.H
open Go.RowKit Go.Proofs.YtgehkojccmkggaaDoorW.PrintWords Go.Proofs.YtgehkojccmkggaaDoorW.PrintLast Go.Proofs.YtgehkojccmkggaaDoorW.PrintMore
attribute [local go_sem] max2_int min2_int max_two min_two max_three min_three max_four min_four   -- for this text's walks alone
set_option linter.unusedVariables false
set_option linter.unusedSimpArgs false
def saronref00_Good.f (a0_0 : Int) (a0_1 : Int) (a1 : Int) (a2 : Int) : Option (Bool) := if a1 ≤ a0_0 then (if a0_0 ≤ a0_1 then (some (decide (a0_1 ≤ a2))) else (some false)) else (some false)
set_option maxHeartbeats 8000000 in
set_option maxRecDepth 100000 in
theorem saronref00_Good.calls (a0_0 : Int) (a0_1 : Int) (a1 : Int) (a2 : Int) (r : Bool) (w : World) (h : saronref00_Good.f a0_0 a0_1 a1 a2 = some r) :
  Calls Tryd.prog 46 #[.agg #[.int .i64 a0_0, .int .i64 a0_1], .int .i64 a1, .int .i64 a2] w fun e w' => e = .returned (.bool r) ∧ Below w.heap.size w w' := by
 have hu26 := Tryd.underlying26
 have HB := zh (Below.refl w.heap.size w)
 have H : (if a1 ≤ a0_0 then (if a0_0 ≤ a0_1 then (some (decide (a0_1 ≤ a2))) else (some false)) else (some false)) = some r := h
 clear h
 by_cases c4 : a1 ≤ a0_0
 ·rw [if_pos c4] at H
  have c4b0 : decide (a1 ≤ a0_0) = true := decide_eq_true c4
  clear c4
  by_cases c5 : a0_0 ≤ a0_1
  ·rw [if_pos c5] at H
   have c5b0 : decide (a0_0 ≤ a0_1) = true := decide_eq_true c5
   clear c5
   obtain rfl := Option.some.inj H
   go_enter Tryd.func46, Tryd.ntmps46
   go_wp2_with (first | ((with_reducible refine gate_dst (N := 3) rfl ?_); refine box_event ?hg (N := 3) ?hd (cs := #[.int .i64 a0_0, .int .i64 a0_1]) (t := 26) ?hr ?_; (case hd => rfl); (case hg => rfl); (case hr => first | (go_simp; done) | (go_simp; rfl)); intro gb131 hg w6 hbox hb; have BK131 := zh (hbox); have GW131 := zh ((by rw [hg]; exact (below_size zb) : w.heap.size ≤ gb131)); have GE131 := zh ((by rw [hg]; exact (below_size zb) : w.heap.size ≤ gb131)); replace HB := zh (below_step zb hb); clear hb hbox hg; obtain ⟨hcz7_0, hcz7_1⟩ := zC2 BK131.out; obtain ⟨hfz7_0, hfz7_1⟩ := zF2 BK131.out))
   go_ret
   exact ⟨zf, zb⟩
  ·rw [if_neg c5] at H
   have c5b0 : decide (a0_0 ≤ a0_1) = false := decide_eq_false c5
   clear c5
   obtain rfl := Option.some.inj H
   go_enter Tryd.func46, Tryd.ntmps46
   go_wp2_with (first | ((with_reducible refine gate_dst (N := 3) rfl ?_); refine box_event ?hg (N := 3) ?hd (cs := #[.int .i64 a0_0, .int .i64 a0_1]) (t := 26) ?hr ?_; (case hd => rfl); (case hg => rfl); (case hr => first | (go_simp; done) | (go_simp; rfl)); intro gb131 hg w8 hbox hb; have BK131 := zh (hbox); have GW131 := zh ((by rw [hg]; exact (below_size zb) : w.heap.size ≤ gb131)); have GE131 := zh ((by rw [hg]; exact (below_size zb) : w.heap.size ≤ gb131)); replace HB := zh (below_step zb hb); clear hb hbox hg; obtain ⟨hcz9_0, hcz9_1⟩ := zC2 BK131.out; obtain ⟨hfz9_0, hfz9_1⟩ := zF2 BK131.out))
   go_ret
   exact ⟨zf, zb⟩
 ·rw [if_neg c4] at H
  have c4b0 : decide (a1 ≤ a0_0) = false := decide_eq_false c4
  clear c4
  obtain rfl := Option.some.inj H
  go_enter Tryd.func46, Tryd.ntmps46
  go_wp2_with (first | ((with_reducible refine gate_dst (N := 3) rfl ?_); refine box_event ?hg (N := 3) ?hd (cs := #[.int .i64 a0_0, .int .i64 a0_1]) (t := 26) ?hr ?_; (case hd => rfl); (case hg => rfl); (case hr => first | (go_simp; done) | (go_simp; rfl)); intro gb131 hg w10 hbox hb; have BK131 := zh (hbox); have GW131 := zh ((by rw [hg]; exact (below_size zb) : w.heap.size ≤ gb131)); have GE131 := zh ((by rw [hg]; exact (below_size zb) : w.heap.size ≤ gb131)); replace HB := zh (below_step zb hb); clear hb hbox hg; obtain ⟨hcz11_0, hcz11_1⟩ := zC2 BK131.out; obtain ⟨hfz11_0, hfz11_1⟩ := zF2 BK131.out))
  go_ret
  exact ⟨zf, zb⟩
def saronref00_Sits.f (a0 : Int) (a1 : Int) (a2 : Int) : Option (Bool) := if a1 ≤ a0 then (some (decide (a0 ≤ a2))) else (some false)
set_option maxHeartbeats 8000000 in
set_option maxRecDepth 100000 in
theorem saronref00_Sits.calls (a0 : Int) (a1 : Int) (a2 : Int) (r : Bool) (w : World) (h : saronref00_Sits.f a0 a1 a2 = some r) :
  Calls Tryd.prog 59 #[.int .i64 a0, .int .i64 a1, .int .i64 a2] w fun e w' => e = .returned (.bool r) ∧ Drawn0 w w' := by
 have H : (if a1 ≤ a0 then (some (decide (a0 ≤ a2))) else (some false)) = some r := h
 clear h
 by_cases c4 : a1 ≤ a0
 ·rw [if_pos c4] at H
  have c4b0 : decide (a1 ≤ a0) = true := decide_eq_true c4
  clear c4
  obtain rfl := Option.some.inj H
  go_enter Tryd.func59, Tryd.ntmps59
  go_wp2
  go_ret
  exact ⟨ze, by repeat (first | exact Drawn0.refl _ | apply Drawn0.step)⟩
 ·rw [if_neg c4] at H
  have c4b0 : decide (a1 ≤ a0) = false := decide_eq_false c4
  clear c4
  obtain rfl := Option.some.inj H
  go_enter Tryd.func59, Tryd.ntmps59
  go_wp2
  go_ret
  exact ⟨ze, by repeat (first | exact Drawn0.refl _ | apply Drawn0.step)⟩
def saronref00_Where.l0 : Nat → List Int → Int → Int → Option (Int)
 | 0, _, _, _ => none
 | k + 1, x0, x1, x5 => if x5 < (x0.length : Int) then (if 0 ≤ x5 then (if (rd x0 x5) = x1 then (some x5) else (saronref00_Where.l0 k x0 x1 (wrap64 (x5 + 1)))) else (none)) else (some (-1))
def saronref00_Where.f (k : Nat) (l0 : List Int) (a1 : Int) : Option (Int) := saronref00_Where.l0 k l0 a1 0
set_option maxHeartbeats 8000000 in
set_option maxRecDepth 100000 in
theorem saronref00_Where.calls (k : Nat) (A0 : Option Addr) (c0 : Nat) (l0 : List Int) (a1 : Int) (r : Int) (w : World) (hr0 : Kd.C (Kd.int .i64) w A0 l0.length l0) (hc0 : l0.length ≤ c0) (h : saronref00_Where.f k l0 a1 = some r) :
  Calls Tryd.prog 68 #[.slice A0 l0.length c0, .int .i64 a1] w fun e w' => e = .returned (.int .i64 r) ∧ Drawn0 w w' := by
 have HR0 := zh hr0
 have HC0 := zh hc0
 clear hr0 hc0
 have H : (saronref00_Where.l0 k l0 a1 0) = some r := h
 clear h
 have H' := zh H
 clear H
 go_enter Tryd.func68, Tryd.ntmps68
 go_wp2
 go_loopg [5] k (fun kq v5 w' => ∃ (x5_1 : Int), v5 = .int .i64 x5_1 ∧ Aside0 (saronref00_Where.l0 kq l0 a1 x5_1 = some r) ∧ Aside0 (kq ≤ k) ∧ Drawn0 w w')
 case atStart => exact ⟨(0), ze, H', ⟨Nat.le_refl _⟩, by repeat (first | exact Drawn0.refl _ | apply Drawn0.step)⟩
 case round =>
  clear H'
  try clear p2
  obtain ⟨x5_1, rfl, HA, HK1, ⟨m1, rfl⟩⟩ := hrel
  cases gk with
  | zero => exact absurd HA.out (by simp [saronref00_Where.l0])
  | succ k1 =>
   have H := HA.out
   clear HA
   simp only [saronref00_Where.l0] at H
   by_cases c3 : x5_1 < (l0.length : Int)
   ·rw [if_pos c3] at H
    have c3b0 : decide (x5_1 < (l0.length : Int)) = true := decide_eq_true c3
    clear c3
    by_cases c4 : 0 ≤ x5_1
    ·rw [if_pos c4] at H
     have c4b0 : decide (0 ≤ x5_1) = true := decide_eq_true c4
     clear c4
     by_cases c5 : (rd l0 x5_1) = a1
     ·rw [if_pos c5] at H
      have c5b0 : ((rd l0 x5_1) == a1) = true := beq_iff_eq.mpr c5
      have c5b1 : ((rd l0 x5_1) != a1) = false := bne_eq_false_iff_eq.mpr c5
      clear c5
      obtain rfl := Option.some.inj H
      have p132 : 0 ≤ (x5_1 : Int) := of_decide_eq_true zs
      have q132 : x5_1 < (l0.length : Int) := of_decide_eq_true zs
      obtain ⟨ad132, e132, hx132_0⟩ := Kd.at_int HR0.out x5_1 p132 q132
      cases e132
      replace p132 := eq_true p132
      replace q132 := eq_true q132
      go_wp2
      go_ret
      exact ⟨ze, by repeat (first | exact Drawn0.refl _ | apply Drawn0.step)⟩
     ·rw [if_neg c5] at H
      have c5b0 : ((rd l0 x5_1) == a1) = false := beq_eq_false_iff_ne.mpr c5
      have c5b1 : ((rd l0 x5_1) != a1) = true := bne_iff_ne.mpr c5
      have H' := zh H
      clear H
      have p132 : 0 ≤ (x5_1 : Int) := of_decide_eq_true zs
      have q132 : x5_1 < (l0.length : Int) := of_decide_eq_true zs
      obtain ⟨ad132, e132, hx132_0⟩ := Kd.at_int HR0.out x5_1 p132 q132
      cases e132
      replace p132 := eq_true p132
      replace q132 := eq_true q132
      go_wp2
      go_roundg k1
      case measure => have := HK1.out; omega
      case rel => exact ⟨(wrap64 (x5_1 + 1)), ze, H', ⟨by have := HK1.out; omega⟩, by repeat (first | exact Drawn0.refl _ | apply Drawn0.step)⟩
    ·rw [if_neg c4] at H
     exact absurd H (by simp)
   ·rw [if_neg c3] at H
    have c3b0 : decide (x5_1 < (l0.length : Int)) = false := decide_eq_false c3
    clear c3
    obtain rfl := Option.some.inj H
    go_wp2
    go_ret
    exact ⟨ze, by repeat (first | exact Drawn0.refl _ | apply Drawn0.step)⟩
def saronref00_Equal.l0 : Nat → List Int → List Int → Bool → Int → Option (Bool)
 | 0, _, _, _, _ => none
 | k + 1, x0, x1, x5, x6 => if x5 = true then (if x6 < (x0.length : Int) then (if 0 ≤ x6 then (if x6 < (x1.length : Int) then (saronref00_Equal.l0 k x0 x1 ((rd x0 x6) == (rd x1 x6)) (wrap64 (x6 + 1))) else (none)) else (none)) else (some x5)) else (some x5)
def saronref00_Equal.f (k : Nat) (l0 : List Int) (l1 : List Int) : Option (Bool) := saronref00_Equal.l0 k l0 l1 ((l0.length : Int) == (l1.length : Int)) 0
set_option maxHeartbeats 8000000 in
set_option maxRecDepth 100000 in
theorem saronref00_Equal.calls (k : Nat) (A0 : Option Addr) (c0 : Nat) (l0 : List Int) (A1 : Option Addr) (c1 : Nat) (l1 : List Int) (r : Bool) (w : World) (hr0 : Kd.C (Kd.int .i64) w A0 l0.length l0) (hc0 : l0.length ≤ c0) (hr1 : Kd.C (Kd.int .i64) w A1 l1.length l1) (hc1 : l1.length ≤ c1) (h : saronref00_Equal.f k l0 l1 = some r) :
  Calls Tryd.prog 35 #[.slice A0 l0.length c0, .slice A1 l1.length c1] w fun e w' => e = .returned (.bool r) ∧ Drawn0 w w' := by
 have HR0 := zh hr0
 have HC0 := zh hc0
 clear hr0 hc0
 have HR1 := zh hr1
 have HC1 := zh hc1
 clear hr1 hc1
 have H : (saronref00_Equal.l0 k l0 l1 ((l0.length : Int) == (l1.length : Int)) 0) = some r := h
 clear h
 have H' := zh H
 clear H
 go_enter Tryd.func35, Tryd.ntmps35
 go_wp2
 repeat (go_quiet (fail); try go_wp2)
 go_loopg [5, 6] k (fun kq v5 v6 w' => ∃ (x5_1 : Bool) (x6_1 : Int), v5 = .bool x5_1 ∧ v6 = .int .i64 x6_1 ∧ Aside0 (saronref00_Equal.l0 kq l0 l1 x5_1 x6_1 = some r) ∧ Aside0 (kq ≤ k) ∧ Drawn0 w w')
 case atStart => exact ⟨(((l0.length : Int) == (l1.length : Int))), (0), ze, ze, H', ⟨Nat.le_refl _⟩, by repeat (first | exact Drawn0.refl _ | apply Drawn0.step)⟩
 case round =>
  clear H'
  try clear c1
  try clear p2
  obtain ⟨x5_1, x6_1, rfl, rfl, HA, HK1, ⟨m1, rfl⟩⟩ := hrel
  cases gk with
  | zero => exact absurd HA.out (by simp [saronref00_Equal.l0])
  | succ k1 =>
   have H := HA.out
   clear HA
   simp only [saronref00_Equal.l0] at H
   by_cases c3 : x5_1 = true
   ·subst c3
    have H1 : (if x6_1 < (l0.length : Int) then (if 0 ≤ x6_1 then (if x6_1 < (l1.length : Int) then (saronref00_Equal.l0 k1 l0 l1 ((rd l0 x6_1) == (rd l1 x6_1)) (wrap64 (x6_1 + 1))) else (none)) else (none)) else (some true)) = some r := by rw [if_pos rfl] at H; exact H
    clear H
    have H := H1
    clear H1
    by_cases c4 : x6_1 < (l0.length : Int)
    ·rw [if_pos c4] at H
     have c4b0 : decide (x6_1 < (l0.length : Int)) = true := decide_eq_true c4
     clear c4
     by_cases c5 : 0 ≤ x6_1
     ·rw [if_pos c5] at H
      have c5b0 : decide (0 ≤ x6_1) = true := decide_eq_true c5
      clear c5
      by_cases c6 : x6_1 < (l1.length : Int)
      ·rw [if_pos c6] at H
       have c6b0 : decide (x6_1 < (l1.length : Int)) = true := decide_eq_true c6
       clear c6
       have H' := zh H
       clear H
       have p256 : 0 ≤ (x6_1 : Int) := of_decide_eq_true zs
       have q256 : x6_1 < (l0.length : Int) := of_decide_eq_true zs
       obtain ⟨ad256, e256, hx256_0⟩ := Kd.at_int HR0.out x6_1 p256 q256
       cases e256
       replace p256 := eq_true p256
       replace q256 := eq_true q256
       have p257 : 0 ≤ (x6_1 : Int) := of_decide_eq_true zs
       have q257 : x6_1 < (l1.length : Int) := of_decide_eq_true zs
       obtain ⟨ad257, e257, hx257_0⟩ := Kd.at_int HR1.out x6_1 p257 q257
       cases e257
       replace p257 := eq_true p257
       replace q257 := eq_true q257
       go_wp2
       repeat (go_quiet (fail); try go_wp2)
       go_roundg k1
       case measure => have := HK1.out; omega
       case rel => exact ⟨(((rd l0 x6_1) == (rd l1 x6_1))), (wrap64 (x6_1 + 1)), ze, ze, H', ⟨by have := HK1.out; omega⟩, by repeat (first | exact Drawn0.refl _ | apply Drawn0.step)⟩
      ·rw [if_neg c6] at H
       exact absurd H (by simp)
     ·rw [if_neg c5] at H
      exact absurd H (by simp)
    ·rw [if_neg c4] at H
     have c4b0 : decide (x6_1 < (l0.length : Int)) = false := decide_eq_false c4
     clear c4
     obtain rfl := Option.some.inj H
     go_wp2
     repeat (go_quiet (fail); try go_wp2)
     go_ret
     exact ⟨ze, by repeat (first | exact Drawn0.refl _ | apply Drawn0.step)⟩
   ·replace c3 := Bool.eq_false_iff.mpr c3
    subst c3
    have H1 : (some false) = some r := by rw [if_neg (show ¬ (false = true) by decide)] at H; exact H
    clear H
    have H := H1
    clear H1
    obtain rfl := Option.some.inj H
    go_wp2
    repeat (go_quiet (fail); try go_wp2)
    go_ret
    exact ⟨ze, by repeat (first | exact Drawn0.refl _ | apply Drawn0.step)⟩
def saronref00_Band.f (a0 : Int) (a1 : Int) : Option (Int × Int) := some (a0, a1)
set_option maxHeartbeats 8000000 in
set_option maxRecDepth 100000 in
theorem saronref00_Band.calls (a0 : Int) (a1 : Int) (r1 : Int) (r2 : Int) (w : World) (h : saronref00_Band.f a0 a1 = some (r1, r2)) :
  Calls Tryd.prog 42 #[.int .i64 a0, .int .i64 a1] w fun e w' => e = .returned (.agg #[.int .i64 r1, .int .i64 r2]) ∧ Below w.heap.size w w' := by
 have hu26 := Tryd.underlying26
 have HB := zh (Below.refl w.heap.size w)
 have H : (some (a0, a1)) = some (r1, r2) := h
 clear h
 simp only [Option.some.injEq, Prod.mk.injEq] at H
 obtain ⟨rfl, rfl⟩ := H
 go_enter Tryd.func42, Tryd.ntmps42
 go_wp2_with (first | ((with_reducible refine gate_dst (N := 4) rfl ?_); refine box_event ?hg (N := 4) ?hd (cs := #[.int .i64 0, .int .i64 0]) (t := 26) ?hr ?_; (case hd => rfl); (case hg => rfl); (case hr => first | (go_simp; done) | (go_simp; rfl)); intro gb258 hg w3 hbox hb; have BK258 := zh (hbox); have GW258 := zh ((by rw [hg]; exact (below_size zb) : w.heap.size ≤ gb258)); have GE258 := zh ((by rw [hg]; exact (below_size zb) : w.heap.size ≤ gb258)); replace HB := zh (below_step zb hb); clear hb hbox hg; obtain ⟨hcz4_0, hcz4_1⟩ := zC2 BK258.out; obtain ⟨hfz4_0, hfz4_1⟩ := zF2 BK258.out))
 refine bodyPost_ret (results_cell_row rfl _ _ gb258 26 #[.int .i64 a0, .int .i64 a1] (0, 0) _ rfl (by (with_reducible repeat (first | refine blk_drewN ?_ _ | refine blk_drew ?_ | refine blk_alloc ?_ _)); refine blk_put (cs := #[.int .i64 a0, .int .i64 0]) ?_ 1 _ rfl; (with_reducible repeat (first | refine blk_drewN ?_ _ | refine blk_drew ?_ | refine blk_alloc ?_ _)); refine blk_put (cs := #[.int .i64 0, .int .i64 0]) ?_ 0 _ rfl; (with_reducible repeat (first | refine blk_drewN ?_ _ | refine blk_drew ?_ | refine blk_alloc ?_ _)); exact BK258.out) Tryd.underlying26 rfl zk) rfl ?_
 exact ⟨zf, zb⟩
def saronref00_Turn.f (a0 : Int) (a1 : Int) : Option (Int) := if a1 < 1 then (some 0) else (if a1 = 0 then (none) else (if (Int.tmod a0 a1) < 0 then (some (wrap64 ((Int.tmod a0 a1) + a1))) else (some (Int.tmod a0 a1))))
set_option maxHeartbeats 8000000 in
set_option maxRecDepth 100000 in
theorem saronref00_Turn.calls (a0 : Int) (a1 : Int) (r : Int) (w : World) (h : saronref00_Turn.f a0 a1 = some r) :
  Calls Tryd.prog 39 #[.int .i64 a0, .int .i64 a1] w fun e w' => e = .returned (.int .i64 r) ∧ Drawn0 w w' := by
 have H : (if a1 < 1 then (some 0) else (if a1 = 0 then (none) else (if (Int.tmod a0 a1) < 0 then (some (wrap64 ((Int.tmod a0 a1) + a1))) else (some (Int.tmod a0 a1))))) = some r := h
 clear h
 by_cases c3 : a1 < 1
 ·rw [if_pos c3] at H
  have c3b0 : decide (a1 < 1) = true := decide_eq_true c3
  clear c3
  obtain rfl := Option.some.inj H
  go_enter Tryd.func39, Tryd.ntmps39
  go_wp2
  go_ret
  exact ⟨ze, by repeat (first | exact Drawn0.refl _ | apply Drawn0.step)⟩
 ·rw [if_neg c3] at H
  have c3b0 : decide (a1 < 1) = false := decide_eq_false c3
  clear c3
  by_cases c4 : a1 = 0
  ·rw [if_pos c4] at H
   exact absurd H (by simp)
  ·rw [if_neg c4] at H
   have c4b0 : (a1 == 0) = false := beq_eq_false_iff_ne.mpr c4
   have c4b1 : (a1 != 0) = true := bne_iff_ne.mpr c4
   by_cases c5 : (Int.tmod a0 a1) < 0
   ·rw [if_pos c5] at H
    have c5b0 : decide ((Int.tmod a0 a1) < 0) = true := decide_eq_true c5
    clear c5
    obtain rfl := Option.some.inj H
    go_enter Tryd.func39, Tryd.ntmps39
    go_wp2
    go_ret
    exact ⟨ze, by repeat (first | exact Drawn0.refl _ | apply Drawn0.step)⟩
   ·rw [if_neg c5] at H
    have c5b0 : decide ((Int.tmod a0 a1) < 0) = false := decide_eq_false c5
    clear c5
    obtain rfl := Option.some.inj H
    go_enter Tryd.func39, Tryd.ntmps39
    go_wp2
    go_ret
    exact ⟨ze, by repeat (first | exact Drawn0.refl _ | apply Drawn0.step)⟩
def saronref00_Draw.f (a0_0 : Int) (a0_1 : Int) (a1 : Int) : Option (Int) := if a0_1 ≤ a0_0 then (some a0_0) else (if (wrap64 ((wrap64 (a0_1 - a0_0)) + 1)) < 1 then (some (mn (mx a1 a0_0) a0_1)) else ((saronref00_Turn.f a1 (wrap64 ((wrap64 (a0_1 - a0_0)) + 1))).bind fun t522 => (some (wrap64 (a0_0 + t522)))))
set_option maxHeartbeats 8000000 in
set_option maxRecDepth 100000 in
theorem saronref00_Draw.calls (a0_0 : Int) (a0_1 : Int) (a1 : Int) (r : Int) (w : World) (h : saronref00_Draw.f a0_0 a0_1 a1 = some r) :
  Calls Tryd.prog 45 #[.agg #[.int .i64 a0_0, .int .i64 a0_1], .int .i64 a1] w fun e w' => e = .returned (.int .i64 r) ∧ Below w.heap.size w w' := by
 have hu26 := Tryd.underlying26
 have HB := zh (Below.refl w.heap.size w)
 have H : (if a0_1 ≤ a0_0 then (some a0_0) else (if (wrap64 ((wrap64 (a0_1 - a0_0)) + 1)) < 1 then (some (mn (mx a1 a0_0) a0_1)) else ((saronref00_Turn.f a1 (wrap64 ((wrap64 (a0_1 - a0_0)) + 1))).bind fun t522 => (some (wrap64 (a0_0 + t522)))))) = some r := h
 clear h
 by_cases c3 : a0_1 ≤ a0_0
 ·rw [if_pos c3] at H
  have c3b0 : decide (a0_1 ≤ a0_0) = true := decide_eq_true c3
  clear c3
  obtain rfl := Option.some.inj H
  go_enter Tryd.func45, Tryd.ntmps45
  go_wp2_with (first | ((with_reducible refine gate_dst (N := 2) rfl ?_); refine box_event ?hg (N := 2) ?hd (cs := #[.int .i64 a0_0, .int .i64 a0_1]) (t := 26) ?hr ?_; (case hd => rfl); (case hg => rfl); (case hr => first | (go_simp; done) | (go_simp; rfl)); intro gb521 hg w4 hbox hb; have BK521 := zh (hbox); have GW521 := zh ((by rw [hg]; exact (below_size zb) : w.heap.size ≤ gb521)); have GE521 := zh ((by rw [hg]; exact (below_size zb) : w.heap.size ≤ gb521)); replace HB := zh (below_step zb hb); clear hb hbox hg; obtain ⟨hcz5_0, hcz5_1⟩ := zC2 BK521.out; obtain ⟨hfz5_0, hfz5_1⟩ := zF2 BK521.out))
  repeat (go_quiet (first | ((with_reducible refine gate_dst (N := 2) rfl ?_); refine box_event ?hg (N := 2) ?hd (cs := #[.int .i64 a0_0, .int .i64 a0_1]) (t := 26) ?hr ?_; (case hd => rfl); (case hg => rfl); (case hr => first | (go_simp; done) | (go_simp; rfl)); intro gb521 hg w4 hbox hb; have BK521 := zh (hbox); have GW521 := zh ((by rw [hg]; exact (below_size zb) : w.heap.size ≤ gb521)); have GE521 := zh ((by rw [hg]; exact (below_size zb) : w.heap.size ≤ gb521)); replace HB := zh (below_step zb hb); clear hb hbox hg; obtain ⟨hcz5_0, hcz5_1⟩ := zC2 BK521.out; obtain ⟨hfz5_0, hfz5_1⟩ := zF2 BK521.out)); try go_wp2_with (first | ((with_reducible refine gate_dst (N := 2) rfl ?_); refine box_event ?hg (N := 2) ?hd (cs := #[.int .i64 a0_0, .int .i64 a0_1]) (t := 26) ?hr ?_; (case hd => rfl); (case hg => rfl); (case hr => first | (go_simp; done) | (go_simp; rfl)); intro gb521 hg w4 hbox hb; have BK521 := zh (hbox); have GW521 := zh ((by rw [hg]; exact (below_size zb) : w.heap.size ≤ gb521)); have GE521 := zh ((by rw [hg]; exact (below_size zb) : w.heap.size ≤ gb521)); replace HB := zh (below_step zb hb); clear hb hbox hg; obtain ⟨hcz5_0, hcz5_1⟩ := zC2 BK521.out; obtain ⟨hfz5_0, hfz5_1⟩ := zF2 BK521.out)))
  go_ret
  exact ⟨zf, zb⟩
 ·rw [if_neg c3] at H
  have c3b0 : decide (a0_1 ≤ a0_0) = false := decide_eq_false c3
  clear c3
  by_cases c6 : (wrap64 ((wrap64 (a0_1 - a0_0)) + 1)) < 1
  ·rw [if_pos c6] at H
   have c6b0 : decide ((wrap64 ((wrap64 (a0_1 - a0_0)) + 1)) < 1) = true := decide_eq_true c6
   clear c6
   obtain ⟨ji7, hji7⟩ : ∃ j_ : Int, (mx a1 a0_0) = j_ := ⟨_, rfl⟩
   replace H : (some (mn (ji7) a0_1)) = some r := by first | (rw [hji7] at H; exact H) | (simp only [hji7] at H ⊢; exact H)
   have hji7_ : (if a1 < a0_0 then a0_0 else a1) = ji7 := hji7
   obtain ⟨ji8, hji8⟩ : ∃ j_ : Int, (mn (ji7) a0_1) = j_ := ⟨_, rfl⟩
   replace H : (some ji8) = some r := by first | (rw [hji8] at H; exact H) | (simp only [hji8] at H ⊢; exact H)
   have hji8_ : (if a0_1 < (ji7) then a0_1 else (ji7)) = ji8 := hji8
   obtain rfl := Option.some.inj H
   go_enter Tryd.func45, Tryd.ntmps45
   go_wp2_with (first | ((with_reducible refine gate_dst (N := 2) rfl ?_); refine box_event ?hg (N := 2) ?hd (cs := #[.int .i64 a0_0, .int .i64 a0_1]) (t := 26) ?hr ?_; (case hd => rfl); (case hg => rfl); (case hr => first | (go_simp; done) | (go_simp; rfl)); intro gb521 hg w9 hbox hb; have BK521 := zh (hbox); have GW521 := zh ((by rw [hg]; exact (below_size zb) : w.heap.size ≤ gb521)); have GE521 := zh ((by rw [hg]; exact (below_size zb) : w.heap.size ≤ gb521)); replace HB := zh (below_step zb hb); clear hb hbox hg; obtain ⟨hcz10_0, hcz10_1⟩ := zC2 BK521.out; obtain ⟨hfz10_0, hfz10_1⟩ := zF2 BK521.out))
   repeat (go_quiet (first | ((with_reducible refine gate_dst (N := 2) rfl ?_); refine box_event ?hg (N := 2) ?hd (cs := #[.int .i64 a0_0, .int .i64 a0_1]) (t := 26) ?hr ?_; (case hd => rfl); (case hg => rfl); (case hr => first | (go_simp; done) | (go_simp; rfl)); intro gb521 hg w9 hbox hb; have BK521 := zh (hbox); have GW521 := zh ((by rw [hg]; exact (below_size zb) : w.heap.size ≤ gb521)); have GE521 := zh ((by rw [hg]; exact (below_size zb) : w.heap.size ≤ gb521)); replace HB := zh (below_step zb hb); clear hb hbox hg; obtain ⟨hcz10_0, hcz10_1⟩ := zC2 BK521.out; obtain ⟨hfz10_0, hfz10_1⟩ := zF2 BK521.out)); try go_wp2_with (first | ((with_reducible refine gate_dst (N := 2) rfl ?_); refine box_event ?hg (N := 2) ?hd (cs := #[.int .i64 a0_0, .int .i64 a0_1]) (t := 26) ?hr ?_; (case hd => rfl); (case hg => rfl); (case hr => first | (go_simp; done) | (go_simp; rfl)); intro gb521 hg w9 hbox hb; have BK521 := zh (hbox); have GW521 := zh ((by rw [hg]; exact (below_size zb) : w.heap.size ≤ gb521)); have GE521 := zh ((by rw [hg]; exact (below_size zb) : w.heap.size ≤ gb521)); replace HB := zh (below_step zb hb); clear hb hbox hg; obtain ⟨hcz10_0, hcz10_1⟩ := zC2 BK521.out; obtain ⟨hfz10_0, hfz10_1⟩ := zF2 BK521.out)))
   go_ret
   exact ⟨by first | rfl | (simp [errW_none, errW_some] <;> rfl) | (simp only [← hji7, ← hji8]; first | rfl | (simp [errW_none, errW_some] <;> rfl)) | (simp [*, errW_none, errW_some] <;> rfl), zb⟩
  ·rw [if_neg c6] at H
   have c6b0 : decide ((wrap64 ((wrap64 (a0_1 - a0_0)) + 1)) < 1) = false := decide_eq_false c6
   clear c6
   replace H := Option.bind_eq_some_iff.mp H
   obtain ⟨t522, A110, H⟩ := H
   replace H : (some (wrap64 (a0_0 + t522))) = some r := H
   have A11 := zh A110
   clear A110
   obtain rfl := Option.some.inj H
   go_enter Tryd.func45, Tryd.ntmps45
   go_wp2_with (first | ((with_reducible refine gate_dst (N := 2) rfl ?_); refine box_event ?hg (N := 2) ?hd (cs := #[.int .i64 a0_0, .int .i64 a0_1]) (t := 26) ?hr ?_; (case hd => rfl); (case hg => rfl); (case hr => first | (go_simp; done) | (go_simp; rfl)); intro gb521 hg w12 hbox hb; have BK521 := zh (hbox); have GW521 := zh ((by rw [hg]; exact (below_size zb) : w.heap.size ≤ gb521)); have GE521 := zh ((by rw [hg]; exact (below_size zb) : w.heap.size ≤ gb521)); replace HB := zh (below_step zb hb); clear hb hbox hg; obtain ⟨hcz13_0, hcz13_1⟩ := zC2 BK521.out; obtain ⟨hfz13_0, hfz13_1⟩ := zF2 BK521.out) | (go_at_call 39; (with_reducible refine (saronref00_Turn.calls a1 (wrap64 ((wrap64 (a0_1 - a0_0)) + 1)) t522 _ A11.out).mono ?_); rintro e w' ⟨rfl, ⟨nd, rfl⟩⟩; (try first | exact ⟨rfl, _, World.drewN_drewN _ _ _⟩ | exact ⟨rfl, _, Eq.trans (World.drewN_drewN _ _ _) (congrArg (World.drewN _) (Nat.add_assoc _ _ _))⟩)))
   repeat (go_quiet (first | ((with_reducible refine gate_dst (N := 2) rfl ?_); refine box_event ?hg (N := 2) ?hd (cs := #[.int .i64 a0_0, .int .i64 a0_1]) (t := 26) ?hr ?_; (case hd => rfl); (case hg => rfl); (case hr => first | (go_simp; done) | (go_simp; rfl)); intro gb521 hg w12 hbox hb; have BK521 := zh (hbox); have GW521 := zh ((by rw [hg]; exact (below_size zb) : w.heap.size ≤ gb521)); have GE521 := zh ((by rw [hg]; exact (below_size zb) : w.heap.size ≤ gb521)); replace HB := zh (below_step zb hb); clear hb hbox hg; obtain ⟨hcz13_0, hcz13_1⟩ := zC2 BK521.out; obtain ⟨hfz13_0, hfz13_1⟩ := zF2 BK521.out) | (go_at_call 39; (try simp only [i64_w, i32_w]); (with_reducible refine (saronref00_Turn.calls a1 (wrap64 ((wrap64 (a0_1 - a0_0)) + 1)) t522 _ A11.out).mono ?_); rintro e w' ⟨rfl, ⟨nd, rfl⟩⟩; (try first | exact ⟨rfl, _, World.drewN_drewN _ _ _⟩ | exact ⟨rfl, _, Eq.trans (World.drewN_drewN _ _ _) (congrArg (World.drewN _) (Nat.add_assoc _ _ _))⟩))); try go_wp2_with (first | ((with_reducible refine gate_dst (N := 2) rfl ?_); refine box_event ?hg (N := 2) ?hd (cs := #[.int .i64 a0_0, .int .i64 a0_1]) (t := 26) ?hr ?_; (case hd => rfl); (case hg => rfl); (case hr => first | (go_simp; done) | (go_simp; rfl)); intro gb521 hg w12 hbox hb; have BK521 := zh (hbox); have GW521 := zh ((by rw [hg]; exact (below_size zb) : w.heap.size ≤ gb521)); have GE521 := zh ((by rw [hg]; exact (below_size zb) : w.heap.size ≤ gb521)); replace HB := zh (below_step zb hb); clear hb hbox hg; obtain ⟨hcz13_0, hcz13_1⟩ := zC2 BK521.out; obtain ⟨hfz13_0, hfz13_1⟩ := zF2 BK521.out) | (go_at_call 39; (try simp only [i64_w, i32_w]); (with_reducible refine (saronref00_Turn.calls a1 (wrap64 ((wrap64 (a0_1 - a0_0)) + 1)) t522 _ A11.out).mono ?_); rintro e w' ⟨rfl, ⟨nd, rfl⟩⟩; (try first | exact ⟨rfl, _, World.drewN_drewN _ _ _⟩ | exact ⟨rfl, _, Eq.trans (World.drewN_drewN _ _ _) (congrArg (World.drewN _) (Nat.add_assoc _ _ _))⟩))))
   go_ret
   exact ⟨zf, zb⟩
def saronref00_Under.f (a0_0 : Int) (a0_1 : Int) (a1_0 : Int) (a1_1 : Int) : Option (Bool) := if a1_0 ≤ a0_0 then (some (decide (a0_1 ≤ a1_1))) else (some false)
set_option maxHeartbeats 8000000 in
set_option maxRecDepth 100000 in
theorem saronref00_Under.calls (a0_0 : Int) (a0_1 : Int) (a1_0 : Int) (a1_1 : Int) (r : Bool) (w : World) (h : saronref00_Under.f a0_0 a0_1 a1_0 a1_1 = some r) :
  Calls Tryd.prog 41 #[.agg #[.int .i64 a0_0, .int .i64 a0_1], .agg #[.int .i64 a1_0, .int .i64 a1_1]] w fun e w' => e = .returned (.bool r) ∧ Below w.heap.size w w' := by
 have hu26 := Tryd.underlying26
 have HB := zh (Below.refl w.heap.size w)
 have H : (if a1_0 ≤ a0_0 then (some (decide (a0_1 ≤ a1_1))) else (some false)) = some r := h
 clear h
 by_cases c3 : a1_0 ≤ a0_0
 ·rw [if_pos c3] at H
  have c3b0 : decide (a1_0 ≤ a0_0) = true := decide_eq_true c3
  clear c3
  obtain rfl := Option.some.inj H
  go_enter Tryd.func41, Tryd.ntmps41
  go_wp2_with (first | ((with_reducible refine gate_dst (N := 2) rfl ?_); refine box_event ?hg (N := 2) ?hd (cs := #[.int .i64 a0_0, .int .i64 a0_1]) (t := 26) ?hr ?_; (case hd => rfl); (case hg => rfl); (case hr => first | (go_simp; done) | (go_simp; rfl)); intro gb571 hg w4 hbox hb; have BK571 := zh (hbox); have GW571 := zh ((by rw [hg]; exact (below_size zb) : w.heap.size ≤ gb571)); have GE571 := zh ((by rw [hg]; exact (below_size zb) : w.heap.size ≤ gb571)); replace HB := zh (below_step zb hb); clear hb hbox hg) | ((with_reducible refine gate_dst (N := 3) rfl ?_); refine box_event ?hg (N := 3) ?hd (cs := #[.int .i64 a1_0, .int .i64 a1_1]) (t := 26) ?hr ?_; (case hd => rfl); (case hg => rfl); (case hr => first | (go_simp; done) | (go_simp; rfl)); intro gb572 hg w5 hbox hb; have BK572 := zh (hbox); have GW572 := zh ((by rw [hg]; exact (below_size zb) : w.heap.size ≤ gb572)); have GE572 := zh ((by rw [hg]; exact (below_size zb) : w.heap.size ≤ gb572)); replace HB := zh (below_step zb hb); have NB571_572 := zh ((by rw [hg]; exact Nat.ne_of_lt (blk_lt (g := gb571) (o := .cells #[.int .i64 a0_0, .int .i64 a0_1] 26 (0, 0)) (zc BK571)) : gb571 ≠ gb572)); have NB572_571 := zh ((by rw [hg]; exact Nat.ne_of_gt (blk_lt (g := gb571) (o := .cells #[.int .i64 a0_0, .int .i64 a0_1] 26 (0, 0)) (zc BK571)) : gb572 ≠ gb571)); replace BK571 := zX BK571 hb; clear hb hbox hg; have hnb6 := NB572_571.out; have hnc6 := NB571_572.out; obtain ⟨hcz7_0, hcz7_1⟩ := zC2 BK572.out; obtain ⟨hfz7_0, hfz7_1⟩ := zF2 BK572.out; obtain ⟨hcz8_0, hcz8_1⟩ := zC2 BK571.out; obtain ⟨hfz8_0, hfz8_1⟩ := zF2 BK571.out))
  go_ret
  exact ⟨zf, zb⟩
 ·rw [if_neg c3] at H
  have c3b0 : decide (a1_0 ≤ a0_0) = false := decide_eq_false c3
  clear c3
  obtain rfl := Option.some.inj H
  go_enter Tryd.func41, Tryd.ntmps41
  go_wp2_with (first | ((with_reducible refine gate_dst (N := 2) rfl ?_); refine box_event ?hg (N := 2) ?hd (cs := #[.int .i64 a0_0, .int .i64 a0_1]) (t := 26) ?hr ?_; (case hd => rfl); (case hg => rfl); (case hr => first | (go_simp; done) | (go_simp; rfl)); intro gb571 hg w9 hbox hb; have BK571 := zh (hbox); have GW571 := zh ((by rw [hg]; exact (below_size zb) : w.heap.size ≤ gb571)); have GE571 := zh ((by rw [hg]; exact (below_size zb) : w.heap.size ≤ gb571)); replace HB := zh (below_step zb hb); clear hb hbox hg) | ((with_reducible refine gate_dst (N := 3) rfl ?_); refine box_event ?hg (N := 3) ?hd (cs := #[.int .i64 a1_0, .int .i64 a1_1]) (t := 26) ?hr ?_; (case hd => rfl); (case hg => rfl); (case hr => first | (go_simp; done) | (go_simp; rfl)); intro gb572 hg w10 hbox hb; have BK572 := zh (hbox); have GW572 := zh ((by rw [hg]; exact (below_size zb) : w.heap.size ≤ gb572)); have GE572 := zh ((by rw [hg]; exact (below_size zb) : w.heap.size ≤ gb572)); replace HB := zh (below_step zb hb); have NB571_572 := zh ((by rw [hg]; exact Nat.ne_of_lt (blk_lt (g := gb571) (o := .cells #[.int .i64 a0_0, .int .i64 a0_1] 26 (0, 0)) (zc BK571)) : gb571 ≠ gb572)); have NB572_571 := zh ((by rw [hg]; exact Nat.ne_of_gt (blk_lt (g := gb571) (o := .cells #[.int .i64 a0_0, .int .i64 a0_1] 26 (0, 0)) (zc BK571)) : gb572 ≠ gb571)); replace BK571 := zX BK571 hb; clear hb hbox hg; have hnb11 := NB572_571.out; have hnc11 := NB571_572.out; obtain ⟨hcz12_0, hcz12_1⟩ := zC2 BK572.out; obtain ⟨hfz12_0, hfz12_1⟩ := zF2 BK572.out; obtain ⟨hcz13_0, hcz13_1⟩ := zC2 BK571.out; obtain ⟨hfz13_0, hfz13_1⟩ := zF2 BK571.out))
  go_ret
  exact ⟨zf, zb⟩
end Go.Proofs.YtgehkojccmkggaaDoor.H
end
section
namespace Go.Proofs.YtgehkojccmkggaaDoor.H
open Go.RowKit Go.Proofs.YtgehkojccmkggaaDoorW.PrintWords Go.Proofs.YtgehkojccmkggaaDoorW.PrintLast Go.Proofs.YtgehkojccmkggaaDoorW.PrintMore
attribute [local go_sem] max2_int min2_int max_two min_two max_three min_three max_four min_four   -- for this text's walks alone
set_option linter.unusedVariables false
set_option linter.unusedSimpArgs false
def saronlaw01_bronze.f (a0 : Int) (a1 : Int) : Option ((List (S26)) × (List (S61)) × (List (S48)) × Int × Int) := (saronref00_Band.f 200 204).bind fun bt260 => ((saronref00_Band.f 206 210).bind fun bt262 => ((saronref00_Band.f 240 243).bind fun bt264 => ((saronref00_Band.f 246 250).bind fun bt266 => ((saronref00_Band.f a0 a1).bind fun bt268 => ((saronref00_Band.f 300 310).bind fun bt270 => ((saronref00_Band.f 1190 1210).bind fun bt278 => ((saronref00_Band.f 1190 1230).bind fun bt280 => ((saronref00_Band.f 1230 1250).bind fun bt288 => ((saronref00_Band.f 4 7).bind fun bt299 => (some ((([(⟨bt260.1, bt260.2⟩ : S26), (⟨bt262.1, bt262.2⟩ : S26), (⟨bt264.1, bt264.2⟩ : S26), (⟨bt266.1, bt266.2⟩ : S26), (⟨bt268.1, bt268.2⟩ : S26), (⟨bt270.1, bt270.2⟩ : S26)] : List (S26))), (([(⟨(([0, 2, 4] : List Int)), (([(⟨bt278.1, bt278.2⟩ : S26), (⟨bt280.1, bt280.2⟩ : S26)] : List (S26)))⟩ : S61), (⟨(([3, 5] : List Int)), (([(⟨bt288.1, bt288.2⟩ : S26)] : List (S26)))⟩ : S61)] : List (S61))), (([(⟨0, 1⟩ : S48), (⟨2, 3⟩ : S48)] : List (S48))), bt299.1, bt299.2)))))))))))
set_option maxHeartbeats 8000000 in
set_option maxRecDepth 100000 in
theorem saronlaw01_bronze.calls (a0 : Int) (a1 : Int) (r1 : List (S26)) (r2 : List (S61)) (r3 : List (S48)) (r4 : Int) (r5 : Int) (w : World) (h : saronlaw01_bronze.f a0 a1 = some (r1, r2, r3, r4, r5)) :
  Calls Tryd.prog 50 #[.int .i64 a0, .int .i64 a1] w fun e w' => ∃ v0_ v1_ v2_ : Value, e = .returned (.agg #[v0_, v1_, v2_, .int .i64 r4, .int .i64 r5]) ∧ Kd.R k26 26 w' w.heap.size (fun k_ => (w.heap.size ≤ k_)) v0_ r1 ∧ Kd.N k61 61 w' w.heap.size (fun k_ => (w.heap.size ≤ k_) ∧ some k_ ≠ (v0_ : Value).ownBlock ∧ some k_ ≠ (v2_ : Value).ownBlock) v1_ r2 ∧ Kd.R k48 48 w' w.heap.size (fun k_ => (w.heap.size ≤ k_)) v2_ r3 ∧ Below w.heap.size w w' := by
 have hu28 := Tryd.underlying28
 have hu61 := Tryd.underlying61
 have hu48 := Tryd.underlying48
 have HB := zh (Below.refl w.heap.size w)
 have H : ((saronref00_Band.f 200 204).bind fun bt260 => ((saronref00_Band.f 206 210).bind fun bt262 => ((saronref00_Band.f 240 243).bind fun bt264 => ((saronref00_Band.f 246 250).bind fun bt266 => ((saronref00_Band.f a0 a1).bind fun bt268 => ((saronref00_Band.f 300 310).bind fun bt270 => ((saronref00_Band.f 1190 1210).bind fun bt278 => ((saronref00_Band.f 1190 1230).bind fun bt280 => ((saronref00_Band.f 1230 1250).bind fun bt288 => ((saronref00_Band.f 4 7).bind fun bt299 => (some ((([(⟨bt260.1, bt260.2⟩ : S26), (⟨bt262.1, bt262.2⟩ : S26), (⟨bt264.1, bt264.2⟩ : S26), (⟨bt266.1, bt266.2⟩ : S26), (⟨bt268.1, bt268.2⟩ : S26), (⟨bt270.1, bt270.2⟩ : S26)] : List (S26))), (([(⟨(([0, 2, 4] : List Int)), (([(⟨bt278.1, bt278.2⟩ : S26), (⟨bt280.1, bt280.2⟩ : S26)] : List (S26)))⟩ : S61), (⟨(([3, 5] : List Int)), (([(⟨bt288.1, bt288.2⟩ : S26)] : List (S26)))⟩ : S61)] : List (S61))), (([(⟨0, 1⟩ : S48), (⟨2, 3⟩ : S48)] : List (S48))), bt299.1, bt299.2)))))))))))) = some (r1, r2, r3, r4, r5) := h
 clear h
 replace H := Option.bind_eq_some_iff.mp H
 obtain ⟨⟨t260, t261⟩, A30, H⟩ := H
 replace H : ((saronref00_Band.f 206 210).bind fun bt262 => ((saronref00_Band.f 240 243).bind fun bt264 => ((saronref00_Band.f 246 250).bind fun bt266 => ((saronref00_Band.f a0 a1).bind fun bt268 => ((saronref00_Band.f 300 310).bind fun bt270 => ((saronref00_Band.f 1190 1210).bind fun bt278 => ((saronref00_Band.f 1190 1230).bind fun bt280 => ((saronref00_Band.f 1230 1250).bind fun bt288 => ((saronref00_Band.f 4 7).bind fun bt299 => (some ((([(⟨t260, t261⟩ : S26), (⟨bt262.1, bt262.2⟩ : S26), (⟨bt264.1, bt264.2⟩ : S26), (⟨bt266.1, bt266.2⟩ : S26), (⟨bt268.1, bt268.2⟩ : S26), (⟨bt270.1, bt270.2⟩ : S26)] : List (S26))), (([(⟨(([0, 2, 4] : List Int)), (([(⟨bt278.1, bt278.2⟩ : S26), (⟨bt280.1, bt280.2⟩ : S26)] : List (S26)))⟩ : S61), (⟨(([3, 5] : List Int)), (([(⟨bt288.1, bt288.2⟩ : S26)] : List (S26)))⟩ : S61)] : List (S61))), (([(⟨0, 1⟩ : S48), (⟨2, 3⟩ : S48)] : List (S48))), bt299.1, bt299.2))))))))))) = some (r1, r2, r3, r4, r5) := H
 have A3 := zh A30
 clear A30
 replace H := Option.bind_eq_some_iff.mp H
 obtain ⟨⟨t262, t263⟩, A40, H⟩ := H
 replace H : ((saronref00_Band.f 240 243).bind fun bt264 => ((saronref00_Band.f 246 250).bind fun bt266 => ((saronref00_Band.f a0 a1).bind fun bt268 => ((saronref00_Band.f 300 310).bind fun bt270 => ((saronref00_Band.f 1190 1210).bind fun bt278 => ((saronref00_Band.f 1190 1230).bind fun bt280 => ((saronref00_Band.f 1230 1250).bind fun bt288 => ((saronref00_Band.f 4 7).bind fun bt299 => (some ((([(⟨t260, t261⟩ : S26), (⟨t262, t263⟩ : S26), (⟨bt264.1, bt264.2⟩ : S26), (⟨bt266.1, bt266.2⟩ : S26), (⟨bt268.1, bt268.2⟩ : S26), (⟨bt270.1, bt270.2⟩ : S26)] : List (S26))), (([(⟨(([0, 2, 4] : List Int)), (([(⟨bt278.1, bt278.2⟩ : S26), (⟨bt280.1, bt280.2⟩ : S26)] : List (S26)))⟩ : S61), (⟨(([3, 5] : List Int)), (([(⟨bt288.1, bt288.2⟩ : S26)] : List (S26)))⟩ : S61)] : List (S61))), (([(⟨0, 1⟩ : S48), (⟨2, 3⟩ : S48)] : List (S48))), bt299.1, bt299.2)))))))))) = some (r1, r2, r3, r4, r5) := H
 have A4 := zh A40
 clear A40
 replace H := Option.bind_eq_some_iff.mp H
 obtain ⟨⟨t264, t265⟩, A50, H⟩ := H
 replace H : ((saronref00_Band.f 246 250).bind fun bt266 => ((saronref00_Band.f a0 a1).bind fun bt268 => ((saronref00_Band.f 300 310).bind fun bt270 => ((saronref00_Band.f 1190 1210).bind fun bt278 => ((saronref00_Band.f 1190 1230).bind fun bt280 => ((saronref00_Band.f 1230 1250).bind fun bt288 => ((saronref00_Band.f 4 7).bind fun bt299 => (some ((([(⟨t260, t261⟩ : S26), (⟨t262, t263⟩ : S26), (⟨t264, t265⟩ : S26), (⟨bt266.1, bt266.2⟩ : S26), (⟨bt268.1, bt268.2⟩ : S26), (⟨bt270.1, bt270.2⟩ : S26)] : List (S26))), (([(⟨(([0, 2, 4] : List Int)), (([(⟨bt278.1, bt278.2⟩ : S26), (⟨bt280.1, bt280.2⟩ : S26)] : List (S26)))⟩ : S61), (⟨(([3, 5] : List Int)), (([(⟨bt288.1, bt288.2⟩ : S26)] : List (S26)))⟩ : S61)] : List (S61))), (([(⟨0, 1⟩ : S48), (⟨2, 3⟩ : S48)] : List (S48))), bt299.1, bt299.2))))))))) = some (r1, r2, r3, r4, r5) := H
 have A5 := zh A50
 clear A50
 replace H := Option.bind_eq_some_iff.mp H
 obtain ⟨⟨t266, t267⟩, A60, H⟩ := H
 replace H : ((saronref00_Band.f a0 a1).bind fun bt268 => ((saronref00_Band.f 300 310).bind fun bt270 => ((saronref00_Band.f 1190 1210).bind fun bt278 => ((saronref00_Band.f 1190 1230).bind fun bt280 => ((saronref00_Band.f 1230 1250).bind fun bt288 => ((saronref00_Band.f 4 7).bind fun bt299 => (some ((([(⟨t260, t261⟩ : S26), (⟨t262, t263⟩ : S26), (⟨t264, t265⟩ : S26), (⟨t266, t267⟩ : S26), (⟨bt268.1, bt268.2⟩ : S26), (⟨bt270.1, bt270.2⟩ : S26)] : List (S26))), (([(⟨(([0, 2, 4] : List Int)), (([(⟨bt278.1, bt278.2⟩ : S26), (⟨bt280.1, bt280.2⟩ : S26)] : List (S26)))⟩ : S61), (⟨(([3, 5] : List Int)), (([(⟨bt288.1, bt288.2⟩ : S26)] : List (S26)))⟩ : S61)] : List (S61))), (([(⟨0, 1⟩ : S48), (⟨2, 3⟩ : S48)] : List (S48))), bt299.1, bt299.2)))))))) = some (r1, r2, r3, r4, r5) := H
 have A6 := zh A60
 clear A60
 replace H := Option.bind_eq_some_iff.mp H
 obtain ⟨⟨t268, t269⟩, A70, H⟩ := H
 replace H : ((saronref00_Band.f 300 310).bind fun bt270 => ((saronref00_Band.f 1190 1210).bind fun bt278 => ((saronref00_Band.f 1190 1230).bind fun bt280 => ((saronref00_Band.f 1230 1250).bind fun bt288 => ((saronref00_Band.f 4 7).bind fun bt299 => (some ((([(⟨t260, t261⟩ : S26), (⟨t262, t263⟩ : S26), (⟨t264, t265⟩ : S26), (⟨t266, t267⟩ : S26), (⟨t268, t269⟩ : S26), (⟨bt270.1, bt270.2⟩ : S26)] : List (S26))), (([(⟨(([0, 2, 4] : List Int)), (([(⟨bt278.1, bt278.2⟩ : S26), (⟨bt280.1, bt280.2⟩ : S26)] : List (S26)))⟩ : S61), (⟨(([3, 5] : List Int)), (([(⟨bt288.1, bt288.2⟩ : S26)] : List (S26)))⟩ : S61)] : List (S61))), (([(⟨0, 1⟩ : S48), (⟨2, 3⟩ : S48)] : List (S48))), bt299.1, bt299.2))))))) = some (r1, r2, r3, r4, r5) := H
 have A7 := zh A70
 clear A70
 replace H := Option.bind_eq_some_iff.mp H
 obtain ⟨⟨t270, t271⟩, A80, H⟩ := H
 replace H : ((saronref00_Band.f 1190 1210).bind fun bt278 => ((saronref00_Band.f 1190 1230).bind fun bt280 => ((saronref00_Band.f 1230 1250).bind fun bt288 => ((saronref00_Band.f 4 7).bind fun bt299 => (some ((([(⟨t260, t261⟩ : S26), (⟨t262, t263⟩ : S26), (⟨t264, t265⟩ : S26), (⟨t266, t267⟩ : S26), (⟨t268, t269⟩ : S26), (⟨t270, t271⟩ : S26)] : List (S26))), (([(⟨(([0, 2, 4] : List Int)), (([(⟨bt278.1, bt278.2⟩ : S26), (⟨bt280.1, bt280.2⟩ : S26)] : List (S26)))⟩ : S61), (⟨(([3, 5] : List Int)), (([(⟨bt288.1, bt288.2⟩ : S26)] : List (S26)))⟩ : S61)] : List (S61))), (([(⟨0, 1⟩ : S48), (⟨2, 3⟩ : S48)] : List (S48))), bt299.1, bt299.2)))))) = some (r1, r2, r3, r4, r5) := H
 have A8 := zh A80
 clear A80
 obtain ⟨y272, hy272⟩ : ∃ y_ : List (S26), y_ = (([(⟨t260, t261⟩ : S26), (⟨t262, t263⟩ : S26), (⟨t264, t265⟩ : S26), (⟨t266, t267⟩ : S26), (⟨t268, t269⟩ : S26), (⟨t270, t271⟩ : S26)] : List (S26))) := ⟨_, rfl⟩
 replace H : ((saronref00_Band.f 1190 1210).bind fun bt278 => ((saronref00_Band.f 1190 1230).bind fun bt280 => ((saronref00_Band.f 1230 1250).bind fun bt288 => ((saronref00_Band.f 4 7).bind fun bt299 => (some (y272, (([(⟨(([0, 2, 4] : List Int)), (([(⟨bt278.1, bt278.2⟩ : S26), (⟨bt280.1, bt280.2⟩ : S26)] : List (S26)))⟩ : S61), (⟨(([3, 5] : List Int)), (([(⟨bt288.1, bt288.2⟩ : S26)] : List (S26)))⟩ : S61)] : List (S61))), (([(⟨0, 1⟩ : S48), (⟨2, 3⟩ : S48)] : List (S48))), bt299.1, bt299.2)))))) = some (r1, r2, r3, r4, r5) := by first | (rw [hy272]; with_reducible exact H) | (have H2_ := (Option.bind_some _ _).symm.trans H; rw [hy272]; with_reducible exact H2_) | (have H2_ := (Option.bind_some _ _).symm.trans H; with_reducible exact H2_) | with_reducible exact H | (rw [hy272]; exact H) | exact H
 have Ny272 := zh hy272
 clear hy272
 obtain ⟨y275, hy275⟩ : ∃ y_ : List Int, y_ = (([0, 2, 4] : List Int)) := ⟨_, rfl⟩
 replace H : ((saronref00_Band.f 1190 1210).bind fun bt278 => ((saronref00_Band.f 1190 1230).bind fun bt280 => ((saronref00_Band.f 1230 1250).bind fun bt288 => ((saronref00_Band.f 4 7).bind fun bt299 => (some (y272, (([(⟨y275, (([(⟨bt278.1, bt278.2⟩ : S26), (⟨bt280.1, bt280.2⟩ : S26)] : List (S26)))⟩ : S61), (⟨(([3, 5] : List Int)), (([(⟨bt288.1, bt288.2⟩ : S26)] : List (S26)))⟩ : S61)] : List (S61))), (([(⟨0, 1⟩ : S48), (⟨2, 3⟩ : S48)] : List (S48))), bt299.1, bt299.2)))))) = some (r1, r2, r3, r4, r5) := by first | (rw [hy275]; with_reducible exact H) | (have H2_ := (Option.bind_some _ _).symm.trans H; rw [hy275]; with_reducible exact H2_) | (have H2_ := (Option.bind_some _ _).symm.trans H; with_reducible exact H2_) | with_reducible exact H | (rw [hy275]; exact H) | exact H
 have Ny275 := zh hy275
 clear hy275
 replace H := Option.bind_eq_some_iff.mp H
 obtain ⟨⟨t278, t279⟩, A90, H⟩ := H
 replace H : ((saronref00_Band.f 1190 1230).bind fun bt280 => ((saronref00_Band.f 1230 1250).bind fun bt288 => ((saronref00_Band.f 4 7).bind fun bt299 => (some (y272, (([(⟨y275, (([(⟨t278, t279⟩ : S26), (⟨bt280.1, bt280.2⟩ : S26)] : List (S26)))⟩ : S61), (⟨(([3, 5] : List Int)), (([(⟨bt288.1, bt288.2⟩ : S26)] : List (S26)))⟩ : S61)] : List (S61))), (([(⟨0, 1⟩ : S48), (⟨2, 3⟩ : S48)] : List (S48))), bt299.1, bt299.2))))) = some (r1, r2, r3, r4, r5) := H
 have A9 := zh A90
 clear A90
 replace H := Option.bind_eq_some_iff.mp H
 obtain ⟨⟨t280, t281⟩, A100, H⟩ := H
 replace H : ((saronref00_Band.f 1230 1250).bind fun bt288 => ((saronref00_Band.f 4 7).bind fun bt299 => (some (y272, (([(⟨y275, (([(⟨t278, t279⟩ : S26), (⟨t280, t281⟩ : S26)] : List (S26)))⟩ : S61), (⟨(([3, 5] : List Int)), (([(⟨bt288.1, bt288.2⟩ : S26)] : List (S26)))⟩ : S61)] : List (S61))), (([(⟨0, 1⟩ : S48), (⟨2, 3⟩ : S48)] : List (S48))), bt299.1, bt299.2)))) = some (r1, r2, r3, r4, r5) := H
 have A10 := zh A100
 clear A100
 obtain ⟨y282, hy282⟩ : ∃ y_ : List (S26), y_ = (([(⟨t278, t279⟩ : S26), (⟨t280, t281⟩ : S26)] : List (S26))) := ⟨_, rfl⟩
 replace H : ((saronref00_Band.f 1230 1250).bind fun bt288 => ((saronref00_Band.f 4 7).bind fun bt299 => (some (y272, (([(⟨y275, y282⟩ : S61), (⟨(([3, 5] : List Int)), (([(⟨bt288.1, bt288.2⟩ : S26)] : List (S26)))⟩ : S61)] : List (S61))), (([(⟨0, 1⟩ : S48), (⟨2, 3⟩ : S48)] : List (S48))), bt299.1, bt299.2)))) = some (r1, r2, r3, r4, r5) := by first | (rw [hy282]; with_reducible exact H) | (have H2_ := (Option.bind_some _ _).symm.trans H; rw [hy282]; with_reducible exact H2_) | (have H2_ := (Option.bind_some _ _).symm.trans H; with_reducible exact H2_) | with_reducible exact H | (rw [hy282]; exact H) | exact H
 have Ny282 := zh hy282
 clear hy282
 obtain ⟨y285, hy285⟩ : ∃ y_ : List Int, y_ = (([3, 5] : List Int)) := ⟨_, rfl⟩
 replace H : ((saronref00_Band.f 1230 1250).bind fun bt288 => ((saronref00_Band.f 4 7).bind fun bt299 => (some (y272, (([(⟨y275, y282⟩ : S61), (⟨y285, (([(⟨bt288.1, bt288.2⟩ : S26)] : List (S26)))⟩ : S61)] : List (S61))), (([(⟨0, 1⟩ : S48), (⟨2, 3⟩ : S48)] : List (S48))), bt299.1, bt299.2)))) = some (r1, r2, r3, r4, r5) := by first | (rw [hy285]; with_reducible exact H) | (have H2_ := (Option.bind_some _ _).symm.trans H; rw [hy285]; with_reducible exact H2_) | (have H2_ := (Option.bind_some _ _).symm.trans H; with_reducible exact H2_) | with_reducible exact H | (rw [hy285]; exact H) | exact H
 have Ny285 := zh hy285
 clear hy285
 replace H := Option.bind_eq_some_iff.mp H
 obtain ⟨⟨t288, t289⟩, A110, H⟩ := H
 replace H : ((saronref00_Band.f 4 7).bind fun bt299 => (some (y272, (([(⟨y275, y282⟩ : S61), (⟨y285, (([(⟨t288, t289⟩ : S26)] : List (S26)))⟩ : S61)] : List (S61))), (([(⟨0, 1⟩ : S48), (⟨2, 3⟩ : S48)] : List (S48))), bt299.1, bt299.2))) = some (r1, r2, r3, r4, r5) := H
 have A11 := zh A110
 clear A110
 obtain ⟨y290, hy290⟩ : ∃ y_ : List (S26), y_ = (([(⟨t288, t289⟩ : S26)] : List (S26))) := ⟨_, rfl⟩
 replace H : ((saronref00_Band.f 4 7).bind fun bt299 => (some (y272, (([(⟨y275, y282⟩ : S61), (⟨y285, y290⟩ : S61)] : List (S61))), (([(⟨0, 1⟩ : S48), (⟨2, 3⟩ : S48)] : List (S48))), bt299.1, bt299.2))) = some (r1, r2, r3, r4, r5) := by first | (rw [hy290]; with_reducible exact H) | (have H2_ := (Option.bind_some _ _).symm.trans H; rw [hy290]; with_reducible exact H2_) | (have H2_ := (Option.bind_some _ _).symm.trans H; with_reducible exact H2_) | with_reducible exact H | (rw [hy290]; exact H) | exact H
 have Ny290 := zh hy290
 clear hy290
 obtain ⟨y293, hy293⟩ : ∃ y_ : List (S61), y_ = (([(⟨y275, y282⟩ : S61), (⟨y285, y290⟩ : S61)] : List (S61))) := ⟨_, rfl⟩
 replace H : ((saronref00_Band.f 4 7).bind fun bt299 => (some (y272, y293, (([(⟨0, 1⟩ : S48), (⟨2, 3⟩ : S48)] : List (S48))), bt299.1, bt299.2))) = some (r1, r2, r3, r4, r5) := by first | (rw [hy293]; with_reducible exact H) | (have H2_ := (Option.bind_some _ _).symm.trans H; rw [hy293]; with_reducible exact H2_) | (have H2_ := (Option.bind_some _ _).symm.trans H; with_reducible exact H2_) | with_reducible exact H | (rw [hy293]; exact H) | exact H
 have Ny293 := zh hy293
 clear hy293
 obtain ⟨y296, hy296⟩ : ∃ y_ : List (S48), y_ = (([(⟨0, 1⟩ : S48), (⟨2, 3⟩ : S48)] : List (S48))) := ⟨_, rfl⟩
 replace H : ((saronref00_Band.f 4 7).bind fun bt299 => (some (y272, y293, y296, bt299.1, bt299.2))) = some (r1, r2, r3, r4, r5) := by first | (rw [hy296]; with_reducible exact H) | (have H2_ := (Option.bind_some _ _).symm.trans H; rw [hy296]; with_reducible exact H2_) | (have H2_ := (Option.bind_some _ _).symm.trans H; with_reducible exact H2_) | with_reducible exact H | (rw [hy296]; exact H) | exact H
 have Ny296 := zh hy296
 clear hy296
 replace H := Option.bind_eq_some_iff.mp H
 obtain ⟨⟨t299, t300⟩, A120, H⟩ := H
 replace H : (some (y272, y293, y296, t299, t300)) = some (r1, r2, r3, r4, r5) := H
 have A12 := zh A120
 clear A120
 simp only [Option.some.injEq, Prod.mk.injEq] at H
 obtain ⟨rfl, rfl, rfl, rfl, rfl⟩ := H
 go_enter Tryd.func50, Tryd.ntmps50
 go_wp2_with (first | ((with_reducible refine gate_dst (N := 4) rfl ?_); refine box_event ?hg (N := 4) ?hd (cs := #[.slice none 0 0, .slice none 0 0, .slice none 0 0, .int .i64 0, .int .i64 0]) (t := 28) ?hr ?_; (case hd => rfl); (case hg => rfl); (case hr => first | (go_simp; done) | (go_simp; rfl)); intro gb259 hg w13 hbox hb; have BK259 := zh (hbox); have GW259 := zh ((by rw [hg]; exact (below_size zb) : w.heap.size ≤ gb259)); have GE259 := zh ((by rw [hg]; exact (below_size zb) : w.heap.size ≤ gb259)); replace HB := zh (below_step zb hb); clear hb hbox hg) | ((with_reducible refine gate_callee (f := 42) rfl ?_); refine goesL_ (some 5) rfl rfl Tryd.func42 zk rfl #[.int .i64 200, .int .i64 204] rfl zm ?_; (with_reducible refine (saronref00_Band.calls 200 204 t260 t261 _ A3.out).mono ?_); rintro e w14 ⟨rfl, hb⟩; refine ⟨_, rfl, ?_⟩; replace BK259 := zX BK259 hb; replace HB := zh (below_step zb hb); (try clear hb); (try clear hb2); (try clear hk); (try clear hi)) | ((with_reducible refine gate_callee (f := 42) rfl ?_); refine goesL_ (some 6) rfl rfl Tryd.func42 zk rfl #[.int .i64 206, .int .i64 210] rfl zm ?_; (with_reducible refine (saronref00_Band.calls 206 210 t262 t263 _ A4.out).mono ?_); rintro e w15 ⟨rfl, hb⟩; refine ⟨_, rfl, ?_⟩; replace BK259 := zX BK259 hb; replace HB := zh (below_step zb hb); (try clear hb); (try clear hb2); (try clear hk); (try clear hi)) | ((with_reducible refine gate_callee (f := 42) rfl ?_); refine goesL_ (some 7) rfl rfl Tryd.func42 zk rfl #[.int .i64 240, .int .i64 243] rfl zm ?_; (with_reducible refine (saronref00_Band.calls 240 243 t264 t265 _ A5.out).mono ?_); rintro e w16 ⟨rfl, hb⟩; refine ⟨_, rfl, ?_⟩; replace BK259 := zX BK259 hb; replace HB := zh (below_step zb hb); (try clear hb); (try clear hb2); (try clear hk); (try clear hi)) | ((with_reducible refine gate_callee (f := 42) rfl ?_); refine goesL_ (some 8) rfl rfl Tryd.func42 zk rfl #[.int .i64 246, .int .i64 250] rfl zm ?_; (with_reducible refine (saronref00_Band.calls 246 250 t266 t267 _ A6.out).mono ?_); rintro e w17 ⟨rfl, hb⟩; refine ⟨_, rfl, ?_⟩; replace BK259 := zX BK259 hb; replace HB := zh (below_step zb hb); (try clear hb); (try clear hb2); (try clear hk); (try clear hi)) | ((with_reducible refine gate_callee (f := 42) rfl ?_); refine goesL_ (some 11) rfl rfl Tryd.func42 zk rfl #[.int .i64 a0, .int .i64 a1] rfl zm ?_; (with_reducible refine (saronref00_Band.calls a0 a1 t268 t269 _ A7.out).mono ?_); rintro e w18 ⟨rfl, hb⟩; refine ⟨_, rfl, ?_⟩; replace BK259 := zX BK259 hb; replace HB := zh (below_step zb hb); (try clear hb); (try clear hb2); (try clear hk); (try clear hi)) | ((with_reducible refine gate_callee (f := 42) rfl ?_); refine goesL_ (some 12) rfl rfl Tryd.func42 zk rfl #[.int .i64 300, .int .i64 310] rfl zm ?_; (with_reducible refine (saronref00_Band.calls 300 310 t270 t271 _ A8.out).mono ?_); rintro e w19 ⟨rfl, hb⟩; refine ⟨_, rfl, ?_⟩; replace BK259 := zX BK259 hb; replace HB := zh (below_step zb hb); (try clear hb); (try clear hb2); (try clear hk); (try clear hi)) | ((with_reducible refine gate_dst (N := 13) rfl ?_); refine Kd.R_lit k26 _ 26 ?hg (N := 13) ?hd (xs := ([(⟨t260, t261⟩ : S26), (⟨t262, t263⟩ : S26), (⟨t264, t265⟩ : S26), (⟨t266, t267⟩ : S26), (⟨t268, t269⟩ : S26), (⟨t270, t271⟩ : S26)] : List (S26))) (inner := [.int .i64 t260, .int .i64 t261, .int .i64 t262, .int .i64 t263, .int .i64 t264, .int .i64 t265, .int .i64 t266, .int .i64 t267, .int .i64 t268, .int .i64 t269, .int .i64 t270, .int .i64 t271]) (ok := fun _ => True) (okp := fun _ => True) ?hr ?hp (fun _ hk => hk) trivial (Below.refl _ _) (Nat.le_refl _) (by simp) ?_; (case hd => rfl); (case hg => rfl); (case hr => first | (go_simp; done) | (go_simp; rfl)); (case hp => exact (Reps.c2 (show Kd.M k26 _ _ _ (⟨t260, t261⟩ : S26) [.int .i64 t260, .int .i64 t261] from (k26_mkM _ _ _ (⟨t260, t261⟩ : S26) )) (Reps.c2 (show Kd.M k26 _ _ _ (⟨t262, t263⟩ : S26) [.int .i64 t262, .int .i64 t263] from (k26_mkM _ _ _ (⟨t262, t263⟩ : S26) )) (Reps.c2 (show Kd.M k26 _ _ _ (⟨t264, t265⟩ : S26) [.int .i64 t264, .int .i64 t265] from (k26_mkM _ _ _ (⟨t264, t265⟩ : S26) )) (Reps.c2 (show Kd.M k26 _ _ _ (⟨t266, t267⟩ : S26) [.int .i64 t266, .int .i64 t267] from (k26_mkM _ _ _ (⟨t266, t267⟩ : S26) )) (Reps.c2 (show Kd.M k26 _ _ _ (⟨t268, t269⟩ : S26) [.int .i64 t268, .int .i64 t269] from (k26_mkM _ _ _ (⟨t268, t269⟩ : S26) )) (Reps.c2 (show Kd.M k26 _ _ _ (⟨t270, t271⟩ : S26) [.int .i64 t270, .int .i64 t271] from (k26_mkM _ _ _ (⟨t270, t271⟩ : S26) )) (Reps.none _ _)))))))); intro v273 w20 ho21 hb hg_ hnew_; clear hg_ hnew_; (first | rw [← Ny272.out] at ho21 | (simp only [Int.reduceToNat] at ho21; rw [← Ny272.out] at ho21)); have HO274 := zh (Kd.R_lower (Kd.R_newM (M := fun k_ => (w.heap.size ≤ k_)) ho21 (below_size zb) (fun k_ h_ => h_)) (below_size zb)); replace BK259 := zX BK259 hb; replace HB := zh (below_step zb hb); clear hb ho21) | ((with_reducible refine gate_dst (N := 14) rfl ?_); refine Kd.R_lit (Kd.int .i64) _ 3 ?hg (N := 14) ?hd (xs := ([0, 2, 4] : List Int)) (inner := [.int .i64 0, .int .i64 2, .int .i64 4]) (ok := fun _ => True) (okp := fun _ => True) ?hr ?hp (fun _ hk => hk) trivial (Below.refl _ _) (Nat.le_refl _) (by simp) ?_; (case hd => rfl); (case hg => rfl); (case hr => first | (go_simp; done) | (go_simp; rfl)); (case hp => exact (Reps.one (show Kd.M (Kd.int .i64) _ _ _ 0 [.int .i64 0] from rfl) (Reps.one (show Kd.M (Kd.int .i64) _ _ _ 2 [.int .i64 2] from rfl) (Reps.one (show Kd.M (Kd.int .i64) _ _ _ 4 [.int .i64 4] from rfl) (Reps.none _ _))))); intro v276 w22 ho23 hb hg_ hnew_; clear hg_ hnew_; (first | rw [← Ny275.out] at ho23 | (simp only [Int.reduceToNat] at ho23; rw [← Ny275.out] at ho23)); replace HO274 := zh (Kd.R_below (zR HO274) hb); have HO277 := zh (Kd.R_lower (Kd.R_newM (M := fun k_ => (w.heap.size ≤ k_)) ho23 (below_size zb) (fun k_ h_ => h_)) (below_size zb)); replace BK259 := zX BK259 hb; replace HB := zh (below_step zb hb); clear hb ho23) | ((with_reducible refine gate_callee (f := 42) rfl ?_); refine goesL_ (some 15) rfl rfl Tryd.func42 zk rfl #[.int .i64 1190, .int .i64 1210] rfl zm ?_; (with_reducible refine (saronref00_Band.calls 1190 1210 t278 t279 _ A9.out).mono ?_); rintro e w24 ⟨rfl, hb⟩; refine ⟨_, rfl, ?_⟩; replace HO274 := zh (Kd.R_below (zR HO274) hb); replace HO277 := zh (Kd.R_below (zR HO277) hb); replace BK259 := zX BK259 hb; replace HB := zh (below_step zb hb); (try clear hb); (try clear hb2); (try clear hk); (try clear hi)) | ((with_reducible refine gate_callee (f := 42) rfl ?_); refine goesL_ (some 16) rfl rfl Tryd.func42 zk rfl #[.int .i64 1190, .int .i64 1230] rfl zm ?_; (with_reducible refine (saronref00_Band.calls 1190 1230 t280 t281 _ A10.out).mono ?_); rintro e w25 ⟨rfl, hb⟩; refine ⟨_, rfl, ?_⟩; replace HO274 := zh (Kd.R_below (zR HO274) hb); replace HO277 := zh (Kd.R_below (zR HO277) hb); replace BK259 := zX BK259 hb; replace HB := zh (below_step zb hb); (try clear hb); (try clear hb2); (try clear hk); (try clear hi)) | ((with_reducible refine gate_dst (N := 17) rfl ?_); refine Kd.R_lit k26 _ 26 ?hg (N := 17) ?hd (xs := ([(⟨t278, t279⟩ : S26), (⟨t280, t281⟩ : S26)] : List (S26))) (inner := [.int .i64 t278, .int .i64 t279, .int .i64 t280, .int .i64 t281]) (ok := fun _ => True) (okp := fun _ => True) ?hr ?hp (fun _ hk => hk) trivial (Below.refl _ _) (Nat.le_refl _) (by simp) ?_; (case hd => rfl); (case hg => rfl); (case hr => first | (go_simp; done) | (go_simp; rfl)); (case hp => exact (Reps.c2 (show Kd.M k26 _ _ _ (⟨t278, t279⟩ : S26) [.int .i64 t278, .int .i64 t279] from (k26_mkM _ _ _ (⟨t278, t279⟩ : S26) )) (Reps.c2 (show Kd.M k26 _ _ _ (⟨t280, t281⟩ : S26) [.int .i64 t280, .int .i64 t281] from (k26_mkM _ _ _ (⟨t280, t281⟩ : S26) )) (Reps.none _ _)))); intro v283 w26 ho27 hb hg_ hnew_; clear hg_ hnew_; (first | rw [← Ny282.out] at ho27 | (simp only [Int.reduceToNat] at ho27; rw [← Ny282.out] at ho27)); replace HO277 := zh (Kd.R_below (zR HO277) hb); have HO284 := zh (Kd.R_lower (Kd.R_new' (Kd.R_newM (M := fun k_ => (w.heap.size ≤ k_)) ho27 (below_size zb) (fun k_ h_ => h_)) (Kd.R_lt (zR HO274))) (below_size zb)); replace HO274 := zh (Kd.R_elder' (zR HO274) (Kd.R_base ho27) hb); replace BK259 := zX BK259 hb; replace HB := zh (below_step zb hb); clear hb ho27; obtain ⟨Ao28, co28, eo28⟩ := Kd.R_slice HO284.out; subst eo28; obtain ⟨Ao29, co29, eo29⟩ := Kd.R_slice HO277.out; subst eo29) | ((with_reducible refine gate_dst (N := 19) rfl ?_); refine Kd.R_lit (Kd.int .i64) _ 3 ?hg (N := 19) ?hd (xs := ([3, 5] : List Int)) (inner := [.int .i64 3, .int .i64 5]) (ok := fun _ => True) (okp := fun _ => True) ?hr ?hp (fun _ hk => hk) trivial (Below.refl _ _) (Nat.le_refl _) (by simp) ?_; (case hd => rfl); (case hg => rfl); (case hr => first | (go_simp; done) | (go_simp; rfl)); (case hp => exact (Reps.one (show Kd.M (Kd.int .i64) _ _ _ 3 [.int .i64 3] from rfl) (Reps.one (show Kd.M (Kd.int .i64) _ _ _ 5 [.int .i64 5] from rfl) (Reps.none _ _)))); intro v286 w30 ho31 hb hg_ hnew_; clear hg_ hnew_; (first | rw [← Ny285.out] at ho31 | (simp only [Int.reduceToNat] at ho31; rw [← Ny285.out] at ho31)); replace HO274 := zh (Kd.R_below (zR HO274) hb); replace HO284 := zh (Kd.R_below (zR HO284) hb); have HO287 := zh (Kd.R_lower (Kd.R_new' (Kd.R_newM (M := fun k_ => (w.heap.size ≤ k_)) ho31 (below_size zb) (fun k_ h_ => h_)) (Kd.R_lt (zR HO277))) (below_size zb)); replace HO277 := zh (Kd.R_elder' (zR HO277) (Kd.R_base ho31) hb); replace BK259 := zX BK259 hb; replace HB := zh (below_step zb hb); clear hb ho31) | ((with_reducible refine gate_callee (f := 42) rfl ?_); refine goesL_ (some 20) rfl rfl Tryd.func42 zk rfl #[.int .i64 1230, .int .i64 1250] rfl zm ?_; (with_reducible refine (saronref00_Band.calls 1230 1250 t288 t289 _ A11.out).mono ?_); rintro e w32 ⟨rfl, hb⟩; refine ⟨_, rfl, ?_⟩; replace HO274 := zh (Kd.R_below (zR HO274) hb); replace HO277 := zh (Kd.R_below (zR HO277) hb); replace HO284 := zh (Kd.R_below (zR HO284) hb); replace HO287 := zh (Kd.R_below (zR HO287) hb); replace BK259 := zX BK259 hb; replace HB := zh (below_step zb hb); (try clear hb); (try clear hb2); (try clear hk); (try clear hi)) | ((with_reducible refine gate_dst (N := 21) rfl ?_); refine Kd.R_lit k26 _ 26 ?hg (N := 21) ?hd (xs := ([(⟨t288, t289⟩ : S26)] : List (S26))) (inner := [.int .i64 t288, .int .i64 t289]) (ok := fun _ => True) (okp := fun _ => True) ?hr ?hp (fun _ hk => hk) trivial (Below.refl _ _) (Nat.le_refl _) (by simp) ?_; (case hd => rfl); (case hg => rfl); (case hr => first | (go_simp; done) | (go_simp; rfl)); (case hp => exact (Reps.c2 (show Kd.M k26 _ _ _ (⟨t288, t289⟩ : S26) [.int .i64 t288, .int .i64 t289] from (k26_mkM _ _ _ (⟨t288, t289⟩ : S26) )) (Reps.none _ _))); intro v291 w33 ho34 hb hg_ hnew_; clear hg_ hnew_; (first | rw [← Ny290.out] at ho34 | (simp only [Int.reduceToNat] at ho34; rw [← Ny290.out] at ho34)); replace HO277 := zh (Kd.R_below (zR HO277) hb); replace HO287 := zh (Kd.R_below (zR HO287) hb); have HO292 := zh (Kd.R_lower (Kd.R_new' (Kd.R_new' (Kd.R_newM (M := fun k_ => (w.heap.size ≤ k_)) ho34 (below_size zb) (fun k_ h_ => h_)) (Kd.R_lt (zR HO274))) (Kd.R_lt (zR HO284))) (below_size zb)); replace HO274 := zh (Kd.R_elder' (zR HO274) (Kd.R_base ho34) hb); replace HO284 := zh (Kd.R_elder' (zR HO284) (Kd.R_base ho34) hb); replace BK259 := zX BK259 hb; replace HB := zh (below_step zb hb); clear hb ho34; obtain ⟨Ao35, co35, eo35⟩ := Kd.R_slice HO292.out; subst eo35; obtain ⟨Ao36, co36, eo36⟩ := Kd.R_slice HO287.out; subst eo36) | ((with_reducible refine gate_dst (N := 23) rfl ?_); refine Kd.N_lit k61 _ 61 ?hg (N' := 23) ?hd (xs := ([(⟨y275, y282⟩ : S61), (⟨y285, y290⟩ : S61)] : List (S61))) (inner := [.slice Ao29 y275.length co29, .slice Ao28 y282.length co28, .slice Ao36 y285.length co36, .slice Ao35 y290.length co35]) (ok := (fun k_ => (w.heap.size ≤ k_) ∧ some k_ ≠ (v273 : Value).ownBlock ∧ k_ ≠ gb259)) (okp := (fun k_ => (w.heap.size ≤ k_) ∧ some k_ ≠ (v273 : Value).ownBlock ∧ k_ ≠ gb259)) ?hr ?hp (fun _ hk => hk) ((show ∀ k_, w33.heap.size ≤ k_ → (fun k_ => (w.heap.size ≤ k_) ∧ some k_ ≠ (v273 : Value).ownBlock ∧ k_ ≠ gb259) k_ from fun k_ hk => ⟨(Nat.le_trans (below_size zb) hk), Kd.fresh' (Kd.R_lt (zR HO274)) k_ hk, Kd.freshB (g := gb259) (o := .cells #[.slice none 0 0, .slice none 0 0, .slice none 0 0, .int .i64 0, .int .i64 0] 28 (0, 0)) (zc BK259) k_ hk⟩) _ (Nat.le_refl _)) (Below.refl _ _) (Nat.le_refl _) (by simp) ?_; (case hd => rfl); (case hg => rfl); (case hr => first | (go_simp; done) | (go_simp; rfl)); (case hp => exact (Reps.c2 (show Kd.FK k61 _ _ (⟨y275, y282⟩ : S61) [.slice Ao29 y275.length co29, .slice Ao28 y282.length co28] from (k61_mkF _ _ (⟨y275, y282⟩ : S61) (Kd.R_reads' (Kd.R_mono (ok' := (fun k_ => (w.heap.size ≤ k_) ∧ some k_ ≠ (v273 : Value).ownBlock ∧ k_ ≠ gb259)) (Kd.R_types (Kd.R_apart' (HO277.out) (Kd.R_typed HO274.out) (by decide)) BK259.out (by decide)) (fun k_ hk => ⟨hk.1.1.1.1, ⟨hk.1.2, hk.2⟩⟩))).2.1 (Kd.R_F (Kd.R_mono (ok' := (fun k_ => (w.heap.size ≤ k_) ∧ some k_ ≠ (v273 : Value).ownBlock ∧ k_ ≠ gb259)) (Kd.R_types (Kd.R_apart' (HO277.out) (Kd.R_typed HO274.out) (by decide)) BK259.out (by decide)) (fun k_ hk => ⟨hk.1.1.1.1, ⟨hk.1.2, hk.2⟩⟩))) (Kd.R_reads' (Kd.R_mono (ok' := (fun k_ => (w.heap.size ≤ k_) ∧ some k_ ≠ (v273 : Value).ownBlock ∧ k_ ≠ gb259)) (Kd.R_types (HO284.out) BK259.out (by decide)) (fun k_ hk => ⟨hk.1.1.1.1, ⟨hk.1.1.2, hk.2⟩⟩))).2.1 (Kd.R_F (Kd.R_mono (ok' := (fun k_ => (w.heap.size ≤ k_) ∧ some k_ ≠ (v273 : Value).ownBlock ∧ k_ ≠ gb259)) (Kd.R_types (HO284.out) BK259.out (by decide)) (fun k_ hk => ⟨hk.1.1.1.1, ⟨hk.1.1.2, hk.2⟩⟩))))) (Reps.c2 (show Kd.FK k61 _ _ (⟨y285, y290⟩ : S61) [.slice Ao36 y285.length co36, .slice Ao35 y290.length co35] from (k61_mkF _ _ (⟨y285, y290⟩ : S61) (Kd.R_reads' (Kd.R_mono (ok' := (fun k_ => (w.heap.size ≤ k_) ∧ some k_ ≠ (v273 : Value).ownBlock ∧ k_ ≠ gb259)) (Kd.R_types (Kd.R_apart' (HO287.out) (Kd.R_typed HO274.out) (by decide)) BK259.out (by decide)) (fun k_ hk => ⟨hk.1.1.1.1, ⟨hk.1.2, hk.2⟩⟩))).2.1 (Kd.R_F (Kd.R_mono (ok' := (fun k_ => (w.heap.size ≤ k_) ∧ some k_ ≠ (v273 : Value).ownBlock ∧ k_ ≠ gb259)) (Kd.R_types (Kd.R_apart' (HO287.out) (Kd.R_typed HO274.out) (by decide)) BK259.out (by decide)) (fun k_ hk => ⟨hk.1.1.1.1, ⟨hk.1.2, hk.2⟩⟩))) (Kd.R_reads' (Kd.R_mono (ok' := (fun k_ => (w.heap.size ≤ k_) ∧ some k_ ≠ (v273 : Value).ownBlock ∧ k_ ≠ gb259)) (Kd.R_types (HO292.out) BK259.out (by decide)) (fun k_ hk => ⟨hk.1.1.1.1, ⟨hk.1.1.2, hk.2⟩⟩))).2.1 (Kd.R_F (Kd.R_mono (ok' := (fun k_ => (w.heap.size ≤ k_) ∧ some k_ ≠ (v273 : Value).ownBlock ∧ k_ ≠ gb259)) (Kd.R_types (HO292.out) BK259.out (by decide)) (fun k_ hk => ⟨hk.1.1.1.1, ⟨hk.1.1.2, hk.2⟩⟩))))) (Reps.none _ _)))); intro v294 w37 ho38 hb hg_ hnew_; clear hg_ hnew_; (first | rw [← Ny293.out] at ho38 | (simp only [Int.reduceToNat] at ho38; rw [← Ny293.out] at ho38)); replace HO274 := zh (Kd.R_below (zR HO274) hb); have HO295 := zh (Kd.N_lower ho38 (below_size zb)); replace BK259 := zX BK259 hb; replace HB := zh (below_step zb hb); clear HO277; clear HO284; clear HO287; clear HO292; clear hb ho38) | ((with_reducible refine gate_dst (N := 26) rfl ?_); refine Kd.R_lit k48 _ 48 ?hg (N := 26) ?hd (xs := ([(⟨0, 1⟩ : S48), (⟨2, 3⟩ : S48)] : List (S48))) (inner := [.int .i64 0, .int .i64 1, .int .i64 2, .int .i64 3]) (ok := fun _ => True) (okp := fun _ => True) ?hr ?hp (fun _ hk => hk) trivial (Below.refl _ _) (Nat.le_refl _) (by simp) ?_; (case hd => rfl); (case hg => rfl); (case hr => first | (go_simp; done) | (go_simp; rfl)); (case hp => exact (Reps.c2 (show Kd.M k48 _ _ _ (⟨0, 1⟩ : S48) [.int .i64 0, .int .i64 1] from (k48_mkM _ _ _ (⟨0, 1⟩ : S48) )) (Reps.c2 (show Kd.M k48 _ _ _ (⟨2, 3⟩ : S48) [.int .i64 2, .int .i64 3] from (k48_mkM _ _ _ (⟨2, 3⟩ : S48) )) (Reps.none _ _)))); intro v297 w39 ho40 hb hg_ hnew_; clear hg_ hnew_; (first | rw [← Ny296.out] at ho40 | (simp only [Int.reduceToNat] at ho40; rw [← Ny296.out] at ho40)); replace HO274 := zh (Kd.R_below (zR HO274) hb); replace HO295 := zh (Kd.N_elder' (zN HO295) (Kd.R_base ho40) hb); have HO298 := zh (Kd.R_lower (Kd.R_newM (M := fun k_ => (w.heap.size ≤ k_)) ho40 (below_size zb) (fun k_ h_ => h_)) (below_size zb)); replace BK259 := zX BK259 hb; replace HB := zh (below_step zb hb); clear hb ho40) | ((with_reducible refine gate_callee (f := 42) rfl ?_); refine goesL_ (some 27) rfl rfl Tryd.func42 zk rfl #[.int .i64 4, .int .i64 7] rfl zm ?_; (with_reducible refine (saronref00_Band.calls 4 7 t299 t300 _ A12.out).mono ?_); rintro e w41 ⟨rfl, hb⟩; refine ⟨_, rfl, ?_⟩; replace HO274 := zh (Kd.R_below (zR HO274) hb); replace HO295 := zh (Kd.N_below (zN HO295) hb); replace HO298 := zh (Kd.R_below (zR HO298) hb); replace BK259 := zX BK259 hb; replace HB := zh (below_step zb hb); (try clear hb); (try clear hb2); (try clear hk); (try clear hi); obtain ⟨Ao42, co42, eo42⟩ := Kd.R_slice HO298.out; subst eo42; obtain ⟨Ao43, co43, eo43⟩ := Kd.N_slice HO295.out; subst eo43; obtain ⟨Ao44, co44, eo44⟩ := Kd.R_slice HO274.out; subst eo44; obtain ⟨hcz45_0, hcz45_1, hcz45_2, hcz45_3, hcz45_4⟩ := zC5 BK259.out; obtain ⟨hfz45_0, hfz45_1, hfz45_2, hfz45_3, hfz45_4⟩ := zF5 BK259.out))
 refine bodyPost_ret (results_cell_row rfl _ _ gb259 28 #[.slice Ao44 y272.length co44, .slice Ao43 y293.length co43, .slice Ao42 y296.length co42, .int .i64 t299, .int .i64 t300] (0, 0) _ rfl (by (with_reducible repeat (first | refine blk_drewN ?_ _ | refine blk_drew ?_ | refine blk_alloc ?_ _)); refine blk_put (cs := #[.slice Ao44 y272.length co44, .slice Ao43 y293.length co43, .slice Ao42 y296.length co42, .int .i64 t299, .int .i64 0]) ?_ 4 _ rfl; (with_reducible repeat (first | refine blk_drewN ?_ _ | refine blk_drew ?_ | refine blk_alloc ?_ _)); refine blk_put (cs := #[.slice Ao44 y272.length co44, .slice Ao43 y293.length co43, .slice Ao42 y296.length co42, .int .i64 0, .int .i64 0]) ?_ 3 _ rfl; (with_reducible repeat (first | refine blk_drewN ?_ _ | refine blk_drew ?_ | refine blk_alloc ?_ _)); refine blk_put (cs := #[.slice Ao44 y272.length co44, .slice Ao43 y293.length co43, .slice none 0 0, .int .i64 0, .int .i64 0]) ?_ 2 _ rfl; (with_reducible repeat (first | refine blk_drewN ?_ _ | refine blk_drew ?_ | refine blk_alloc ?_ _)); refine blk_put (cs := #[.slice Ao44 y272.length co44, .slice none 0 0, .slice none 0 0, .int .i64 0, .int .i64 0]) ?_ 1 _ rfl; (with_reducible repeat (first | refine blk_drewN ?_ _ | refine blk_drew ?_ | refine blk_alloc ?_ _)); refine blk_put (cs := #[.slice none 0 0, .slice none 0 0, .slice none 0 0, .int .i64 0, .int .i64 0]) ?_ 0 _ rfl; (with_reducible repeat (first | refine blk_drewN ?_ _ | refine blk_drew ?_ | refine blk_alloc ?_ _)); exact BK259.out) Tryd.underlying28 rfl zk) rfl ?_
 exact ⟨_, _, _, zf, by (with_reducible repeat (first | apply Kd.R_alloc | apply Kd.R_drewN | apply Kd.R_drew)); exact Kd.R_mono (Kd.R_far (p := ⟨gb259, 4, none⟩) (Kd.R_far (p := ⟨gb259, 3, none⟩) (Kd.R_far (p := ⟨gb259, 2, none⟩) (Kd.R_far (p := ⟨gb259, 1, none⟩) (Kd.R_far (p := ⟨gb259, 0, none⟩) (Kd.R_types HO274.out BK259.out (by decide)) (fun _ hk => hk.2) (.slice Ao44 y272.length co44)) (fun _ hk => hk.2) (.slice Ao43 y293.length co43)) (fun _ hk => hk.2) (.slice Ao42 y296.length co42)) (fun _ hk => hk.2) (.int .i64 t299)) (fun _ hk => hk.2) (.int .i64 t300)) (fun _ hk => hk.1.1.1.1), by (with_reducible repeat (first | apply Kd.N_alloc | apply Kd.N_drewN | apply Kd.N_drew)); exact Kd.N_mono (Kd.N_far (p := ⟨gb259, 4, none⟩) (Kd.N_far (p := ⟨gb259, 3, none⟩) (Kd.N_far (p := ⟨gb259, 2, none⟩) (Kd.N_far (p := ⟨gb259, 1, none⟩) (Kd.N_far (p := ⟨gb259, 0, none⟩) (Kd.N_mono HO295.out (fun k_ hk => (⟨hk, hk.1.2.2⟩ : _ ∧ k_ ≠ gb259))) (fun _ hk => hk.2) (.slice Ao44 y272.length co44)) (fun _ hk => hk.2) (.slice Ao43 y293.length co43)) (fun _ hk => hk.2) (.slice Ao42 y296.length co42)) (fun _ hk => hk.2) (.int .i64 t299)) (fun _ hk => hk.2) (.int .i64 t300)) (fun _ hk => ⟨hk.1.1.1, ⟨hk.1.1.2.1, hk.1.2⟩⟩), by (with_reducible repeat (first | apply Kd.R_alloc | apply Kd.R_drewN | apply Kd.R_drew)); exact Kd.R_mono (Kd.R_far (p := ⟨gb259, 4, none⟩) (Kd.R_far (p := ⟨gb259, 3, none⟩) (Kd.R_far (p := ⟨gb259, 2, none⟩) (Kd.R_far (p := ⟨gb259, 1, none⟩) (Kd.R_far (p := ⟨gb259, 0, none⟩) (Kd.R_types HO298.out BK259.out (by decide)) (fun _ hk => hk.2) (.slice Ao44 y272.length co44)) (fun _ hk => hk.2) (.slice Ao43 y293.length co43)) (fun _ hk => hk.2) (.slice Ao42 y296.length co42)) (fun _ hk => hk.2) (.int .i64 t299)) (fun _ hk => hk.2) (.int .i64 t300)) (fun _ hk => hk.1.1), zb⟩
end Go.Proofs.YtgehkojccmkggaaDoor.H
end
section
namespace Go.Proofs.YtgehkojccmkggaaDoor.K
open Go.RowKit Go.Shelf Go.Proofs.YtgehkojccmkggaaDoorW.PrintWords Go.Proofs.YtgehkojccmkggaaDoorW.PrintLast Go.Proofs.YtgehkojccmkggaaDoorW.PrintMore Go.Proofs.YtgehkojccmkggaaDoor.H Tune
set_option linter.unusedVariables false
set_option linter.unusedSimpArgs false
attribute [local go_sem] Oper.semAt_some
def BSet (lo hi : Int) (W : World) (A0 : Option Addr) (c0 : Nat) (A1 : Option Addr) (c1 : Nat) (A2 : Option Addr) (c2 : Nat) : Prop := Kd.C k26 W A0 6 (bH lo hi) ∧ 6 ≤ c0 ∧ Kd.C k61 W A1 2 bS ∧ 2 ≤ c1 ∧ Kd.C k48 W A2 2 bP ∧ 2 ≤ c2
theorem BSet.alloc {lo hi : Int} {W : World} {A0 : Option Addr} {c0 : Nat} {A1 : Option Addr} {c1 : Nat} {A2 : Option Addr} {c2 : Nat} (h : BSet lo hi W A0 c0 A1 c1 A2 c2) (o : Obj) : BSet lo hi (W.alloc o) A0 c0 A1 c1 A2 c2 :=
 ⟨Kd.C_alloc h.1 o, h.2.1, Kd.C_alloc h.2.2.1 o, h.2.2.2.1, Kd.C_alloc h.2.2.2.2.1 o, h.2.2.2.2.2⟩
theorem bz_calls (lo hi : Int) (w : World) : Calls Tryd.prog 50 #[.int .i64 lo, .int .i64 hi] w fun e w' => ∃ A0 c0 A1 c1 A2 c2, e = .returned (.agg #[.slice A0 6 c0, .slice A1 2 c1, .slice A2 2 c2, .int .i64 4, .int .i64 7]) ∧ BSet lo hi w' A0 c0 A1 c1 A2 c2 ∧ Below w.heap.size w w' := by
 refine (saronlaw01_bronze.calls lo hi (bH lo hi) bS bP 4 7 w rfl).mono ?_
 rintro e w' ⟨v0, v1, v2, rfl, h0, h1, h2, hb⟩
 obtain ⟨A0, c0, rfl, hc0, g0⟩ := Kd.R_reads h0
 obtain ⟨A1, c1, rfl, hc1, g1⟩ := Kd.N_reads h1
 obtain ⟨A2, c2, rfl, hc2, g2⟩ := Kd.R_reads h2
 exact ⟨A0, c0, A1, c1, A2, c2, rfl, ⟨g0, hc0, g1, hc1, g2, hc2⟩, hb⟩
theorem sm1 (lo hi : Int) : small (bH lo hi) bS bP = true := rfl
theorem c_is (W : World) (A0 : Option Addr) (c0 : Nat) (A1 : Option Addr) (c1 : Nat) (A2 : Option Addr) (c2 : Nat) (hB : BSet 290 296 W A0 c0 A1 c1 A2 c2) (hG : Glob W) (g : Nat) (hg : W.heap[g]? = some (.cells (is_ [202, 206, 242, 246, 292, 305]) 3 (0, 0))) :
  Calls Tryd.prog 16 #[.agg #[.slice A0 6 c0, .slice A1 2 c1, .slice A2 2 c2, .int .i64 4, .int .i64 7], .slice (some ⟨g, 0, none⟩) 6 6] W fun e w' => e = .returned (.tuple #[.bool true, .int .i64 0]) ∧ Below W.heap.size W w' := by
 obtain ⟨h0, hc0, h1, hc1, h2, hc2⟩ := hB
 exact tune_IsTuning.calls A0 c0 (bH 290 296) A1 c1 bS A2 c2 bP 4 7 (some ⟨g, 0, none⟩) 6 [202, 206, 242, 246, 292, 305] true 0 W h0 hc0 h1 hc1 h2 hc2 (C_is hg (by decide)) (Nat.le_refl _) hG (by unfold tune_IsTuning.f; rw [if_pos (sm1 _ _), pl_is, pl_check])
theorem c_pitch (W : World) (A0 : Option Addr) (c0 : Nat) (A1 : Option Addr) (c1 : Nat) (A2 : Option Addr) (c2 : Nat) (hB : BSet 290 296 W A0 c0 A1 c1 A2 c2) (hG : Glob W) :
  Calls Tryd.prog 23 #[.agg #[.slice A0 6 c0, .slice A1 2 c1, .slice A2 2 c2, .int .i64 4, .int .i64 7], .int .i64 5] W fun e w' => e = .returned (.tuple #[.agg #[.int .i64 303, .int .i64 310], .int .i64 0]) ∧ Below W.heap.size W w' := by
 obtain ⟨h0, hc0, h1, hc1, h2, hc2⟩ := hB
 exact tune_Pitch.calls A0 c0 (bH 290 296) A1 c1 bS A2 c2 bP 4 7 5 303 310 0 W h0 hc0 h1 hc1 h2 hc2 hG (by unfold tune_Pitch.f; rw [if_pos (sm1 _ _), pl_pitch, show inK (bH 290 296).length 5 = true from rfl, pl_asked])
theorem c_can (W : World) (A0 : Option Addr) (c0 : Nat) (A1 : Option Addr) (c1 : Nat) (A2 : Option Addr) (c2 : Nat) (hB : BSet 290 296 W A0 c0 A1 c1 A2 c2) (hG : Glob W) :
  Calls Tryd.prog 25 #[.agg #[.slice A0 6 c0, .slice A1 2 c1, .slice A2 2 c2, .int .i64 4, .int .i64 7], .int .i64 5, .int .i64 303] W fun e w' => e = .returned (.tuple #[.bool true, .int .i64 0]) ∧ Below W.heap.size W w' := by
 obtain ⟨h0, hc0, h1, hc1, h2, hc2⟩ := hB
 exact tune_Can.calls A0 c0 (bH 290 296) A1 c1 bS A2 c2 bP 4 7 5 303 true 0 W h0 hc0 h1 hc1 h2 hc2 hG (by unfold tune_Can.f; rw [if_pos (sm1 _ _), pl_can, show inK (bH 290 296).length 5 = true from rfl, pl_asked])
theorem c_apart (W : World) (A0 : Option Addr) (c0 : Nat) (A1 : Option Addr) (c1 : Nat) (A2 : Option Addr) (c2 : Nat) (hB : BSet 290 296 W A0 c0 A1 c1 A2 c2) (hG : Glob W) :
  Calls Tryd.prog 27 #[.agg #[.slice A0 6 c0, .slice A1 2 c1, .slice A2 2 c2, .int .i64 4, .int .i64 7], .int .i64 0, .int .i64 2] W fun e w' => e = .returned (.tuple #[.agg #[.int .i64 39, .int .i64 42], .int .i64 0]) ∧ Below W.heap.size W w' := by
 obtain ⟨h0, hc0, h1, hc1, h2, hc2⟩ := hB
 exact tune_Apart.calls A0 c0 (bH 290 296) A1 c1 bS A2 c2 bP 4 7 0 2 39 42 0 W h0 hc0 h1 hc1 h2 hc2 hG (by unfold tune_Apart.f; rw [if_pos (sm1 _ _), pl_apart]; unfold apartE; rw [show (inK (bH 290 296).length 0 && inK (bH 290 296).length 2) = true from rfl, pl_asked])
theorem c_even (W : World) (A0 : Option Addr) (c0 : Nat) (A1 : Option Addr) (c1 : Nat) (A2 : Option Addr) (c2 : Nat) (hB : BSet 290 296 W A0 c0 A1 c1 A2 c2) (hG : Glob W) :
  Calls Tryd.prog 29 #[.agg #[.slice A0 6 c0, .slice A1 2 c1, .slice A2 2 c2, .int .i64 4, .int .i64 7]] W fun e w' => e = .returned (.tuple #[.agg #[.int .i64 4, .int .i64 4], .int .i64 0]) ∧ Below W.heap.size W w' := by
 obtain ⟨h0, hc0, h1, hc1, h2, hc2⟩ := hB
 exact tune_Even.calls A0 c0 (bH 290 296) A1 c1 bS A2 c2 bP 4 7 4 4 0 W h0 hc0 h1 hc1 h2 hc2 hG (by unfold tune_Even.f; rw [if_pos (sm1 _ _), pl_even]; unfold evenE; rw [pl_check, pl_asked]; rfl)
theorem c_wrong (W : World) (A0 : Option Addr) (c0 : Nat) (A1 : Option Addr) (c1 : Nat) (A2 : Option Addr) (c2 : Nat) (hB : BSet 300 301 W A0 c0 A1 c1 A2 c2) (hG : Glob W) :
  Calls Tryd.prog 33 #[.agg #[.slice A0 6 c0, .slice A1 2 c1, .slice A2 2 c2, .int .i64 4, .int .i64 7]] W fun e w' => ∃ v, e = .returned (.tuple #[v, .int .i64 0]) ∧ Kd.V (Kd.int .i64) 3 w' W.heap.size (fun k_ => W.heap.size ≤ k_) v [2] ∧ Below W.heap.size W w' := by
 obtain ⟨h0, hc0, h1, hc1, h2, hc2⟩ := hB
 exact tune_Wrong.calls A0 c0 (bH 300 301) A1 c1 bS A2 c2 bP 4 7 [2] 0 W h0 hc0 h1 hc1 h2 hc2 hG (by unfold tune_Wrong.f; rw [if_pos (sm1 _ _), pl_wrong, pl_check2])
theorem pl_tunL : (tuningL (bH 290 296) bS bP 4 7).length = 6 := by
 unfold tuningL
 rw [if_pos pl_asked]
 obtain ⟨hck, _, hT⟩ := askedE_ok pl_asked
 obtain ⟨F, _⟩ := fine_of hck
 obtain ⟨h1, h2⟩ := tunL_spec F noLeft (4, 7) []
 cases ht : tunL (bH 290 296) (jsOf (bH 290 296) bS bP 4 7) noLeft (4, 7) [] with
 | none => rw [h1 ht] at hT; cases hT
 | some l => exact (h2 l ht).2.1
theorem c_tuning (W : World) (A0 : Option Addr) (c0 : Nat) (A1 : Option Addr) (c1 : Nat) (A2 : Option Addr) (c2 : Nat) (hB : BSet 290 296 W A0 c0 A1 c1 A2 c2) (hG : Glob W) :
  Calls Tryd.prog 20 #[.agg #[.slice A0 6 c0, .slice A1 2 c1, .slice A2 2 c2, .int .i64 4, .int .i64 7]] W fun e w' => ∃ v L, e = .returned (.tuple #[v, .int .i64 0]) ∧ Kd.V (Kd.int .i64) 3 w' W.heap.size (fun k_ => W.heap.size ≤ k_) v L ∧ L.length = 6 ∧ Below W.heap.size W w' := by
 obtain ⟨h0, hc0, h1, hc1, h2, hc2⟩ := hB
 refine (tune_Tuning.calls A0 c0 (bH 290 296) A1 c1 bS A2 c2 bP 4 7 (tuningL (bH 290 296) bS bP 4 7) 0 W h0 hc0 h1 hc1 h2 hc2 hG (by unfold tune_Tuning.f; rw [if_pos (sm1 _ _), pl_asked])).mono ?_
 rintro e w' ⟨v, rfl, hv, hb⟩
 exact ⟨v, _, rfl, hv, pl_tunL, hb⟩
theorem C26_two {w : World} {g : Nat} (a0 a1 b0 b1 : Int) (h : w.heap[g]? = some (.cells #[.int .i64 a0, .int .i64 a1, .int .i64 b0, .int .i64 b1] 26 (0, 0))) : Kd.C k26 w (some ⟨g, 0, none⟩) 2 [⟨a0, a1⟩, ⟨b0, b1⟩] := by
 refine ⟨rfl, by decide, fun _ => ⟨_, rfl, fun j p hj => ⟨[.int .i64 p.f0, .int .i64 p.f1], rfl, k26_mk w p, fun i u hi => ?_⟩⟩⟩
 have hi2 : i < 2 := (List.getElem?_eq_some_iff.1 hi).1
 have hj2 : j < 2 := (List.getElem?_eq_some_iff.1 hj).1
 have hc := fun k => blk_cell h k
 have hsz : k26.sz = 2 := rfl
 obtain rfl | rfl : j = 0 ∨ j = 1 := by omega
 ·obtain rfl : (⟨a0, a1⟩ : S26) = p := by simpa using hj
  obtain rfl | rfl : i = 0 ∨ i = 1 := by omega
  ·obtain rfl : Value.int .i64 a0 = u := by simpa using hi
   simpa [hsz, Addr.add] using hc 0
  ·obtain rfl : Value.int .i64 a1 = u := by simpa using hi
   simpa [hsz, Addr.add] using hc 1
 ·obtain rfl : (⟨b0, b1⟩ : S26) = p := by simpa using hj
  obtain rfl | rfl : i = 0 ∨ i = 1 := by omega
  ·obtain rfl : Value.int .i64 b0 = u := by simpa using hi
   simpa [hsz, Addr.add] using hc 2
  ·obtain rfl : Value.int .i64 b1 = u := by simpa using hi
   simpa [hsz, Addr.add] using hc 3
theorem C48_one {w : World} {g : Nat} (a0 a1 : Int) (h : w.heap[g]? = some (.cells #[.int .i64 a0, .int .i64 a1] 48 (0, 0))) : Kd.C k48 w (some ⟨g, 0, none⟩) 1 [⟨a0, a1⟩] := by
 refine ⟨rfl, by decide, fun _ => ⟨_, rfl, fun j p hj => ⟨[.int .i64 p.f0, .int .i64 p.f1], rfl, k48_mk w p, fun i u hi => ?_⟩⟩⟩
 have hi2 : i < 2 := (List.getElem?_eq_some_iff.1 hi).1
 have hj2 : j < 1 := (List.getElem?_eq_some_iff.1 hj).1
 have hc := fun k => blk_cell h k
 have hsz : k48.sz = 2 := rfl
 obtain rfl : j = 0 := by omega
 obtain rfl : (⟨a0, a1⟩ : S48) = p := by simpa using hj
 obtain rfl | rfl : i = 0 ∨ i = 1 := by omega
 ·obtain rfl : Value.int .i64 a0 = u := by simpa using hi
  simpa [hsz, Addr.add] using hc 0
 ·obtain rfl : Value.int .i64 a1 = u := by simpa using hi
  simpa [hsz, Addr.add] using hc 1
theorem c_sure (W : World) (g1 g2 : Nat) (h1 : W.heap[g1]? = some (.cells #[.int .i64 5, .int .i64 6, .int .i64 8, .int .i64 9] 26 (0, 0))) (h2 : W.heap[g2]? = some (.cells #[.int .i64 0, .int .i64 1] 48 (0, 0))) (hG : Glob W) :
  Calls Tryd.prog 31 #[.agg #[.slice (some ⟨g1, 0, none⟩) 2 2, .slice none 0 0, .slice (some ⟨g2, 0, none⟩) 1 1, .int .i64 2, .int .i64 4]] W fun e w' => e = .returned (.tuple #[.bool true, .int .i64 0]) ∧ Below W.heap.size W w' :=
 tune_Sure.calls (some ⟨g1, 0, none⟩) 2 [⟨5, 6⟩, ⟨8, 9⟩] none 0 [] (some ⟨g2, 0, none⟩) 1 [⟨0, 1⟩] 2 4 true 0 W (C26_two _ _ _ _ h1) (Nat.le_refl _) (Kd.C_nil _ _) (Nat.le_refl _) (C48_one _ _ h2) (Nat.le_refl _) hG (by unfold tune_Sure.f; rw [if_pos (show small _ _ _ = true from rfl), pl_sure]; rfl)
def fPlay.T5 : Bool × List (List Nat × List Nat) := (true, [([], []), ([0], [0]), ([1], [1]), ([2], [2]), ([3, 2], [2, 3]), ([2, 4], [2, 4]), ([5, 2], [5]), ([6], [6]), ([7, 6], [6, 7]), ([6, 8], [6, 8]), ([9, 6], [9]), ([10], [10]), ([11, 10], [10, 11]), ([10, 12], [10, 12]), ([13, 10], [13]), ([14], [14]), ([15, 14], [14, 15]), ([14, 16], [14, 16]), ([17, 14], [17]), ([18], [18]), ([18, 18], [18]), ([19, 20, 18], [18, 19, 20]), ([18, 21], [18, 21]), ([22, 20], [22]), ([23], [23]), ([24, 23], [23, 24]), ([23, 25], [23, 25]), ([26, 23], [26]), ([27], [27]), ([27, 27], [27]), ([28, 29, 27], [27, 28, 29]), ([27, 30], [27, 30])])
def fPlay.B5 : List Nat := [0, 1, 3, 7, 15, 31, 63, 127, 255, 511, 1023, 2047, 4095, 8191, 16383, 32767, 65535, 131071, 262143, 524287, 524287, 2097151, 4194303, 8388607, 16777215, 33554431, 67108863, 134217727, 268435455, 268435455, 1073741823, 2147483647]
theorem fPlay.tab5 : rtab .any (opsOf Tryd.f22 5) = fPlay.T5 := by kernel_rfl
theorem fPlay.bits5 : waitsOk fPlay.T5.2 fPlay.B5 = true := by kernel_rfl
def fPlay.T11 : Bool × List (List Nat × List Nat) := (true, [([], []), ([0], [0]), ([1], [1]), ([2], [2]), ([3, 2], [2, 3]), ([2, 4], [2, 4]), ([5, 2], [5]), ([6], [6]), ([7, 6], [6, 7]), ([6, 8], [6, 8]), ([9, 6], [9]), ([10], [10]), ([11, 10], [10, 11]), ([10, 12], [10, 12]), ([13, 10], [13]), ([14], [14]), ([14, 14], [14]), ([15, 16, 14], [14, 15, 16]), ([14, 17], [14, 17]), ([18, 16], [18]), ([19], [19]), ([19], [19]), ([20, 21, 19, 19], [19, 20, 21]), ([19, 22], [19, 22]), ([23, 22], [23]), ([24], [24]), ([25, 24], [24, 25]), ([26, 24], [24, 26]), ([24, 27], [24, 27]), ([28, 24], [28]), ([29], [29]), ([29, 30], [29, 30]), ([31, 29, 0, 1, 2, 3, 4, 5, 6, 7, 8, 9, 10, 11, 12, 13, 14, 15, 16, 17, 18, 19, 20, 21, 22, 23, 24, 25, 26, 27, 28, 29, 30, 31], [31])])
def fPlay.B11 : List Nat := [0, 1, 3, 7, 15, 31, 63, 127, 255, 511, 1023, 2047, 4095, 8191, 16383, 32767, 32767, 131071, 262143, 524287, 1048575, 1048575, 4194303, 8388607, 16777215, 33554431, 67108863, 134217727, 268435455, 536870911, 1073741823, 2147483647, 4294967295]
theorem fPlay.tab11 : rtab .any (opsOf Tryd.f22 11) = fPlay.T11 := by kernel_rfl
theorem fPlay.bits11 : waitsOk fPlay.T11.2 fPlay.B11 = true := by kernel_rfl
def saronlaw01_played.f : Option Bool := some true
set_option maxRecDepth 100000 in
set_option maxHeartbeats 8000000 in
theorem played_true (w : World) (hG : Glob w) : Calls Tryd.prog 22 #[] w fun e w' => e = .returned (.bool true) ∧ Below w.heap.size w w' := by
 have hu77 := Tryd.underlying77
 have hu80 := Tryd.underlying80
 have hu28 := Tryd.underlying28
 have hu26 := Tryd.underlying26
 have HG := zh hG
 clear hG
 go_enter Tryd.func22, Tryd.ntmps22
 go_upto_region 2 with (first | (go_at_call 50; (with_reducible refine (bz_calls _ _ _).mono ?_); rintro e w1 ⟨A0, c0, A1, c1, A2, c2, rfl, hs, hb⟩; have HS1 := zh hs; have HB1 := zh (below_step (Below.refl _ _) hb); clear hs hb) | (go_at_call 16; refine (c_is _ A0 c0 A1 c1 A2 c2 (HS1.out.alloc _) (HG.out.below (below_alloc HB1.out _)) w1.heap.size (alloc_at _ _ _ rfl)).mono ?_; rintro e w2 ⟨rfl, hb⟩; have HB2 := zh (below_step (below_alloc HB1.out _) hb); clear hb))
 go_upto_region 3 with (first | (go_at_call 50; (with_reducible refine (bz_calls _ _ _).mono ?_); rintro e w3 ⟨A0, c0, A1, c1, A2, c2, rfl, hs, hb⟩; have HS3 := zh hs; have HB3 := zh (below_step HB2.out hb); clear hs hb) | (go_at_call 23; refine (c_pitch _ A0 c0 A1 c1 A2 c2 HS3.out (HG.out.below HB3.out)).mono ?_; rintro e w4 ⟨rfl, hb⟩; have HB4 := zh (below_step HB3.out hb); clear hb))
 have P4 := zh (alloc_at w4 (.cells #[.int .i64 303, .int .i64 310] 26) w4.heap.size rfl)
 have HB4b := zh (below_alloc HB4.out (.cells #[.int .i64 303, .int .i64 310] 26))
 go_upto_region 4 with (first | (go_at_call 50; (with_reducible refine (bz_calls _ _ _).mono ?_); rintro e w5 ⟨A0, c0, A1, c1, A2, c2, rfl, hs, hb⟩; have HS5 := zh hs; have HB5 := zh (below_step HB4b.out hb); have P5 := zh (blk_below P4.out hb); clear hs hb) | (go_at_call 25; refine (c_can _ A0 c0 A1 c1 A2 c2 HS5.out (HG.out.below HB5.out)).mono ?_; rintro e w6 ⟨rfl, hb⟩; have HB6 := zh (below_step HB5.out hb); have P6 := zh (blk_below P5.out hb); clear hb))
 go_upto_region 5 with (first | (go_at_call 50; (with_reducible refine (bz_calls _ _ _).mono ?_); rintro e w7 ⟨A0, c0, A1, c1, A2, c2, rfl, hs, hb⟩; have HS7 := zh hs; have HB7 := zh (below_step HB6.out hb); have P7 := zh (blk_below P6.out hb); clear hs hb) | (go_at_call 27; refine (c_apart _ A0 c0 A1 c1 A2 c2 HS7.out (HG.out.below HB7.out)).mono ?_; rintro e w8 ⟨rfl, hb⟩; have HB8 := zh (below_step HB7.out hb); have P8 := zh (blk_below P7.out hb); clear hb))
 have Q0 := zh (alloc_at w8 (.cells #[.int .i64 39, .int .i64 42] 26) w8.heap.size rfl)
 have P0 := zh (blk_alloc P8.out (.cells #[.int .i64 39, .int .i64 42] 26))
 replace HB8 := zh (below_alloc HB8.out (.cells #[.int .i64 39, .int .i64 42] 26))
 obtain ⟨W5, hW5⟩ : ∃ W5, w8.alloc (.cells #[.int .i64 39, .int .i64 42] 26) = W5 := ⟨_, rfl⟩
 simp only [hW5] at Q0 P0 HB8 ⊢
 obtain ⟨gq, hgq⟩ : ∃ g, w8.heap.size = g := ⟨_, rfl⟩
 obtain ⟨gp, hgp⟩ : ∃ g, w4.heap.size = g := ⟨_, rfl⟩
 simp only [hgq, hgp] at Q0 P0 ⊢
 clear hW5 hgq hgp P4 P5 P6 P7 P8 HS1 HS3 HS5 HS7 HB1 HB2 HB3 HB4 HB4b HB5 HB6 HB7
 replace Q0 := zh (show W5.drew.heap[gq]? = _ from Q0.out)
 replace P0 := zh (show W5.drew.heap[gp]? = _ from P0.out)
 replace HB8 := zh (below_drew1 HB8.out)
 have BL0 := zh (Below.refl W5.drew.heap.size W5.drew)
 refine start_ (n := 32) (S := fun w' => w'.cell? ⟨gp, 0, none⟩ = some (.int .i64 303) ∧ w'.cell? ⟨gp, 1, none⟩ = some (.int .i64 310) ∧ w'.cell? ⟨gq, 0, none⟩ = some (.int .i64 39) ∧ w'.cell? ⟨gq, 1, none⟩ = some (.int .i64 42)) (ds := []) (Array.replicate 32 false) zk rfl rfl ⟨(blk_cell (blk_below P0.out BL0.out) 0).trans rfl, (blk_cell (blk_below P0.out BL0.out) 1).trans rfl, (blk_cell (blk_below Q0.out BL0.out) 0).trans rfl, (blk_cell (blk_below Q0.out BL0.out) 1).trans rfl⟩ (fun hHeld => ?_)
 refine with_tabW fPlay.tab5 fPlay.bits5 (fun HT_ HW_ => ?_)
 generalize W5.drew = v0 at P0 Q0 HB8 BL0 hHeld ⊢
 refine zu 0 ?_
 refine zu 1 ?_
 refine zu 2 ?_
 refine zu 3 ?_
 refine zu 4 ?_
 refine zu 5 ?_
 refine zu 6 ?_
 refine zu 7 ?_
 refine zu 8 ?_
 refine zu 9 ?_
 refine zu 10 ?_
 refine zu 11 ?_
 refine zu 12 ?_
 refine zu 13 ?_
 refine zu 14 ?_
 refine zu 15 ?_
 refine zu 16 ?_
 refine zu 17 ?_
 refine zu 18 ?_
 refine zt 19 ?_
 refine zo 20 (fun K hK => ?_)
 refine goes_ Tryd.func42 zk rfl #[.int .i64 303, .int .i64 310] (by rfl) rfl rfl dQ1 ?_
 (with_reducible refine (saronref00_Band.calls 303 310 303 310 v0 rfl).mono ?_)
 rintro e v1 ⟨rfl, hb⟩
 refine ⟨_, rfl, ?_⟩
 have BL1 := zh (BL0.out.trans (hb.mono BL0.out.size))
 clear hb
 refine hK.out _ _ ⟨(blk_cell (blk_below P0.out BL1.out) 0).trans rfl, (blk_cell (blk_below P0.out BL1.out) 1).trans rfl, (blk_cell (blk_below Q0.out BL1.out) 0).trans rfl, (blk_cell (blk_below Q0.out BL1.out) 1).trans rfl⟩ (fun hHeld => ?_)
 clear hK K
 refine zr 54 _ ?_
 refine zu 21 ?_
 refine zu 22 ?_
 refine zu 23 ?_
 refine zu 24 ?_
 refine zu 25 ?_
 refine zu 26 ?_
 refine zu 27 ?_
 refine zt 28 ?_
 refine zo 29 (fun K hK => ?_)
 refine goes_ Tryd.func42 zk rfl #[.int .i64 39, .int .i64 42] (by rfl) rfl rfl dQ1 ?_
 (with_reducible refine (saronref00_Band.calls 39 42 39 42 v1 rfl).mono ?_)
 rintro e v2 ⟨rfl, hb⟩
 refine ⟨_, rfl, ?_⟩
 have BL2 := zh (BL1.out.trans (hb.mono BL1.out.size))
 clear hb
 refine hK.out _ _ ⟨(blk_cell (blk_below P0.out BL2.out) 0).trans rfl, (blk_cell (blk_below P0.out BL2.out) 1).trans rfl, (blk_cell (blk_below Q0.out BL2.out) 0).trans rfl, (blk_cell (blk_below Q0.out BL2.out) 1).trans rfl⟩ (fun hHeld => ?_)
 clear hK K
 refine zr 63 _ ?_
 refine zu 30 ?_
 refine zu 31 ?_
 refine zd ?_
 have HB9 := zh (HB8.out.trans (BL2.out.mono HB8.out.size))
 clear P0 Q0 HB8 BL0 BL1 BL2 HT_ HW_ hHeld
 go_upto_region 8 with (first | (go_at_call 50; (with_reducible refine (bz_calls _ _ _).mono ?_); rintro e w10 ⟨A0, c0, A1, c1, A2, c2, rfl, hs, hb⟩; have HS10 := zh hs; have HB10 := zh (below_step HB9.out hb); clear hs hb) | (go_at_call 29; refine (c_even _ A0 c0 A1 c1 A2 c2 HS10.out (HG.out.below HB10.out)).mono ?_; rintro e w11 ⟨rfl, hb⟩; have HB11 := zh (below_step HB10.out hb); clear hb))
 have E11 := zh (alloc_at w11 (.cells #[.int .i64 4, .int .i64 4] 26) w11.heap.size rfl)
 have HB11b := zh (below_alloc HB11.out (.cells #[.int .i64 4, .int .i64 4] 26))
 go_upto_region 9 with (first | (go_at_call 50; (with_reducible refine (bz_calls _ _ _).mono ?_); rintro e w12 ⟨A0, c0, A1, c1, A2, c2, rfl, hs, hb⟩; have HS12 := zh hs; have HB12 := zh (below_step HB11b.out hb); have E12 := zh (blk_below E11.out hb); clear hs hb) | (go_at_call 33; refine (c_wrong _ A0 c0 A1 c1 A2 c2 HS12.out (HG.out.below HB12.out)).mono ?_; rintro e w13 ⟨vw, rfl, hv, hb⟩; have HB13 := zh (below_step HB12.out hb); have E13 := zh (blk_below E12.out hb); have HVW := zh hv; clear hv; clear hb))
 obtain ⟨Aw, cw, rfl⟩ := Kd.V_slice HVW.out
 have CW13 := zh (Kd.V_reads' HVW.out).2.2
 have hcw := (Kd.V_reads' HVW.out).2.1
 go_upto_region 10 with (first | (go_at_call 50; (with_reducible refine (bz_calls _ _ _).mono ?_); rintro e w14 ⟨A0, c0, A1, c1, A2, c2, rfl, hs, hb⟩; have HS14 := zh hs; have HB14 := zh (below_step HB13.out hb); have E14 := zh (blk_below E13.out hb); have CW14 := zh (Kd.C_below CW13.out hb); clear hs hb) | (go_at_call 20; refine (c_tuning _ A0 c0 A1 c1 A2 c2 HS14.out (HG.out.below HB14.out)).mono ?_; rintro e w15 ⟨vt, LT, rfl, hv, hlt, hb⟩; have HB15 := zh (below_step HB14.out hb); have E15 := zh (blk_below E14.out hb); have CW15 := zh (Kd.C_below CW14.out hb); have HVT := zh hv; have HLT := zh hlt; clear hv hlt; clear hb))
 obtain ⟨At, ct, hvt⟩ := Kd.V_slice HVT.out
 rw [HLT.out] at hvt
 subst hvt
 go_upto_region 11 with (first | (go_at_call 42; (with_reducible refine (saronref00_Band.calls 5 6 5 6 _ rfl).mono ?_); rintro e w16 ⟨rfl, hb⟩; have HB16 := zh (below_step HB15.out hb); have E16 := zh (blk_below E15.out hb); have CW16 := zh (Kd.C_below CW15.out hb); clear hb) | (go_at_call 42; (with_reducible refine (saronref00_Band.calls 8 9 8 9 _ rfl).mono ?_); rintro e w17 ⟨rfl, hb⟩; have HB17 := zh (below_alloc (below_alloc (below_step HB16.out hb) (.cells #[.int .i64 5, .int .i64 6, .int .i64 8, .int .i64 9] 26)) (.cells #[.int .i64 0, .int .i64 1] 48)); have S17 := zh (blk_alloc (alloc_at w17 (.cells #[.int .i64 5, .int .i64 6, .int .i64 8, .int .i64 9] 26) w17.heap.size rfl) (.cells #[.int .i64 0, .int .i64 1] 48)); have Y17 := zh (alloc_at (w17.alloc (.cells #[.int .i64 5, .int .i64 6, .int .i64 8, .int .i64 9] 26)) (.cells #[.int .i64 0, .int .i64 1] 48) (w17.heap.size + 1) (by simp)); have E17 := zh (blk_alloc (blk_alloc (blk_below E16.out hb) (.cells #[.int .i64 5, .int .i64 6, .int .i64 8, .int .i64 9] 26)) (.cells #[.int .i64 0, .int .i64 1] 48)); have CW17 := zh (Kd.C_alloc (Kd.C_alloc (Kd.C_below CW16.out hb) (.cells #[.int .i64 5, .int .i64 6, .int .i64 8, .int .i64 9] 26)) (.cells #[.int .i64 0, .int .i64 1] 48)); clear hb) | (go_at_call 42; (with_reducible refine (saronref00_Band.calls 2 4 2 4 _ rfl).mono ?_); rintro e w18 ⟨rfl, hb⟩; have HB18 := zh (below_step HB17.out hb); have S18 := zh (blk_below S17.out hb); have Y18 := zh (blk_below Y17.out hb); have E18 := zh (blk_below E17.out hb); have CW18 := zh (Kd.C_below CW17.out hb); clear hb) | (go_at_call 31; refine (c_sure _ _ _ S18.out Y18.out (HG.out.below HB18.out)).mono ?_; rintro e w19 ⟨rfl, hb⟩; have HB19 := zh (below_step HB18.out hb); have E19 := zh (blk_below E18.out hb); have CW19 := zh (Kd.C_below CW18.out hb); clear hb))
 obtain ⟨ge, hge⟩ : ∃ g, w11.heap.size = g := ⟨_, rfl⟩
 simp only [hge] at E19 ⊢
 clear hge
 have E0 := zh (show w19.drew.heap[ge]? = _ from E19.out)
 have CW0 := zh (Kd.C_drew CW19.out)
 have HB0 := zh (below_drew1 HB19.out)
 have BL0 := zh (Below.refl w19.drew.heap.size w19.drew)
 refine start_ (n := 33) (S := fun w' => w'.cell? ⟨ge, 0, none⟩ = some (.int .i64 4) ∧ w'.cell? ⟨ge, 1, none⟩ = some (.int .i64 4)) (ds := []) (Array.replicate 33 false) zk rfl rfl ⟨(blk_cell (blk_below E0.out BL0.out) 0).trans rfl, (blk_cell (blk_below E0.out BL0.out) 1).trans rfl⟩ (fun hHeld => ?_)
 refine with_tabW fPlay.tab11 fPlay.bits11 (fun HT_ HW_ => ?_)
 generalize w19.drew = v0 at E0 CW0 HB0 BL0 hHeld ⊢
 refine zu 0 ?_
 refine zu 1 ?_
 refine zu 2 ?_
 refine zu 3 ?_
 refine zu 4 ?_
 refine zu 5 ?_
 refine zu 6 ?_
 refine zu 7 ?_
 refine zu 8 ?_
 refine zu 9 ?_
 refine zu 10 ?_
 refine zu 11 ?_
 refine zu 12 ?_
 refine zu 13 ?_
 refine zu 14 ?_
 refine zt 15 ?_
 refine zo 16 (fun K hK => ?_)
 refine goes_ Tryd.func42 zk rfl #[.int .i64 4, .int .i64 4] (by rfl) rfl rfl dQ1 ?_
 (with_reducible refine (saronref00_Band.calls 4 4 4 4 v0 rfl).mono ?_)
 rintro e v1 ⟨rfl, hb⟩
 refine ⟨_, rfl, ?_⟩
 have BL1 := zh (BL0.out.trans (hb.mono BL0.out.size))
 clear hb
 refine hK.out _ _ ⟨(blk_cell (blk_below E0.out BL1.out) 0).trans rfl, (blk_cell (blk_below E0.out BL1.out) 1).trans rfl⟩ (fun hHeld => ?_)
 clear hK K
 refine zr 108 _ ?_
 refine zu 17 ?_
 refine zu 18 ?_
 refine zu 19 ?_
 refine zu 20 ?_
 refine zo 21 (fun K hK => ?_)
 refine value_ (v := .slice (some ⟨v1.heap.size, 0, none⟩) 1 1) (w1 := v1.alloc (.cells (is_ [2]) 3)) (by rfl) rfl ?hr1 ?_
 (case hr1 => first | rfl | (go_simp; done) | (go_simp; rfl))
 have BL2 := zh (below_alloc BL1.out (.cells (is_ [2]) 3))
 have N2 := zh (alloc_at v1 (.cells (is_ [2]) 3) v1.heap.size rfl)
 generalize v1.alloc (.cells (is_ [2]) 3) = v2 at BL2 N2 ⊢
 refine hK.out _ _ ⟨(blk_cell (blk_below E0.out BL2.out) 0).trans rfl, (blk_cell (blk_below E0.out BL2.out) 1).trans rfl⟩ (fun hHeld => ?_)
 clear hK K
 refine zr 113 _ ?_
 refine zo 22 (fun K hK => ?_)
 refine goes_ Tryd.func35 zk rfl #[.slice Aw 1 cw, .slice (some ⟨v1.heap.size, 0, none⟩) 1 1] (by rfl) rfl rfl dQ1 ?_
 refine (saronref00_Equal.calls 3 Aw cw [2] (some ⟨v1.heap.size, 0, none⟩) 1 [2] true v2 (Kd.C_below CW0.out BL2.out) hcw (C_is N2.out (by decide)) (Nat.le_refl _) zk).mono ?_
 rintro e v3 ⟨rfl, hd⟩
 refine ⟨_, rfl, ?_⟩
 have BL3 := zh (BL2.out.trans ((drawn_below hd).mono BL2.out.size))
 clear hd
 refine hK.out _ _ ⟨(blk_cell (blk_below E0.out BL3.out) 0).trans rfl, (blk_cell (blk_below E0.out BL3.out) 1).trans rfl⟩ (fun hHeld => ?_)
 clear hK K
 refine zr 114 _ ?_
 refine zu 23 ?_
 refine zu 24 ?_
 refine zu 25 ?_
 refine zu 26 ?_
 refine zu 27 ?_
 refine zu 28 ?_
 refine zu 29 ?_
 refine zu 30 ?_
 refine zu 31 ?_
 refine zu 32 ?_
 refine zd ?_
 go_wp2
 go_ret
 exact ⟨rfl, HB0.out.trans (BL3.out.mono HB0.out.size)⟩
theorem saronlaw01_played.calls (r : Bool) (w : World) (hG : Glob w) (h : saronlaw01_played.f = some r) : Calls Tryd.prog 22 #[] w fun e w' => e = .returned (.bool r) ∧ Below w.heap.size w w' := by
 obtain rfl : true = r := Option.some.inj h
 exact played_true w hG
end Go.Proofs.YtgehkojccmkggaaDoor.K
end
section
namespace Go.Proofs.YtgehkojccmkggaaDoor.K
open Go.ChangeShapes Go.WideShapes Go.ChangeAt Go.RowKit
abbrev laid1 : List (String × DataW Unit) := [("saron/tune.asks", Rows.laid_saron_tune_asks)]
theorem gAsks : Tryd.prog.globalNamed "saron/tune.asks" = some 0 := by kernel_rfl
theorem tAsks : (Tryd.prog.globals[0]?).map (·.type) = some 107 := by kernel_rfl
theorem cells106 : Tryd.prog.cellsOf 106 = 1 := by kernel_rfl
theorem cells107 : Tryd.prog.cellsOf 107 = 2 := by kernel_rfl
set_option maxRecDepth 100000 in
theorem glob_of_laid {W : World} (h : laidMetH Tryd.prog laid1 W) : Glob W := by
 obtain ⟨g, t, cs, fuel, p, hg, ht, hv, hd⟩ := h.funcs (List.mem_singleton.2 rfl)
 obtain rfl := Option.some.inj (gAsks.symm.trans hg)
 obtain rfl := Option.some.inj (tAsks.symm.trans ht)
 obtain ⟨xs, m, rfl, hx, hl, hn, hel⟩ := DataW.trod_array Tryd.underlying107 hd
 rw [cells107] at hl
 rw [cells106] at hel
 have hx1 := congrArg Prod.fst hx
 have hds : xs.map (·.1) = [.held [40, 115, 97, 114, 111, 110, 47, 116, 117, 110, 101, 46, 115, 101, 116, 41, 46, 115, 116, 101, 112], .held [40, 115, 97, 114, 111, 110, 47, 116, 117, 110, 101, 46, 115, 101, 116, 41, 46, 112, 97, 105, 114]] :=
  (DataW.agg.inj hx1).symm
 have two : ∀ {β : Type} (l : List β), l.length = 2 → ∃ a b, l = [a, b] := fun l h => by
  match l, h with
  | [a, b], _ => exact ⟨a, b, rfl⟩
 obtain ⟨l⟩ := cs
 obtain ⟨c0, c1, rfl⟩ := two l hl
 clear hl hx hx1 hd
 obtain ⟨x0, x1, rfl⟩ := two xs hn
 clear hn
 simp only [List.map_cons, List.map_nil, List.cons.injEq, and_true] at hds
 obtain ⟨e0, e1⟩ := hds
 have r0 : DataW.trod (funcToken Tryd.prog) Tryd.prog W 0 (fun _ => true) true m 106 [c0] = some (x0.1, x0.2) := hel 0 (by decide)
 rw [e0] at r0
 have r1 : DataW.trod (funcToken Tryd.prog) Tryd.prog W 0 (fun _ => true) true m 106 [c1] = some (x1.1, x1.2) := hel 1 (by decide)
 rw [e1] at r1
 obtain rfl := func_of_trod (f0 := 105) Tryd.underlying106 zk r0
 obtain rfl := func_of_trod (f0 := 106) Tryd.underlying106 zk r1
 have hc := fun i => World.var?_cell hg hv i
 refine ⟨?_, ?_, ?_⟩
 ·have := hc 0
  rcases Nat.lt_or_ge 0 W.heap.size with h0 | h0
  ·exact h0
  ·have e : W.heap.size = 0 := by omega
   simp [World.cell?, e] at this
 ·rw [hc 0]
  rfl
 ·rw [hc 1]
  rfl
end Go.Proofs.YtgehkojccmkggaaDoor.K
end
section
namespace Go.Proofs.YtgehkojccmkggaaDoor.K
open Go.ChangeShapes Go.WideShapes Go.ChangeAt Go.RowKit Go.Deep Go.Proofs.YtgehkojccmkggaaDoorW.PrintWords Go.Proofs.YtgehkojccmkggaaDoor.H
set_option linter.unusedVariables false
theorem bulk_pos {H : Type} (d : DataW H) : 1 ≤ Rows.uptoBulk d := by
 cases d with
 | lit l => cases l <;> simp [Rows.uptoBulk]
 | nil => simp [Rows.uptoBulk]
 | ptr d => simp [Rows.uptoBulk]
 | slice elems spare => simp [Rows.uptoBulk]
 | agg parts => simp [Rows.uptoBulk]
 | iface t d => simp [Rows.uptoBulk]
 | map entries => simp [Rows.uptoBulk]
 | held h => simp [Rows.uptoBulk]
theorem bulk_append {H : Type} (l r : List (DataW H)) : Rows.uptoBulkAll (l ++ r) = Rows.uptoBulkAll l + Rows.uptoBulkAll r := by
 induction l with
 | nil => simp [Rows.uptoBulkAll]
 | cons x l ih => simp only [List.cons_append, Rows.uptoBulkAll, ih]; omega
def OpensB {α : Type} (P : Program) (t : TypeId) (d : Kd α) (ok : α → Prop) (m : α → Nat) : Prop :=
 ∀ (H : Type) (enc : TypeId × Value → H) (w : World) (base : Nat) (spare : Nat → Bool) (held : Bool) (fuel : Nat) (cs : List Value) (x : DataW H × List MemPlace),
  DataW.trod enc P w base spare held fuel t cs = some x → ∃ a, d.K w a cs ∧ ok a ∧ m a ≤ Rows.uptoBulk x.1
theorem OpensB.int {P : Program} {t : TypeId} {k : IntKind} (ht : P.underlying t = some (.int k)) : OpensB P t (Kd.int k) (fun n => (Lit.int k n).wf = true) (fun _ => 1) := by
 intro H enc w base spare held fuel cs x h
 obtain ⟨n, rfl, _, hw⟩ := DataW.trod_int ht h
 exact ⟨n, rfl, hw, bulk_pos _⟩
theorem OpensB.weak {α : Type} {P : Program} {t : TypeId} {d : Kd α} {ok ok' : α → Prop} {m m' : α → Nat} (h : OpensB P t d ok m) (hk : ∀ a, ok a → ok' a) (hm : ∀ a, m' a ≤ m a) : OpensB P t d ok' m' := by
 intro H enc w base spare held fuel cs x hx
 obtain ⟨a, h1, h2, h3⟩ := h H enc w base spare held fuel cs x hx
 exact ⟨a, h1, hk a h2, Nat.le_trans (hm a) h3⟩
theorem OpensB.slice {α : Type} {P : Program} {t e : TypeId} {d : Kd α} {ok : α → Prop} {m' : α → Nat} (ht : P.underlying t = some (.slice e)) (hc : P.cellsOf e = d.sz) (E : Nat) (h : OpensB P e d ok m') :
  OpensB P t (Kd.slice E d) (fun l => l.length ≤ 9223372036854775807 ∧ ∀ a ∈ l, ok a) (fun l => (l.map m').sum) := by
 intro H enc w base spare held fuel cs x hx
 rcases open_slice ht hx with ⟨rfl, rfl⟩ | ⟨a, len, cap, m, n, D, Pl, rfl, hb, hl, hm, hmm, rfl, hel⟩
 ·exact ⟨[], ⟨none, 0, rfl, Nat.le_refl _, rfl, by simp, by simp⟩, ⟨by simp, by simp⟩, by simp⟩
 have hlm : len ≤ m := by rw [hmm]; split <;> omega
 have hmax : maxLen = 9223372036854775807 := rfl
 rw [hmax] at hm
 have each : ∀ i, i < len → ∃ y : α, (ok y ∧ m' y ≤ Rows.uptoBulk (D i)) ∧ ∃ c, c.length = d.sz ∧ d.K w y c ∧ ∀ j u, c[j]? = some u → w.cell? (a.add (i * d.sz + j)) = some u := by
  intro i hi
  obtain ⟨cs', h1, h2⟩ := hel i (by omega)
  obtain ⟨y, hK, hy, hy2⟩ := h H enc w base spare held n cs' _ h2
  obtain ⟨_, hlen, hcell⟩ := World.cells?_some h1
  refine ⟨y, ⟨hy, hy2⟩, cs', by rw [hlen, hc], hK, fun j u hu => ?_⟩
  have hj : j < P.cellsOf e := by
   have := (List.getElem?_eq_some_iff.1 hu).1
   omega
  have := hcell j hj
  rw [Go.Deep.add_add, hc] at this
  rw [this, hu]
 obtain ⟨ys, hys, hsum, hall⟩ : ∃ ys : List α, ys.length = len ∧ (ys.map m').sum ≤ Rows.uptoBulkAll ((List.range len).map D) ∧ ∀ i y, ys[i]? = some y → ok y ∧ ∃ c, c.length = d.sz ∧ d.K w y c ∧ ∀ j u, c[j]? = some u → w.cell? (a.add (i * d.sz + j)) = some u := by
  clear hmm hlm hel hx hl
  induction len with
  | zero => exact ⟨[], rfl, by simp, by simp⟩
  | succ len ih =>
   obtain ⟨ys, h1, h1s, h2⟩ := ih (fun i hi => each i (by omega))
   obtain ⟨y, ⟨hy, hyb⟩, hy'⟩ := each len (by omega)
   refine ⟨ys ++ [y], by simp [h1], ?_, fun i z hz => ?_⟩
   ·rw [List.range_succ, List.map_append, List.map_append, List.sum_append, bulk_append]
    simp only [List.map_cons, List.map_nil, List.sum_cons, List.sum_nil, Rows.uptoBulkAll]
    omega
   rcases Nat.lt_or_ge i len with hi | hi
   ·rw [List.getElem?_append_left (by omega)] at hz
    exact h2 i z hz
   ·rw [List.getElem?_append_right (by omega)] at hz
    obtain rfl : i = len := by
     have := (List.getElem?_eq_some_iff.1 hz).1
     simp at this
     omega
    simp [h1] at hz
    subst hz
    exact ⟨hy, hy'⟩
 refine ⟨ys, ⟨some a, cap, by rw [hys], by omega, by rw [hys], by omega, fun _ => ⟨a, rfl, fun j p hp => (hall j p hp).2⟩⟩, ⟨by omega, fun z hz => ?_⟩, ?_⟩
 ·obtain ⟨i, hi, rfl⟩ := List.getElem_of_mem hz
  exact (hall i _ (List.getElem?_eq_getElem hi)).1
 ·simp only [Rows.uptoBulk]
  omega
def OpensF {α : Type} (P : Program) (fs : List Field) (off total : Nat) (d : Kd α) (ok : α → Prop) (m : α → Nat) : Prop :=
 ∀ (H : Type) (enc : TypeId × Value → H) (w : World) (base : Nat) (spare : Nat → Bool) (held : Bool) (fuel : Nat) (cs : List Value) (xs : List (DataW H × List MemPlace)), cs.length = total → xs.length = fs.length →
  (∀ (i : Nat) (f : Field), fs[i]? = some f → DataW.trod enc P w base spare held fuel f.type ((cs.drop f.offset).take (P.cellsOf f.type)) = xs[i]?) → ∃ a, d.K w a (cs.drop off) ∧ ok a ∧ m a ≤ Rows.uptoBulkAll (xs.map (·.1))
theorem OpensF.one {α : Type} {P : Program} {f : Field} {off total : Nat} {d : Kd α} {ok : α → Prop} {m : α → Nat} (ho : f.offset = off) (ht : P.cellsOf f.type + off = total) (h : OpensB P f.type d ok m) : OpensF P [f] off total d ok m := by
 intro H enc w base spare held fuel cs xs hl hxl hx
 obtain ⟨x, rfl⟩ : ∃ x, xs = [x] := by
  match xs, hxl with
  | [x], _ => exact ⟨x, rfl⟩
 have h1 := hx 0 f rfl
 obtain ⟨a, hK, ha, hm⟩ := h H enc w base spare held fuel _ x h1
 rw [ho, List.take_of_length_le (by rw [List.length_drop]; omega)] at hK
 exact ⟨a, hK, ha, by simp only [List.map_cons, List.map_nil, Rows.uptoBulkAll]; omega⟩
theorem OpensF.cons {α β : Type} {P : Program} {f : Field} {fs : List Field} {off total : Nat} {d : Kd α} {d' : Kd β} {ok : α → Prop} {ok' : β → Prop} {m : α → Nat} {m' : β → Nat} (ho : f.offset = off) (hs : P.cellsOf f.type = d.sz) (h : OpensB P f.type d ok m) (h' : OpensF P fs (off + d.sz) total d' ok' m') :
  OpensF P (f :: fs) off total (Kd.pair d d') (fun a => ok a.1 ∧ ok' a.2) (fun a => m a.1 + m' a.2) := by
 intro H enc w base spare held fuel cs xs hl hxl hx
 obtain ⟨x, xs, rfl⟩ : ∃ x ys, xs = x :: ys := by
  match xs, hxl with
  | x :: ys, _ => exact ⟨x, ys, rfl⟩
 obtain ⟨a, hK, ha, hm⟩ := h H enc w base spare held fuel _ x (hx 0 f rfl)
 obtain ⟨b, hK', hb, hm'⟩ := h' H enc w base spare held fuel cs xs hl (by simpa using hxl) (fun i g hg => hx (i + 1) g hg)
 rw [ho, hs] at hK
 refine ⟨(a, b), ⟨_, _, ?_, hK, hK'⟩, ⟨ha, hb⟩, by simp only [List.map_cons, Rows.uptoBulkAll]; omega⟩
 rw [← List.drop_drop, List.take_append_drop]
theorem OpensB.struct {α : Type} {P : Program} {t : TypeId} {fs : Array Field} {d : Kd α} {ok : α → Prop} {m : α → Nat} (ht : P.underlying t = some (.struct fs)) (total : Nat) (hc : P.cellsOf t = total) (h : OpensF P fs.toList 0 total d ok m) : OpensB P t d ok (fun a => m a + 1) := by
 intro H enc w base spare held fuel cs x hx
 obtain ⟨xs, n, rfl, rfl, hl, hn, hf⟩ := DataW.trod_struct ht hx
 obtain ⟨a, hK, ha, hm⟩ := h H enc w base spare held n cs xs (by omega) (by simpa using hn) (fun i f hif => hf i f (by simpa using hif))
 exact ⟨a, hK, ha, by simp only [Rows.uptoBulk]; omega⟩
theorem OpensB.iso {α β : Type} {P : Program} {t : TypeId} {d : Kd α} {ok : α → Prop} {m : α → Nat} {f : β → α} (g : α → β) (hg : ∀ a, f (g a) = a) {ok' : β → Prop} {m' : β → Nat} (hk : ∀ a, ok a → ok' (g a)) (hm : ∀ a, m' (g a) ≤ m a) (h : OpensB P t d ok m) : OpensB P t (Kd.iso d f) ok' m' := by
 intro H enc w base spare held fuel cs x hx
 obtain ⟨a, hK, ha, hb⟩ := h H enc w base spare held fuel cs x hx
 refine ⟨g a, ?_, hk a ha, Nat.le_trans (hm a) hb⟩
 show d.K w (f (g a)) cs
 rw [hg]
 exact hK
theorem OpensB.arg {α : Type} {P : Program} {t : TypeId} {d : Kd α} {ok : α → Prop} {m : α → Nat} (h : OpensB P t d ok m) {H : Type} {enc : TypeId × Value → H} {w : World} {base : Nat} {spare : Nat → Bool} {held : Bool} {v : Value} {y : DataW H} {p : List MemPlace}
  (hx : DataW.Trod enc P w base spare held t v y p) : ∃ a, d.K w a v.cells.toList ∧ ok a ∧ m a ≤ Rows.uptoBulk y := by
 obtain ⟨fuel, hf⟩ := hx
 exact h H enc w base spare held fuel _ _ hf
def I64 (n : Int) : Prop := -9223372036854775808 ≤ n ∧ n ≤ 9223372036854775807
theorem i64_of_wf {n : Int} (h : (Lit.int .i64 n).wf = true) : I64 n := by
 simp [Lit.wf, IntKind.min, IntKind.max, IntKind.signed, IntKind.bits] at h
 exact h
theorem opens3 : OpensB Tryd.prog 3 (Kd.int .i64) I64 (fun _ => 1) := (OpensB.int (k := .i64) Tryd.underlying3).weak (fun _ h => i64_of_wf h) (fun _ => Nat.le_refl _)
def T2 (_ : Int × Int) : Prop := True
theorem opens26p : OpensB Tryd.prog 26 (Kd.pair (Kd.int .i64) (Kd.int .i64)) (fun _ => True) (fun _ => 1) :=
 (OpensB.struct Tryd.underlying26 2 zk (OpensF.cons rfl zk opens3 (OpensF.one rfl zk opens3))).weak (fun _ _ => trivial) (fun _ => by omega)
theorem opens26 : OpensB Tryd.prog 26 k26 (fun _ => True) (fun _ => 1) := OpensB.iso (fun a => (⟨a.1, a.2⟩ : S26)) (fun _ => rfl) (fun _ _ => trivial) (fun _ => Nat.le_refl _) opens26p
theorem opens22 : OpensB Tryd.prog 22 (Kd.slice 26 k26) (fun l => l.length ≤ 9223372036854775807 ∧ ∀ a ∈ l, True) (fun l => (l.map fun _ => 1).sum) := OpensB.slice Tryd.underlying22 zk 26 opens26
theorem opens29 : OpensB Tryd.prog 29 (Kd.slice 3 (Kd.int .i64)) (fun l => l.length ≤ 9223372036854775807 ∧ ∀ a ∈ l, I64 a) (fun l => (l.map fun _ => 1).sum) := OpensB.slice Tryd.underlying29 zk 3 opens3
theorem ones {α : Type} (l : List α) : (l.map fun _ => 1).sum = l.length := by induction l with | nil => rfl | cons a l ih => rw [List.map_cons, List.sum_cons, ih, List.length_cons]; omega
end Go.Proofs.YtgehkojccmkggaaDoor.K
end
section
namespace Go.Proofs.YtgehkojccmkggaaDoor.K
open Go.ChangeShapes Go.WideShapes Go.ChangeAt Go.RowKit Go.Proofs.YtgehkojccmkggaaDoorW.PrintWords Go.Proofs.YtgehkojccmkggaaDoor.H
theorem opens61 : OpensB Tryd.prog 61 k61 (fun _ => True) (fun x => x.f0.length + 1) := by
 refine OpensB.iso (ok := fun _ => True) (m := fun a : List Int × List S26 => a.1.length + 1) (fun a => (⟨a.1, a.2⟩ : S61)) (fun _ => rfl) (fun _ _ => trivial) (fun _ => Nat.le_refl _) ?_
 have h := OpensB.struct Tryd.underlying61 2 zk (OpensF.cons rfl zk opens29 (OpensF.one rfl zk opens22))
 exact h.weak (fun _ _ => trivial) (fun a => by rw [ones, ones]; omega)
theorem opens23 : OpensB Tryd.prog 23 (Kd.slice 61 k61) (fun l => l.length ≤ 9223372036854775807 ∧ ∀ a ∈ l, True) (fun l => (l.map fun x => x.f0.length + 1).sum) := OpensB.slice Tryd.underlying23 zk 61 opens61
set_option maxRecDepth 100000 in
theorem opens48 : OpensB Tryd.prog 48 k48 (fun _ => True) (fun _ => 1) := by
 refine OpensB.iso (ok := fun _ => True) (m := fun _ : Int × Int => 1) (fun a => (⟨a.1, a.2⟩ : S48)) (fun _ => rfl) (fun _ _ => trivial) (fun _ => Nat.le_refl _) ?_
 intro H enc w base spare held fuel cs x hx
 obtain ⟨xs, m, rfl, _, hl, hn, he⟩ := DataW.trod_array Tryd.underlying48 hx
 have hc3 : Tryd.prog.cellsOf 3 = 1 := by kernel_rfl
 have hc48 : Tryd.prog.cellsOf 48 = 2 := by kernel_rfl
 rw [hc48] at hl
 match cs, hl with
 | [c0, c1], _ =>
  have h0 := he 0 (by decide)
  have h1 := he 1 (by decide)
  rw [List.getElem?_eq_getElem (by omega), hc3] at h0 h1
  obtain ⟨a, ha, _⟩ := opens3 H enc w base spare held m _ _ h0
  obtain ⟨b, hb, _⟩ := opens3 H enc w base spare held m _ _ h1
  exact ⟨(a, b), ⟨[c0], [c1], rfl, ha, hb⟩, trivial, bulk_pos _⟩
theorem opens24 : OpensB Tryd.prog 24 (Kd.slice 48 k48) (fun l => l.length ≤ 9223372036854775807 ∧ ∀ a ∈ l, True) (fun l => (l.map fun _ => 1).sum) := OpensB.slice Tryd.underlying24 zk 48 opens48
theorem opens28 : OpensB Tryd.prog 28 (Kd.pair (Kd.slice 26 k26) (Kd.pair (Kd.slice 61 k61) (Kd.pair (Kd.slice 48 k48) (Kd.pair (Kd.int .i64) (Kd.int .i64))))) (fun _ => True) (fun a => (a.1.map fun _ => 1).sum + ((a.2.1.map fun x => x.f0.length + 1).sum + (a.2.2.1.map fun _ => 1).sum)) := by
 have h := OpensB.struct Tryd.underlying28 5 zk (OpensF.cons rfl zk opens22 (OpensF.cons rfl zk opens23 (OpensF.cons rfl zk opens24 (OpensF.one rfl zk opens26p))))
 exact h.weak (fun _ _ => trivial) (fun a => by omega)
theorem sums (s : List S61) : (s.map fun x => x.f0.length + 1).sum = many s + s.length := by
 unfold many
 induction s with
 | nil => rfl
 | cons a s ih => simp only [List.map_cons, List.sum_cons, List.length_cons]; omega
section
variable {H : Type} {enc : TypeId × Value → H} {w : World} {base : Nat} {spare : Nat → Bool} {held : Bool} {r : Reach} {b0 : Nat} {v : Value} {y : DataW H} {p : List MemPlace}
set_option maxRecDepth 100000 in
theorem arg_set (hv : Value.okWide Tryd.prog w r b0 28 v) (h : DataW.Trod enc Tryd.prog w base spare held 28 v y p) (hb : Rows.uptoBulk y ≤ 1048576) :
  ∃ (A0 : Option Addr) (c0 : Nat) (h : List S26) (A1 : Option Addr) (c1 : Nat) (s : List S61) (A2 : Option Addr) (c2 : Nat) (p : List S48) (b0 b1 : Int), v = .agg #[.slice A0 h.length c0, .slice A1 s.length c1, .slice A2 p.length c2, .int .i64 b0, .int .i64 b1] ∧ h.length ≤ c0 ∧ Kd.C k26 w A0 h.length h ∧ s.length ≤ c1 ∧ Kd.C k61 w A1 s.length s ∧ p.length ≤ c2 ∧ Kd.C k48 w A2 p.length p ∧ small h s p = true := by
 obtain ⟨cs, rfl, _⟩ := okWide_struct Tryd.underlying28 hv
 obtain ⟨⟨h, s, p, b0, b1⟩, hK, _, hm⟩ := OpensB.arg opens28 h
 obtain ⟨_, _, e0, ⟨A0, c0, rfl, hc0, hC0⟩, _, _, rfl, ⟨A1, c1, rfl, hc1, hC1⟩, _, _, rfl, ⟨A2, c2, rfl, hc2, hC2⟩, _, _, rfl, rfl, rfl⟩ := hK
 dsimp only at hm
 rw [ones, ones, sums] at hm
 refine ⟨A0, c0, h, A1, c1, s, A2, c2, p, b0, b1, ?_, hc0, hC0, hc1, hC1, hc2, hC2, ?_⟩
 ·have e1 : cs.toList = [.slice A0 h.length c0, .slice A1 s.length c1, .slice A2 p.length c2, .int .i64 b0, .int .i64 b1] := e0
  congr 1
  rw [← Array.toArray_toList (xs := cs), e1]
 ·unfold small
  simp only [Bool.and_eq_true, decide_eq_true_eq]
  omega
theorem okWide_array {P : Program} {t e : TypeId} {n : Nat} (ht : P.underlying t = some (.array n e)) (h : Value.okWide P w r b0 t v) : ∃ cs, v = .agg cs ∧ cs.size = P.cellsOf t := by
 unfold Value.okWide at h
 rw [ht] at h
 obtain ⟨cs, rfl, hs, _⟩ := h
 exact ⟨cs, rfl, hs⟩
set_option maxRecDepth 100000 in
theorem ints_of_array {t : TypeId} {n : Nat} (ht : Tryd.prog.underlying t = some (.array n 3)) (hc : Tryd.prog.cellsOf t = n) (hv : Value.okWide Tryd.prog w r b0 t v) (h : DataW.Trod enc Tryd.prog w base spare held t v y p) :
  ∃ cs : Array Value, v = .agg cs ∧ cs.size = n ∧ ∀ i (hi : i < cs.size), ∃ x, cs[i] = .int .i64 x ∧ I64 x := by
 obtain ⟨cs, rfl, hs⟩ := okWide_array ht hv
 obtain ⟨fuel, hf⟩ := h
 obtain ⟨xs, m, rfl, _, hl, hn, he⟩ := DataW.trod_array ht hf
 have hc3 : Tryd.prog.cellsOf 3 = 1 := by kernel_rfl
 refine ⟨cs, rfl, by omega, fun i hi => ?_⟩
 have hi2 : i < n := by omega
 have h1 := he i hi2
 rw [List.getElem?_eq_getElem (by omega), hc3, Nat.mul_one] at h1
 obtain ⟨x, hK, hx, _⟩ := opens3 H enc w base spare held m _ _ h1
 refine ⟨x, ?_, hx⟩
 have hcells : (Value.agg cs).cells.toList = cs.toList := by rfl
 rw [hcells] at hK
 have hg : (cs.toList.drop i).take 1 = [cs[i]] := by
  rw [List.drop_eq_getElem_cons (by simpa using hi)]
  simp
 rw [hg] at hK
 have e : [cs[i]] = [Value.int .i64 x] := hK
 injection e
set_option maxRecDepth 100000 in
theorem arg_two (hv : Value.okWide Tryd.prog w r b0 48 v) (h : DataW.Trod enc Tryd.prog w base spare held 48 v y p) : ∃ x0 x1 : Int, v = .agg #[.int .i64 x0, .int .i64 x1] ∧ I64 x0 ∧ I64 x1 := by
 obtain ⟨cs, rfl, hs, hx⟩ := ints_of_array (n := 2) Tryd.underlying48 zk hv h
 obtain ⟨x0, e0, h0⟩ := hx 0 (by omega)
 obtain ⟨x1, e1, h1⟩ := hx 1 (by omega)
 refine ⟨x0, x1, ?_, h0, h1⟩
 congr 1
 apply Array.ext (by simpa using hs)
 intro i hi _
 obtain rfl | rfl : i = 0 ∨ i = 1 := by omega
 ·simpa using e0
 ·simpa using e1
set_option maxRecDepth 100000 in
theorem arg_three (hv : Value.okWide Tryd.prog w r b0 63 v) (h : DataW.Trod enc Tryd.prog w base spare held 63 v y p) : ∃ x0 x1 x2 : Int, v = .agg #[.int .i64 x0, .int .i64 x1, .int .i64 x2] ∧ I64 x0 ∧ I64 x1 ∧ I64 x2 := by
 obtain ⟨cs, rfl, hs, hx⟩ := ints_of_array (n := 3) Tryd.underlying63 zk hv h
 obtain ⟨x0, e0, h0⟩ := hx 0 (by omega)
 obtain ⟨x1, e1, h1⟩ := hx 1 (by omega)
 obtain ⟨x2, e2, h2⟩ := hx 2 (by omega)
 refine ⟨x0, x1, x2, ?_, h0, h1, h2⟩
 congr 1
 apply Array.ext (by simpa using hs)
 intro i hi _
 obtain rfl | rfl | rfl : i = 0 ∨ i = 1 ∨ i = 2 := by omega
 ·simpa using e0
 ·simpa using e1
 ·simpa using e2
end
end Go.Proofs.YtgehkojccmkggaaDoor.K
end
section
namespace Go.Proofs.YtgehkojccmkggaaDoor.K
open Go.RowKit Go.Proofs.YtgehkojccmkggaaDoorW.PrintWords Go.Proofs.YtgehkojccmkggaaDoorW.PrintLast Go.Proofs.YtgehkojccmkggaaDoorW.PrintMore
structure Bk where
 g : Nat
 cs : Array Value
 t : TypeId
 own : Bool := true
def Blks (w : World) : List Bk → Prop
 | [] => True
 | x :: L => w.heap[x.g]? = some (.cells x.cs x.t (0, 0)) ∧ Blks w L
def Rd (w : World) : List Bk → Prop
 | [] => True
 | x :: L => (∀ i, w.cell? ⟨x.g, i, none⟩ = x.cs[i]?) ∧ (∀ i, w.frozen? ⟨x.g, i, none⟩ = false) ∧ Rd w L
structure St (w0 w : World) (L : List Bk) : Prop where
 below : Below w0.heap.size w0 w
 blks : Blks w L
 own : ∀ x ∈ L, x.own = true → w0.heap.size ≤ x.g
 apart : L.Pairwise fun x y => y.g < x.g
section
variable {w0 w w1 : World} {L : List Bk}
theorem Blks.map (h : Blks w L) (f : ∀ x ∈ L, w.heap[x.g]? = some (.cells x.cs x.t (0, 0)) → w1.heap[x.g]? = some (.cells x.cs x.t (0, 0))) : Blks w1 L := by
 induction L with
 | nil => trivial
 | cons x L ih => exact ⟨f x (List.mem_cons_self ..) h.1, ih h.2 (fun y hy => f y (List.mem_cons_of_mem _ hy))⟩
theorem Blks.of_mem (h : Blks w L) {x : Bk} (hx : x ∈ L) : w.heap[x.g]? = some (.cells x.cs x.t (0, 0)) := by
 induction L with
 | nil => cases hx
 | cons y L ih =>
  rcases List.mem_cons.1 hx with rfl | hx
  ·exact h.1
  ·exact ih h.2 hx
theorem Blks.rd (h : Blks w L) : Rd w L := by
 induction L with
 | nil => trivial
 | cons x L ih => exact ⟨blk_cell h.1, blk_frozen h.1, ih h.2⟩
theorem St.rd (h : Aside0 (St w0 w L)) : Rd w L := h.out.blks.rd
theorem St.start (w0 : World) : Aside0 (St w0 w0 []) := ⟨⟨Below.refl _ _, trivial, (fun x hx => by cases hx), List.Pairwise.nil⟩⟩
theorem St.call (h : Aside0 (St w0 w L)) (hb : Below w.heap.size w w1) : Aside0 (St w0 w1 L) := ⟨⟨below_step h.out.below hb, h.out.blks.map fun _ _ hx => blk_below hx hb, h.out.own, h.out.apart⟩⟩
theorem St.drew (h : Aside0 (St w0 w L)) : Aside0 (St w0 w.drew L) := St.call h (below_drew1 (Below.refl _ _))
theorem St.alloc (h : Aside0 (St w0 w L)) (cs : Array Value) (t : TypeId) : Aside0 (St w0 (w.alloc (.cells cs t (0, 0))) (⟨w.heap.size, cs, t, true⟩ :: L)) :=
 ⟨⟨below_alloc h.out.below _, ⟨blk_new w _, h.out.blks.map fun _ _ hx => blk_alloc hx _⟩, (fun x hx e => by
  rcases List.mem_cons.1 hx with rfl | hx
  ·exact h.out.below.size
  ·exact h.out.own x hx e), List.Pairwise.cons (fun x hx => blk_lt (h.out.blks.of_mem hx)) h.out.apart⟩⟩
theorem St.put (h : Aside0 (St w0 w L)) (k i : Nat) (u : Value) {g : Nat} {cs : Array Value} {t : TypeId} (hk : L[k]? = some ⟨g, cs, t, true⟩) : Aside0 (St w0 (w.setCell ⟨g, i, none⟩ u) (L.set k ⟨g, cs.setIfInBounds i u, t, true⟩)) := by
 obtain ⟨⟨h1, h2, h3, h4⟩⟩ := h
 obtain ⟨hlt, hk'⟩ := List.getElem?_eq_some_iff.1 hk
 have hg : w0.heap.size ≤ g := by have := h3 _ (List.getElem_mem hlt); rw [hk'] at this; exact this rfl
 refine ⟨⟨h1.setCell (p := ⟨g, i, none⟩) hg u, ?_, ?_, ?_⟩⟩
 ·clear h1 h3 hg hlt hk'
  induction L generalizing k with
  | nil => cases hk
  | cons x L ih =>
   rw [List.pairwise_cons] at h4
   cases k with
   | zero =>
    obtain rfl : x = ⟨g, cs, t, true⟩ := by simpa using hk
    refine ⟨blk_set h2.1 i u, h2.2.map fun y hy hx => blk_far hx (p := ⟨g, i, none⟩) ?_ u⟩
    exact Nat.ne_of_lt (h4.1 y hy)
   | succ k =>
    have hk2 : L[k]? = some ⟨g, cs, t, true⟩ := by simpa using hk
    have hm : (⟨g, cs, t, true⟩ : Bk) ∈ L := List.mem_of_getElem? hk2
    exact ⟨blk_far h2.1 (p := ⟨g, i, none⟩) (Nat.ne_of_gt (h4.1 _ hm)) u, ih (k := k) hk2 h2.2 h4.2⟩
 ·intro x hx e
  rcases List.mem_or_eq_of_mem_set hx with hx | rfl
  ·exact h3 x hx e
  ·exact hg
 ·rw [List.pairwise_iff_getElem] at h4 ⊢
  intro a b ha hb hab
  rw [List.length_set] at ha hb
  have h5 := h4 a b ha hb hab
  have key : ∀ m (hm : m < L.length), ((L.set k ⟨g, cs.setIfInBounds i u, t, true⟩)[m]'(by rw [List.length_set]; exact hm)).g = (L[m]).g := fun m hm => by
   rw [List.getElem_set]
   split
   ·rename_i e; subst e; rw [hk']
   ·rfl
  rw [key a ha, key b hb]
  exact h5
theorem Drawn0.belowZ (h : Drawn0 w w1) : Below w.heap.size w w1 := by obtain ⟨n, rfl⟩ := h; exact pw_below_drewN (Below.refl _ _) n
end
section
variable {P : Program} {ops : Array Oper} {rest : List Oper} {o : Oper} {a : Act} {Q : Exit → Act → World → Prop} {w0 w : World} {L : List Bk}
theorem evA (S : Aside0 (St w0 w L)) {N : Tmp} {cs : Array Value} {t : TypeId} (h : ∀ g w1, Aside0 (St w0 w1 (⟨g, cs, t, true⟩ :: L)) → Rd w1 (⟨g, cs, t, true⟩ :: L) → wpList P ops Q rest (a.put o.dst (.pointer (some ⟨g, 0, none⟩))) w1)
  (hgd : o.guard = none := by rfl) (_hd : o.dst = some N := by rfl) (hrun : (execOp a.eval o).run P w = .ok (.value (.pointer (some ⟨w.heap.size, 0, none⟩))) (w.alloc (.cells cs t (0, 0))) := by first | (go_simp; done) | (go_simp; rfl)) : wpList P ops Q (o :: rest) a w :=
 Kd.event_run hgd hrun (h _ _ (St.alloc S cs t) (St.rd (St.alloc S cs t)))
theorem evS {w2 : World} {L' : List Bk} (S : Aside0 (St w0 w L)) (hst : Aside0 (St w0 w L) → Aside0 (St w0 w2 L')) (h : ∀ w1, Aside0 (St w0 w1 L') → Rd w1 L' → wpList P ops Q rest a w1)
  (hgd : o.guard = none := by rfl) (hN : o.dst = none := by rfl) (hrun : (execOp a.eval o).run P w = .ok .skip w2 := by first | (go_simp; done) | (go_simp; rfl)) : wpList P ops Q (o :: rest) a w := by
 refine wpList_plain hgd fun K hK => ?_
 unfold Oper.wp
 rw [hrun]
 show K (a.put o.dst undef) w2
 rw [hN]
 exact hK _ _ (h _ (hst S) (St.rd (hst S)))
theorem evC (S : Aside0 (St w0 w L)) {N : Option Tmp} {f : FuncId} {args : Array Value} {v : Value} (hC : ∀ W, Below w0.heap.size w0 W → Calls P f args W fun e w' => e = .returned v ∧ Below W.heap.size W w') (h : ∀ w1, Aside0 (St w0 w1 L) → Rd w1 L → wpList P ops Q rest (a.put N v) w1)
  {fn : Func} {ao : Array Operand} {ts : Array TypeId} (hf : P.funcs[f]? = some fn) (hd : o.dst = N := by rfl) (hg : o.guard = none := by rfl) (hname : (fn.name == "runtime.NumGoroutine") = false := by exact zk) (hb : fn.body.isSome = true := by rfl)
  (hop : o.op = .call { callee := .value (.func f), args := ao, argTypes := ts } := by rfl) (hargs : ao.map a.eval = args := by exact zm) : wpList P ops Q (o :: rest) a w := by
 refine goesL_ N hd hg hf hname hb args hop hargs ((hC w S.out.below).mono ?_)
 rintro e w1 ⟨rfl, hb⟩
 exact ⟨_, rfl, h w1 (St.call S hb) (St.rd (St.call S hb))⟩
theorem evX (S : Aside0 (St w0 w L)) {N : Option Tmp} {f : FuncId} {args : Array Value} {β : Type} {F : β → Value} {R : β → World → World → Prop} (hC : ∀ W, Below w0.heap.size w0 W → Calls P f args W fun e w' => ∃ v, e = .returned (F v) ∧ R v W w' ∧ Below W.heap.size W w') (h : ∀ v w1, R v w w1 → Aside0 (St w0 w1 L) → Rd w1 L → wpList P ops Q rest (a.put N (F v)) w1)
  {fn : Func} {ao : Array Operand} {ts : Array TypeId} (hf : P.funcs[f]? = some fn) (hd : o.dst = N := by rfl) (hg : o.guard = none := by rfl) (hname : (fn.name == "runtime.NumGoroutine") = false := by exact zk) (hb : fn.body.isSome = true := by rfl)
  (hop : o.op = .call { callee := .value (.func f), args := ao, argTypes := ts } := by rfl) (hargs : ao.map a.eval = args := by exact zm) : wpList P ops Q (o :: rest) a w := by
 refine goesL_ N hd hg hf hname hb args hop hargs ((hC w S.out.below).mono ?_)
 rintro e w1 ⟨v, rfl, hr, hb⟩
 exact ⟨_, rfl, h v w1 hr (St.call S hb) (St.rd (St.call S hb))⟩
end
section
variable {P : Program} {md : Region.Mode} {ops : Array Oper} {Q : Exit → Act → World → Prop} {ds : List Nat} {w0 w : World} {L : List Bk} {n_ : Tmp} {oi : Oper} {fuel : Nat} {l : Array Bool} {a a' : Act}
theorem zI {E : World → Prop} {id n : Nat} {T : Bool × List (List Nat × List Nat)} {B : List Nat} (S : Aside0 (St w0 w L)) (hE : ∀ W, Below w0.heap.size w0 W → E W) (hT : rtab .any ops = T) (hB : waitsOk T.2 B = true) (h : ∀ w1, Aside0 (St w0 w1 L) → Rd w1 L → Aside0 (rtab .any ops = T) → Aside0 (waitsOk T.2 B = true) → Aside0 (∀ W, Below w0.heap.size w0 W → E W) → wpAnyLast P .any ops Q (fun w' => Rd w' L ∧ E w') ds n (Array.replicate n false) a w1)
  (hm : P.follows .mixedOrders = true := by exact zk) (hn : ops.size = n := by rfl) : (Code.region id ops true).wp P Q a w :=
 start_ _ hm hn rfl ⟨St.rd (St.drew S), hE _ (St.drew S).out.below⟩ fun _ => h _ (St.drew S) (St.rd (St.drew S)) ⟨hT⟩ ⟨hB⟩ ⟨hE⟩
section
variable {E : World → Prop}
theorem zL {v : Value} (i : Nat) (ST : Aside0 (St w0 w L)) (h : wpAnyLast P md ops Q (fun w' => Rd w' L ∧ E w') ds fuel (l.setIfInBounds i true) a' w) {rest : List Oper} (hi : ops.toList.drop i = oi :: rest := by exact rfl) (hN : oi.dst = some n_ := by exact rfl) (hc : takeB md ops ds l (l.setIfInBounds i true) i = true := by exact take_ofW HT_.out HW_.out zk)
  (hQ : ∀ c a w, Q (.panic c) (a.put oi.dst v) w → Q (.panic c) a w := by exact fun _ _ _ h => h) (hy : YieldsIf P ops (fun w' => Rd w' L ∧ E w') oi v a := by exact Or.inl ⟨by rfl, by intro w' h_; obtain ⟨h_, e_⟩ := h_; simp only [Rd] at h_; go_simp; with_reducible rfl⟩) (ha : a.put (some n_) v = a' := by exact zy) (hE : Aside0 (∀ W, Below w0.heap.size w0 W → E W) := by exact HE_) : wpAnyLast P md ops Q (fun w' => Rd w' L ∧ E w') ds (fuel + 1) l a w :=
 take_ _ (drop_at hi) hN hc hQ hy ⟨St.rd ST, hE.out _ ST.out.below⟩ ha h
theorem zG (i : Nat) (ST : Aside0 (St w0 w L)) {f : FuncId} {args : Array Value} {v : Value} (hC : ∀ W, Below w0.heap.size w0 W → Calls P f args W fun e w' => e = .returned v ∧ Below W.heap.size W w') (h : ∀ w1, Aside0 (St w0 w1 L) → Rd w1 L → wpAnyLast P md ops Q (fun w' => Rd w' L ∧ E w') ds fuel (l.setIfInBounds i true) a' w1)
  {fn : Func} (hf : P.funcs[f]? = some fn) {rest : List Oper} (hi : ops.toList.drop i = oi :: rest := by exact rfl) (hN : oi.dst = some n_ := by exact rfl) (hc : readyB md ops l (l.setIfInBounds i true) i = true := by exact one_of HT_.out zk) (hd : i ∉ ds := by decide)
  (hname : (fn.name == "runtime.NumGoroutine") = false := by exact zk) (hb : fn.body.isSome = true := by rfl) (hw : Region.wanted oi (yielded ops a.tmps) = true := by rfl) {ao : Array Operand} {ts : Array TypeId}
  (hop : oi.op = .call { callee := .value (.func f), args := ao, argTypes := ts } := by rfl) (hargs : ao.map a.eval = args := by exact zm) (ha : a.put (some n_) v = a' := by exact zy) (hE : Aside0 (∀ W, Below w0.heap.size w0 W → E W) := by exact HE_) : wpAnyLast P md ops Q (fun w' => Rd w' L ∧ E w') ds (fuel + 1) l a w := by
 refine one_ _ (drop_at hi) hN hc hd (fun K hK => ?_)
 refine goes_ hf hname hb args hw hN hop hargs ((hC w ST.out.below).mono ?_)
 rintro e w1 ⟨rfl, hb⟩
 refine ⟨_, rfl, hK.out _ _ ⟨St.rd (St.call ST hb), hE.out _ (St.call ST hb).out.below⟩ (fun _ => ?_)⟩
 rw [ha]
 exact h w1 (St.call ST hb) (St.rd (St.call ST hb))
end
end
end Go.Proofs.YtgehkojccmkggaaDoor.K
end
