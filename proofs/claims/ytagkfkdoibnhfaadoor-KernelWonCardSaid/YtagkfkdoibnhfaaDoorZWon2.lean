/- KernelWon: for every scale and anything heard the law returns true, and each argument reads afterwards as it read before. Condition: when the call begins the package's table of rules reads as the program's text lays it; the card ties that to the text. -/
import Derived.Below
import Derived.Carry
import Derived.LaidMore
import Derived.OpenShut
import Derived.ProofKit
import Derived.SevenTiedAt
import Derived.SizedLaws
import Derived.Stop.Joined
import Derived.WalkKit
import Derived.Test.YtagkfkdoibnhfaaDoorCards
import Derived.Test.YtagkfkdoibnhfaaDoorTie
import Derived.Test.YtagkfkdoibnhfaaDoorZB2
import Derived.Test.YtagkfkdoibnhfaaDoorZB4
import Derived.Test.YtagkfkdoibnhfaaDoorZWon1
set_option linter.all false
section
namespace Go.Proofs.YtagkfkdoibnhfaaDoor.K
open Go.RowKit Go.Proofs.YtagkfkdoibnhfaaDoorW.PrintWords Go.Proofs.YtagkfkdoibnhfaaDoorW.PrintMore Go.Proofs.YtagkfkdoibnhfaaDoor.H
def mk61 (q : Int × Int) : S61 := ⟨q.1, q.2⟩
def fitAt (T : Int) (R : List S66) (hs : List S60) (p : Nat) (q : Int × Int) : Bool := decide (miss T R hs (p : Int) q.1 q.2 = 0)
def chRow (T : Int) (R : List S66) (hs : List S60) (p m : Nat) (a b : Nat) : List S61 := (((irange (b : Int) ((m : Int) - 1)).map fun y => ((a : Int), y)).filter (fitAt T R hs p)).map mk61
def chFrom (T : Int) (R : List S66) (hs : List S60) (p m : Nat) (a : Nat) : List S61 := (((irange (a : Int) ((m : Int) - 1)).flatMap fun x => (irange 0 ((m : Int) - 1)).map fun y => (x, y)).filter (fitAt T R hs p)).map mk61
theorem chFrom_zero (T O : Int) (R : List S66) (hs : List S60) (p m : Nat) (hm : T * O = (m : Int)) : chFrom T R hs p m 0 = (choices T O R hs (p : Int)).map mk61 := by
 unfold chFrom choices pairsOf
 rw [hm]
 rfl
theorem chFrom_cons (T : Int) (R : List S66) (hs : List S60) (p m a : Nat) (h : a < m) : chFrom T R hs p m a = chRow T R hs p m a 0 ++ chFrom T R hs p m (a + 1) := by
 unfold chFrom chRow
 rw [irange_cons (lo := (a : Int)) (hi := (m : Int) - 1) (by omega), List.flatMap_cons, List.filter_append, List.map_append]
 rfl
theorem chFrom_end (T : Int) (R : List S66) (hs : List S60) (p m : Nat) : chFrom T R hs p m m = [] := by
 unfold chFrom
 rw [irange_nil (lo := (m : Int)) (hi := (m : Int) - 1) (by omega)]
 rfl
theorem chRow_end (T : Int) (R : List S66) (hs : List S60) (p m a : Nat) : chRow T R hs p m a m = [] := by
 unfold chRow
 rw [irange_nil (by omega)]
 rfl
theorem chRow_cons (T : Int) (R : List S66) (hs : List S60) (p m a b : Nat) (h : b < m) : chRow T R hs p m a b = (if miss T R hs (p : Int) (a : Int) (b : Int) = 0 then [(⟨(a : Int), (b : Int)⟩ : S61)] else []) ++ chRow T R hs p m a (b + 1) := by
 unfold chRow
 rw [irange_cons (by omega), List.map_cons, List.filter_cons]
 by_cases h0 : miss T R hs (p : Int) (a : Int) (b : Int) = 0
 ·rw [if_pos (by unfold fitAt; exact decide_eq_true h0), if_pos h0]; rfl
 ·rw [if_neg (by unfold fitAt; rw [decide_eq_false h0]; simp), if_neg h0]; rfl
theorem tones_f (T O L : Int) (R : List S66) (m : Nat) (hm : T * O = (m : Int)) (hm' : m ≤ 21) : saronref06_tones.f T O L R = some (m : Int) := by
 unfold saronref06_tones.f
 rw [hm, w64 (by omega) (by omega)]
section
variable (T O L : Int) (p m : Nat) (R : List S66) (hs : List S60) (hS : okScale T O L R = true) (hH : okHeard L R hs = true) (hp : (p : Int) < L / 2) (hm : T * O = (m : Int)) (hm' : m ≤ 21)
include hS hH hp hm hm'
theorem ch_l1 (a : Nat) (ha : a < m) (K0 : Nat) (h300 : 300 ≤ K0) (Fc : List S61 → List S61) (hc : ∀ (k : Nat) (acc : List S61), K0 ≤ k → acc.length ≤ 100 * (a + 1) → saronref06_choices.l0 k hs (p : Int) acc ((a + 1 : Nat) : Int) T O L R = some (Fc acc)) (d : Nat) :
  ∀ (k b : Nat) (acc : List S61), m - b = d → b ≤ m → acc.length ≤ 100 * a + b → K0 + d + 1 ≤ k → saronref06_choices.l1 k hs (p : Int) acc (a : Int) (b : Int) T O L R = some (Fc (acc ++ chRow T R hs p m a b)) := by
 induction d with
 | zero =>
  intro k b acc hd hb hl hk
  obtain ⟨k, rfl⟩ : ∃ z, k = z + 1 := ⟨k - 1, by omega⟩
  obtain rfl : b = m := by omega
  simp only [saronref06_choices.l1]
  rw [tones_f T O L R b hm hm', Option.bind_some, if_neg (by omega), up1 a (by omega), hc k acc (by omega) (by omega), chRow_end, List.append_nil]
 | succ d ih =>
  intro k b acc hd hb hl hk
  obtain ⟨k, rfl⟩ : ∃ z, k = z + 1 := ⟨k - 1, by omega⟩
  simp only [saronref06_choices.l1]
  rw [tones_f T O L R m hm hm', Option.bind_some, if_pos (by omega), otherwise_f T O L a b p R hs hS hH hp (by omega) (by omega) (by omega) (by omega) k (by omega), Option.bind_some, up1 b (by omega), chRow_cons T R hs p m a b (by omega)]
  by_cases h0 : miss T R hs (p : Int) (a : Int) (b : Int) = 0
  ·rw [if_pos (by omega), if_pos (by omega), ih k (b + 1) _ (by omega) (by omega) (by simp; omega) (by omega), if_pos h0, List.append_assoc]
  ·rw [if_neg (by omega), ih k (b + 1) _ (by omega) (by omega) (by omega) (by omega), if_neg h0, List.nil_append]
theorem ch_l0 (d : Nat) : ∀ (k a : Nat) (acc : List S61), m - a = d → a ≤ m → acc.length ≤ 100 * a → 300 + 30 * d + 1 ≤ k → saronref06_choices.l0 k hs (p : Int) acc (a : Int) T O L R = some (acc ++ chFrom T R hs p m a) := by
 induction d with
 | zero =>
  intro k a acc hd ha hl hk
  obtain ⟨k, rfl⟩ : ∃ z, k = z + 1 := ⟨k - 1, by omega⟩
  obtain rfl : a = m := by omega
  simp only [saronref06_choices.l0]
  rw [tones_f T O L R a hm hm', Option.bind_some, if_neg (by omega), chFrom_end, List.append_nil]
 | succ d ih =>
  intro k a acc hd ha hl hk
  obtain ⟨k, rfl⟩ : ∃ z, k = z + 1 := ⟨k - 1, by omega⟩
  have h1 := ch_l1 T O L p m R hs hS hH hp hm hm' a (by omega) (300 + 30 * d + 1) (by omega) (fun acc => acc ++ chFrom T R hs p m (a + 1)) (fun k acc hk hl => ih k (a + 1) acc (by omega) (by omega) hl hk) m k 0 acc (Nat.sub_zero _) (Nat.zero_le _) (by omega) (by omega)
  simp only [saronref06_choices.l0]
  rw [tones_f T O L R m hm hm', Option.bind_some, if_pos (by omega), chFrom_cons T R hs p m a (by omega), ← List.append_assoc]
  exact h1
theorem choices_f (k : Nat) (hk : 1000 ≤ k) : saronref06_choices.f k T O L R hs (p : Int) = some ((choices T O R hs (p : Int)).map mk61) := by
 have h := ch_l0 T O L p m R hs hS hH hp hm hm' m k 0 [] (Nat.sub_zero _) (Nat.zero_le _) (Nat.le_refl _) (by omega)
 rw [List.nil_append, chFrom_zero T O R hs p m hm] at h
 exact h
end
def allFrom (T O L : Int) (R : List S66) (hs : List S60) (p : Nat) : List (List S61) := (irange (p : Int) (L / 2 - 1)).map fun x => (choices T O R hs x).map mk61
def canOn (T O L : Int) (R : List S66) (hs : List S60) (p : Nat) : Bool := (irange (p : Int) (L / 2 - 1)).all fun x => !(choices T O R hs x).isEmpty
section
variable (T O L : Int) (m : Nat) (R : List S66) (hs : List S60) (hS : okScale T O L R = true) (hH : okHeard L R hs = true) (hm : T * O = (m : Int)) (hm' : m ≤ 21)
include hS hH hm hm'
theorem all_l0 (d : Nat) : ∀ (k p : Nat) (acc : List (List S61)) (ok : Bool), (L / 2).toNat - p = d → (p : Int) ≤ L / 2 → acc.length ≤ p → 1000 + d + 1 ≤ k → saronref06_all.l0 k hs acc ok (p : Int) T O L R = some (acc ++ allFrom T O L R hs p, ok && canOn T O L R hs p) := by
 obtain ⟨t1, t2, t3, t4, t5, t6, t7, t8, t9, hok⟩ := okScale_regs hS
 have hdv : wrap64 (Int.tdiv L 2) = L / 2 := by rw [Int.tdiv_eq_ediv_of_nonneg (by omega)]; exact w64 (by omega) (by omega)
 induction d with
 | zero =>
  intro k p acc ok hd hp hl hk
  obtain ⟨k, rfl⟩ : ∃ z, k = z + 1 := ⟨k - 1, by omega⟩
  simp only [saronref06_all.l0]
  rw [hdv]
  clear hdv
  unfold allFrom canOn
  rw [if_neg (by omega), irange_nil (by omega)]
  simp
 | succ d ih =>
  intro k p acc ok hd hp hl hk
  obtain ⟨k, rfl⟩ : ∃ z, k = z + 1 := ⟨k - 1, by omega⟩
  simp only [saronref06_all.l0]
  rw [hdv]
  clear hdv
  have ih' := fun ok acc hl => ih k (p + 1) acc ok (by omega) (by omega) hl (by omega)
  have e1 : allFrom T O L R hs p = (choices T O R hs (p : Int)).map mk61 :: allFrom T O L R hs (p + 1) := by
   unfold allFrom
   rw [irange_cons (by omega)]
   rfl
  have e2 : canOn T O L R hs p = (!(choices T O R hs (p : Int)).isEmpty && canOn T O L R hs (p + 1)) := by
   unfold canOn
   rw [irange_cons (by omega)]
   rfl
  rw [if_pos (by omega), choices_f T O L p m R hs hS hH (by omega) hm hm' k (by omega), Option.bind_some, up1 p (by omega), e1, e2]
  have e3 : decide ((((choices T O R hs (p : Int)).map mk61).length : Int) > 0) = !(choices T O R hs (p : Int)).isEmpty := by
   cases choices T O R hs (p : Int)
   ·rfl
   ·simp
  cases ok
  ·rw [if_neg (by simp), if_pos (by omega), ih' _ _ (by simp; omega), List.append_assoc]; rfl
  ·rw [if_pos rfl, if_pos (by omega), ih' _ _ (by simp; omega), e3, List.append_assoc]; rfl
theorem all_f (k : Nat) (hk : 1100 ≤ k) : saronref06_all.f k T O L R hs = some (allFrom T O L R hs 0, canAll T O L R hs) := by
 obtain ⟨t1, t2, t3, t4, t5, t6, t7, t8, t9, hok⟩ := okScale_regs hS
 have h := all_l0 T O L m R hs hS hH hm hm' (L / 2).toNat k 0 [] true (Nat.sub_zero _) (by omega) (Nat.le_refl _) (by omega)
 exact h
end
theorem many_l0 (l : List (List S61)) (hl : ∀ x ∈ l, x.length ≤ 10000) (hl' : l.length ≤ 1000) (d : Nat) : ∀ (k i : Nat) (n : Int), l.length - i = d → i ≤ l.length → 0 ≤ n → n ≤ 1000000 → d + 1 ≤ k →
  saronref06_Many.l0 k l n (i : Int) = some ((l.drop i).foldl (fun n x => min 1000000 (n * (x.length : Int))) n, 0) := by
 induction d with
 | zero =>
  intro k i n hd hi h0 h1 hk
  obtain ⟨k, rfl⟩ : ∃ z, k = z + 1 := ⟨k - 1, by omega⟩
  obtain rfl : i = l.length := by omega
  simp only [saronref06_Many.l0]
  rw [if_neg (by omega), List.drop_length]
  rfl
 | succ d ih =>
  intro k i n hd hi h0 h1 hk
  obtain ⟨k, rfl⟩ : ∃ z, k = z + 1 := ⟨k - 1, by omega⟩
  have hlt : i < l.length := by omega
  have hx := hl l[i] (List.getElem_mem hlt)
  have hm0 : 0 ≤ n * (l[i].length : Int) := Int.mul_nonneg h0 (by omega)
  have hm1 : n * (l[i].length : Int) ≤ 1000000 * 10000 := Int.mul_le_mul h1 (by omega) (by omega) (by omega)
  have e : mn 1000000 (n * (l[i].length : Int)) = min 1000000 (n * (l[i].length : Int)) := by unfold mn; omega
  simp only [saronref06_Many.l0]
  rw [if_pos (by omega), if_pos (by omega), rdL9 l i hlt, w64 (n := n * (l[i].length : Int)) (by omega) (by omega), e, up1 i (by omega), List.drop_eq_getElem_cons hlt, List.foldl_cons]
  clear e
  exact ih k (i + 1) _ (by omega) (by omega) (by omega) (by omega) (by omega)
theorem irange_mem {x lo hi : Int} (h : x ∈ irange lo hi) : lo ≤ x ∧ x ≤ hi := by
 unfold irange at h
 rw [List.mem_map] at h
 obtain ⟨i, hi, rfl⟩ := h
 rw [List.mem_range] at hi
 omega
theorem irange_length (lo hi : Int) : (irange lo hi).length = (hi + 1 - lo).toNat := by unfold irange; simp
theorem rMany_f (T O L : Int) (R : List S66) (hs : List S60) (hR : R.length ≤ 9223372036854775807) (hl : Lens hs) (k : Nat) (hk : askFuel hs + 2 * R.length + 1200 ≤ k) : saronref06_Many.f k T O L R hs = some (Many T O L R hs) := by
 unfold saronref06_Many.f Many
 rw [asked_f T O L R hs hR hl k (by omega), Option.bind_some]
 cases hS : okScale T O L R
 ·rfl
 cases hH : okHeard L R hs
 ·rfl
 obtain ⟨t1, t2, t3, t4, t5, t6, t7, t8, t9, hok⟩ := okScale_regs hS
 have mr := mul_range t1 t2 t3 t4
 obtain ⟨m, hm⟩ : ∃ m : Nat, T * O = (m : Int) := Int.eq_ofNat_of_zero_le (by omega)
 rw [if_pos rfl, if_pos rfl, if_pos rfl, all_f T O L m R hs hS hH hm (by omega) k (by omega), Option.bind_some]
 cases hC : canAll T O L R hs
 ·rfl
 rw [if_pos rfl, if_pos rfl, if_pos rfl, if_pos rfl]
 have hlen : (allFrom T O L R hs 0).length ≤ 10 := by unfold allFrom; rw [List.length_map, irange_length]; omega
 have h := many_l0 (allFrom T O L R hs 0) (fun x hx => by
  unfold allFrom at hx
  rw [List.mem_map] at hx
  obtain ⟨y, hy, rfl⟩ := hx
  have := irange_mem hy
  obtain ⟨p, rfl⟩ : ∃ p : Nat, y = (p : Int) := Int.eq_ofNat_of_zero_le (by omega)
  rw [List.length_map]
  exact choices_len T O R hs p m hm (by omega)) (by omega) (allFrom T O L R hs 0).length k 0 1 (Nat.sub_zero _) (Nat.zero_le _) (by omega) (by omega) (by omega)
 refine h.trans ?_
 rw [List.drop_zero]
 unfold allFrom manyOf
 rw [List.foldl_map]
 simp only [List.length_map]
 rfl
end Go.Proofs.YtagkfkdoibnhfaaDoor.K
end
section
namespace Go.Proofs.YtagkfkdoibnhfaaDoor.H
open Go.RowKit Go.Proofs.YtagkfkdoibnhfaaDoorW.PrintWords Go.Proofs.YtagkfkdoibnhfaaDoorW.PrintLast Go.Proofs.YtagkfkdoibnhfaaDoorW.PrintMore
attribute [local go_sem] max2_int min2_int max_two min_two max_three min_three max_four min_four   -- for this text's walks alone
set_option linter.unusedVariables false
set_option linter.unusedSimpArgs false
open Go.Proofs.YtagkfkdoibnhfaaDoor.K
end Go.Proofs.YtagkfkdoibnhfaaDoor.H
end
section
namespace Go.Proofs.YtagkfkdoibnhfaaDoor.H
open Go.RowKit Go.Proofs.YtagkfkdoibnhfaaDoorW.PrintWords Go.Proofs.YtagkfkdoibnhfaaDoorW.PrintLast Go.Proofs.YtagkfkdoibnhfaaDoorW.PrintMore
attribute [local go_sem] max2_int min2_int max_two min_two max_three min_three max_four min_four   -- for this text's walks alone
set_option linter.unusedVariables false
set_option linter.unusedSimpArgs false
def saronref06_known.l0 : Nat → Int → List (S61) → Int → Int → Int → Int → Int → Int → List (S66) → Option (Int)
 | 0, _, _, _, _, _, _, _, _, _ => none
 | k + 1, x1, x2, x3, x9, x10, x329000, x329001, x329002, x329003 => if x10 < (x2.length : Int) then (if 0 ≤ x10 then ((saronref06_bar.f k x329000 x329001 x329002 x329003 x1 ((rd_T61 x2 x10).f0) ((rd_T61 x2 x10).f1)).bind fun t337 => (if 0 ≤ x3 then (if x3 < (t337.length : Int) then (if (rd t337 x3) = x9 then (saronref06_known.l0 k x1 x2 x3 x9 (wrap64 (x10 + 1)) x329000 x329001 x329002 x329003) else (some (-2))) else (none)) else (none))) else (none)) else (some x9)
def saronref06_known.f (k : Nat) (a0_0 : Int) (a0_1 : Int) (a0_2 : Int) (l0_3 : List (S66)) (a1 : Int) (l2 : List (S61)) (a3 : Int) : Option (Int) := if 0 < (l2.length : Int) then ((saronref06_bar.f k a0_0 a0_1 a0_2 l0_3 a1 ((rd_T61 l2 0).f0) ((rd_T61 l2 0).f1)).bind fun t331 => (if 0 ≤ a3 then (if a3 < (t331.length : Int) then (saronref06_known.l0 k a1 l2 a3 (rd t331 a3) 1 a0_0 a0_1 a0_2 l0_3) else (none)) else (none))) else (none)
def saronref06_known.T1 : Bool × List (List Nat × List Nat) := (true, [([], []), ([], []), ([], []), ([2], [2]), ([3], [3]), ([4], [4]), ([], []), ([6], [6]), ([7], [7]), ([8], [8]), ([0, 1, 5, 9], [0, 1, 5, 9]), ([], []), ([10, 11], [10, 11]), ([12], [12]), ([13, 10, 0, 1, 2, 3, 4, 5, 6, 7, 8, 9, 10, 11, 12, 13], [13])])
def saronref06_known.B1 : List Nat := [0, 0, 0, 4, 12, 28, 0, 64, 192, 448, 1023, 0, 4095, 8191, 16383]
theorem saronref06_known.tab1 : rtab .any (opsOf Tryd.f72 1) = saronref06_known.T1 := by kernel_rfl
theorem saronref06_known.bits1 : waitsOk saronref06_known.T1.2 saronref06_known.B1 = true := by kernel_rfl
def saronref06_known.T5 : Bool × List (List Nat × List Nat) := (true, [([], []), ([], []), ([], []), ([], []), ([2, 3], [2, 3]), ([4], [4]), ([5], [5]), ([], []), ([], []), ([7, 8], [7, 8]), ([9], [9]), ([10], [10]), ([0, 1, 6, 11], [0, 1, 6, 11]), ([], []), ([12, 13], [12, 13]), ([14], [14]), ([], []), ([15, 16], [15, 16])])
def saronref06_known.B5 : List Nat := [0, 0, 0, 0, 12, 28, 60, 0, 0, 384, 896, 1920, 4095, 0, 16383, 32767, 0, 131071]
theorem saronref06_known.tab5 : rtab .any (opsOf Tryd.f72 5) = saronref06_known.T5 := by kernel_rfl
theorem saronref06_known.bits5 : waitsOk saronref06_known.T5.2 saronref06_known.B5 = true := by kernel_rfl
set_option maxHeartbeats 8000000 in
set_option maxRecDepth 100000 in
theorem saronref06_known.calls (k : Nat) (a0_0 : Int) (a0_1 : Int) (a0_2 : Int) (A0_3 : Option Addr) (c0_3 : Nat) (l0_3 : List (S66)) (a1 : Int) (A2 : Option Addr) (c2 : Nat) (l2 : List (S61)) (a3 : Int) (r : Int) (w : World) (hr0_3 : Kd.C k66 w A0_3 l0_3.length l0_3) (hc0_3 : l0_3.length ≤ c0_3) (hr2 : Kd.C k61 w A2 l2.length l2) (hc2 : l2.length ≤ c2) (h : saronref06_known.f k a0_0 a0_1 a0_2 l0_3 a1 l2 a3 = some r) :
  Calls Tryd.prog 72 #[.agg #[.int .i64 a0_0, .int .i64 a0_1, .int .i64 a0_2, .slice A0_3 l0_3.length c0_3], .int .i64 a1, .slice A2 l2.length c2, .int .i64 a3] w fun e w' => e = .returned (.int .i64 r) ∧ Below w.heap.size w w' := by
 have hu24 := Tryd.underlying24
 have HR0_3 := zh hr0_3
 have HC0_3 := zh hc0_3
 clear hr0_3 hc0_3
 have HR2 := zh hr2
 have HC2 := zh hc2
 clear hr2 hc2
 have HB := zh (Below.refl w.heap.size w)
 have H : (if 0 < (l2.length : Int) then ((saronref06_bar.f k a0_0 a0_1 a0_2 l0_3 a1 ((rd_T61 l2 0).f0) ((rd_T61 l2 0).f1)).bind fun t331 => (if 0 ≤ a3 then (if a3 < (t331.length : Int) then (saronref06_known.l0 k a1 l2 a3 (rd t331 a3) 1 a0_0 a0_1 a0_2 l0_3) else (none)) else (none))) else (none)) = some r := h
 clear h
 by_cases c5 : 0 < (l2.length : Int)
 ·rw [if_pos c5] at H
  have c5b0 : decide (0 < (l2.length : Int)) = true := decide_eq_true c5
  have c5b1 : decide (0 < l2.length) = true := decide_eq_true (by omega)
  clear c5
  replace H := Option.bind_eq_some_iff.mp H
  obtain ⟨t331, A60, H⟩ := H
  replace H : (if 0 ≤ a3 then (if a3 < (t331.length : Int) then (saronref06_known.l0 k a1 l2 a3 (rd t331 a3) 1 a0_0 a0_1 a0_2 l0_3) else (none)) else (none)) = some r := H
  have A6 := zh A60
  clear A60
  by_cases c7 : 0 ≤ a3
  ·rw [if_pos c7] at H
   have c7b0 : decide (0 ≤ a3) = true := decide_eq_true c7
   clear c7
   by_cases c8 : a3 < (t331.length : Int)
   ·rw [if_pos c8] at H
    have c8b0 : decide (a3 < (t331.length : Int)) = true := decide_eq_true c8
    clear c8
    have H' := zh H
    clear H
    go_enter Tryd.func72, Tryd.ntmps72
    try go_wp2_with (first | ((with_reducible refine gate_dst (N := 4) rfl ?_); refine box_event ?hg (N := 4) ?hd (cs := #[.int .i64 a0_0, .int .i64 a0_1, .int .i64 a0_2, .slice A0_3 l0_3.length c0_3]) (t := 24) ?hr ?_; (case hd => rfl); (case hg => rfl); (case hr => first | (go_simp; done) | (go_simp; rfl)); intro gb328 hg w9 hbox hb; have n0_ := zh (below_step zb hb); have n1_ := zh (hbox); have n2_ := zh ((by rw [hg]; exact (below_size zb) : w.heap.size ≤ gb328)); have n3_ := zh ((by rw [hg]; exact (below_size zb) : w.heap.size ≤ gb328)); clear HB; have HB := n0_; have BK328 := n1_; have GW328 := n2_; have GE328 := n3_; clear n0_ n1_ n2_ n3_; clear hb hbox hg))
    replace BK328 := zh (blk_drew BK328.out)
    replace HB := zh (below_drew1 HB.out)
    have p329 : 0 ≤ (0 : Int) := (by omega)
    have q329 : 0 < (l2.length : Int) := of_decide_eq_true zs
    obtain ⟨ad329, e329, hx329_0, hx329_1⟩ := at_T61 HR2.out 0 p329 q329
    have hw329_1 := hx329_1
    (try rw [show ((0 : Int)).toNat = 0 from rfl] at hw329_1)
    (try rw [show 0 * 2 = 0 from rfl] at hw329_1)
    (try rw [Addr.add_zero'] at hw329_1)
    have hw329_0 := hx329_0
    (try rw [show ((0 : Int)).toNat = 0 from rfl] at hw329_0)
    (try rw [show 0 * 2 = 0 from rfl] at hw329_0)
    (try rw [Addr.add_zero'] at hw329_0)
    cases e329
    have qi329 : (0 < l2.length) = True := eq_true (by omega)
    (try rw [show ((0 : Int)).toNat = 0 from rfl] at hx329_0)
    (try rw [show 0 * 2 = 0 from rfl] at hx329_0)
    (try rw [Addr.add_zero'] at hx329_0)
    (try rw [show ((0 : Int)).toNat = 0 from rfl] at hx329_1)
    (try rw [show 0 * 2 = 0 from rfl] at hx329_1)
    (try rw [Addr.add_zero'] at hx329_1)
    replace hx329_0 := ve HB.out hx329_0
    replace hx329_1 := ve HB.out hx329_1
    replace p329 := eq_true p329
    replace q329 := eq_true q329
    have p330 : 0 ≤ (0 : Int) := (by omega)
    have q330 : 0 < (l2.length : Int) := of_decide_eq_true zs
    obtain ⟨ad330, e330, hx330_0, hx330_1⟩ := at_T61 HR2.out 0 p330 q330
    have hw330_1 := hx330_1
    (try rw [show ((0 : Int)).toNat = 0 from rfl] at hw330_1)
    (try rw [show 0 * 2 = 0 from rfl] at hw330_1)
    (try rw [Addr.add_zero'] at hw330_1)
    have hw330_0 := hx330_0
    (try rw [show ((0 : Int)).toNat = 0 from rfl] at hw330_0)
    (try rw [show 0 * 2 = 0 from rfl] at hw330_0)
    (try rw [Addr.add_zero'] at hw330_0)
    obtain rfl : ad329 = ad330 := (by injection e330)
    have qi330 : (0 < l2.length) = True := eq_true (by omega)
    (try rw [show ((0 : Int)).toNat = 0 from rfl] at hx330_0)
    (try rw [show 0 * 2 = 0 from rfl] at hx330_0)
    (try rw [Addr.add_zero'] at hx330_0)
    (try rw [show ((0 : Int)).toNat = 0 from rfl] at hx330_1)
    (try rw [show 0 * 2 = 0 from rfl] at hx330_1)
    (try rw [Addr.add_zero'] at hx330_1)
    replace hx330_0 := ve HB.out hx330_0
    replace hx330_1 := ve HB.out hx330_1
    replace p330 := eq_true p330
    replace q330 := eq_true q330
    refine start_ (n := 15) (S := fun w' => w'.cell? ⟨gb328, 0, none⟩ = some (.int .i64 a0_0) ∧ w'.cell? ⟨gb328, 1, none⟩ = some (.int .i64 a0_1) ∧ w'.cell? ⟨gb328, 2, none⟩ = some (.int .i64 a0_2) ∧ w'.cell? ⟨gb328, 3, none⟩ = some (.slice A0_3 l0_3.length c0_3) ∧ w'.cell? ad329 = some (.int .i64 ((rd_T61 l2 0).f0)) ∧ w'.cell? ⟨ad329.block, ad329.off + 1, none⟩ = some (.int .i64 ((rd_T61 l2 0).f1)) ∧ w'.cell? ad329 = some (.int .i64 ((rd_T61 l2 0).f0)) ∧ w'.cell? ⟨ad329.block, ad329.off + 1, none⟩ = some (.int .i64 ((rd_T61 l2 0).f1))) (ds := []) (Array.replicate 15 false) zk rfl rfl ⟨vb BK328 0, vb BK328 1, vb BK328 2, vb BK328 3, (ve HB.out hw329_0), (ve HB.out hw329_1), (ve HB.out hw330_0), (ve HB.out hw330_1)⟩ (fun hHeld => ?_); refine with_tabW saronref06_known.tab1 saronref06_known.bits1 (fun HT_ HW_ => ?_)
    generalize w9.drew = w10 at BK328 HB hx329_0 hx329_1 hx330_0 hx330_1 hHeld ⊢
    refine zu 1 ?_
    refine zu 2 ?_
    refine zu 3 ?_
    refine zu 4 ?_
    refine zu 6 ?_
    refine zu 7 ?_
    refine zu 8 ?_
    refine zu 11 ?_
    refine zt 0 ?_
    refine zt 5 ?_
    refine zt 9 ?_
    refine zo 10 (fun K hK => ?_)
    refine goes_ Tryd.func81 zk rfl #[.agg #[.int .i64 a0_0, .int .i64 a0_1, .int .i64 a0_2, .slice A0_3 l0_3.length c0_3], .int .i64 a1, .int .i64 ((rd_T61 l2 0).f0), .int .i64 ((rd_T61 l2 0).f1)] (by rfl) rfl rfl zm ?_
    with_reducible refine (saronref06_bar.calls k a0_0 a0_1 a0_2 _ _ l0_3 a1 ((rd_T61 l2 0).f0) ((rd_T61 l2 0).f1) t331 _ ?side1 ?side2 A6.out).mono ?_
    (case side1 => repeat (first | exact (Kd.C_below HR0_3.out HB.out) | (with_reducible refine Kd.C_alloc ?_ _) | (with_reducible refine Kd.C_drewN ?_ _) | (with_reducible refine Kd.C_drew ?_)))
    (case side2 => exact HC0_3.out)
    rintro e w11 ⟨v332, rfl, ho0, hb⟩
    refine ⟨_, rfl, ?_⟩
    have HO333 := zh (Kd.R_lower ho0 (below_size zb))
    replace BK328 := zh (blk_below (g := gb328) (o := .cells #[.int .i64 a0_0, .int .i64 a0_1, .int .i64 a0_2, .slice A0_3 l0_3.length c0_3] 24 (0, 0)) (zc BK328) hb)
    replace HB := zh (below_step zb hb)
    (try clear hb)
    (try clear hb2)
    (try clear hk)
    (try clear hi)
    (try clear ho0)
    obtain ⟨Ao12, co12, eo12⟩ := Kd.R_slice HO333.out
    (first | subst eo12 | (injection eo12 with f1_ f2_ f3_; have f4_ := f1_.symm; have f5_ := f3_.symm; clear f1_ f2_ f3_; subst f4_; subst f5_))
    have p334 : 0 ≤ (a3 : Int) := of_decide_eq_true zs
    have q334 : a3 < (t331.length : Int) := of_decide_eq_true zs
    obtain ⟨ad334, e334, hx334_0⟩ := Kd.at_int (Kd.R_reads' HO333.out).2.2 a3 p334 q334
    cases e334
    replace p334 := eq_true p334
    replace q334 := eq_true q334
    refine hK.out _ _ ⟨vb BK328 0, vb BK328 1, vb BK328 2, vb BK328 3, (ve HB.out hw329_0), (ve HB.out hw329_1), (ve HB.out hw330_0), (ve HB.out hw330_1)⟩ (fun hHeld => ?_)
    clear hK K
    refine zr 21 _ ?_
    refine zu 12 ?_
    refine zo 13 (fun K hK => ?_)
    refine value_ (v := ?_) (w1 := w11) (by rfl) rfl ?_ ?_
    rotate_left
    ·go_simp
     with_reducible rfl
    refine hK.out _ _ ⟨vb BK328 0, vb BK328 1, vb BK328 2, vb BK328 3, (ve HB.out hw329_0), (ve HB.out hw329_1), (ve HB.out hw330_0), (ve HB.out hw330_1)⟩ (fun hHeld => ?_)
    clear hK K
    refine zr 24 _ ?_
    refine zu 14 ?_
    refine zd ?_
    try go_wp2
    go_loopg [10] k (fun kq v10 w' => ∃ (x10_1 : Int), v10 = .int .i64 x10_1 ∧ Aside0 (saronref06_known.l0 kq a1 l2 a3 (rd t331 a3) x10_1 a0_0 a0_1 a0_2 l0_3 = some r) ∧ Aside0 (kq ≤ k) ∧ Aside0 (w'.heap[gb328]? = some (.cells #[.int .i64 a0_0, .int .i64 a0_1, .int .i64 a0_2, (.slice A0_3 l0_3.length c0_3)] 24 (0, 0))) ∧ Aside0 (Below w.heap.size w w'))
    case atStart => exact ⟨(1), ze, H', ⟨Nat.le_refl _⟩, ⟨zc BK328⟩, ⟨zb⟩⟩
    case round =>
     clear H'
     try clear c2
     try clear p2
     try clear p3
     try clear q3
     try clear hx3
     try clear qi3
     try clear c5
     try clear c5b0
     try clear c5b1
     try clear c7
     try clear c7b0
     try clear c8
     try clear c8b0
     try clear hx329_0
     try clear hx329_1
     try clear hx330_0
     try clear hx330_1
     try clear hx334_0
     try clear p329
     try clear p330
     try clear p334
     try clear q329
     try clear q330
     try clear q334
     obtain ⟨x10_1, rfl, HA, HK1, BK328, HB⟩ := hrel
     cases gk with
     | zero => exact absurd HA.out (by simp [saronref06_known.l0])
     | succ k1 =>
      have H := HA.out
      clear HA
      simp only [saronref06_known.l0] at H
      by_cases c13 : x10_1 < (l2.length : Int)
      ·rw [if_pos c13] at H
       have c13b0 : decide (x10_1 < (l2.length : Int)) = true := decide_eq_true c13
       clear c13
       by_cases c14 : 0 ≤ x10_1
       ·rw [if_pos c14] at H
        have c14b0 : decide (0 ≤ x10_1) = true := decide_eq_true c14
        clear c14
        replace H := Option.bind_eq_some_iff.mp H
        obtain ⟨t337, A150, H⟩ := H
        replace H : (if 0 ≤ a3 then (if a3 < (t337.length : Int) then (if (rd t337 a3) = (rd t331 a3) then (saronref06_known.l0 k1 a1 l2 a3 (rd t331 a3) (wrap64 (x10_1 + 1)) a0_0 a0_1 a0_2 l0_3) else (some (-2))) else (none)) else (none)) = some r := H
        have A15 := zh A150
        clear A150
        by_cases c16 : 0 ≤ a3
        ·rw [if_pos c16] at H
         have c16b0 : decide (0 ≤ a3) = true := decide_eq_true c16
         clear c16
         by_cases c17 : a3 < (t337.length : Int)
         ·rw [if_pos c17] at H
          have c17b0 : decide (a3 < (t337.length : Int)) = true := decide_eq_true c17
          clear c17
          by_cases c18 : (rd t337 a3) = (rd t331 a3)
          ·rw [if_pos c18] at H
           have c18b0 : ((rd t337 a3) == (rd t331 a3)) = true := beq_iff_eq.mpr c18
           have c18b1 : ((rd t337 a3) != (rd t331 a3)) = false := bne_eq_false_iff_eq.mpr c18
           clear c18
           have H' := zh H
           clear H
           try go_wp2
           replace BK328 := zh (blk_drew BK328.out)
           replace HB := zh (below_drew1 HB.out)
           have p335 : 0 ≤ (x10_1 : Int) := of_decide_eq_true zs
           have q335 : x10_1 < (l2.length : Int) := of_decide_eq_true zs
           obtain ⟨ad335, e335, hx335_0, hx335_1⟩ := at_T61 HR2.out x10_1 p335 q335
           have hw335_1 := hx335_1
           have hw335_0 := hx335_0
           obtain rfl : ad329 = ad335 := (by injection e335)
           replace hx335_0 := ve HB.out hx335_0
           replace hx335_1 := ve HB.out hx335_1
           replace p335 := eq_true p335
           replace q335 := eq_true q335
           have p336 : 0 ≤ (x10_1 : Int) := of_decide_eq_true zs
           have q336 : x10_1 < (l2.length : Int) := of_decide_eq_true zs
           obtain ⟨ad336, e336, hx336_0, hx336_1⟩ := at_T61 HR2.out x10_1 p336 q336
           have hw336_1 := hx336_1
           have hw336_0 := hx336_0
           obtain rfl : ad329 = ad336 := (by injection e336)
           replace hx336_0 := ve HB.out hx336_0
           replace hx336_1 := ve HB.out hx336_1
           replace p336 := eq_true p336
           replace q336 := eq_true q336
           refine start_ (n := 18) (S := fun w' => w'.cell? ⟨gb328, 0, none⟩ = some (.int .i64 a0_0) ∧ w'.cell? ⟨gb328, 1, none⟩ = some (.int .i64 a0_1) ∧ w'.cell? ⟨gb328, 2, none⟩ = some (.int .i64 a0_2) ∧ w'.cell? ⟨gb328, 3, none⟩ = some (.slice A0_3 l0_3.length c0_3) ∧ w'.cell? (ad329.add ((x10_1).toNat * 2)) = some (.int .i64 ((rd_T61 l2 x10_1).f0)) ∧ w'.cell? ⟨(ad329.add ((x10_1).toNat * 2)).block, (ad329.add ((x10_1).toNat * 2)).off + 1, none⟩ = some (.int .i64 ((rd_T61 l2 x10_1).f1)) ∧ w'.cell? (ad329.add ((x10_1).toNat * 2)) = some (.int .i64 ((rd_T61 l2 x10_1).f0)) ∧ w'.cell? ⟨(ad329.add ((x10_1).toNat * 2)).block, (ad329.add ((x10_1).toNat * 2)).off + 1, none⟩ = some (.int .i64 ((rd_T61 l2 x10_1).f1))) (ds := []) (Array.replicate 18 false) zk rfl rfl ⟨vb BK328 0, vb BK328 1, vb BK328 2, vb BK328 3, (ve HB.out hw335_0), (ve HB.out hw335_1), (ve HB.out hw336_0), (ve HB.out hw336_1)⟩ (fun hHeld => ?_); refine with_tabW saronref06_known.tab5 saronref06_known.bits5 (fun HT_ HW_ => ?_)
           generalize wr.drew = w19 at BK328 HB hx335_0 hx335_1 hx336_0 hx336_1 hHeld ⊢
           refine zu 1 ?_
           refine zu 2 ?_
           refine zu 3 ?_
           refine zu 4 ?_
           refine zu 5 ?_
           refine zu 7 ?_
           refine zu 8 ?_
           refine zu 9 ?_
           refine zu 10 ?_
           refine zu 13 ?_
           refine zu 16 ?_
           refine zt 0 ?_
           refine zt 6 ?_
           refine zt 11 ?_
           refine zo 12 (fun K hK => ?_)
           refine goes_ Tryd.func81 zk rfl #[.agg #[.int .i64 a0_0, .int .i64 a0_1, .int .i64 a0_2, .slice A0_3 l0_3.length c0_3], .int .i64 a1, .int .i64 ((rd_T61 l2 x10_1).f0), .int .i64 ((rd_T61 l2 x10_1).f1)] (by rfl) rfl rfl zm ?_
           with_reducible refine (saronref06_bar.calls k1 a0_0 a0_1 a0_2 _ _ l0_3 a1 ((rd_T61 l2 x10_1).f0) ((rd_T61 l2 x10_1).f1) t337 _ ?side1 ?side2 A15.out).mono ?_
           (case side1 => repeat (first | exact (Kd.C_below HR0_3.out HB.out) | (with_reducible refine Kd.C_alloc ?_ _) | (with_reducible refine Kd.C_drewN ?_ _) | (with_reducible refine Kd.C_drew ?_)))
           (case side2 => exact HC0_3.out)
           rintro e w20 ⟨v338, rfl, ho0, hb⟩
           refine ⟨_, rfl, ?_⟩
           have HO339 := zh (Kd.R_lower ho0 (below_size zb))
           replace BK328 := zh (blk_below (g := gb328) (o := .cells #[.int .i64 a0_0, .int .i64 a0_1, .int .i64 a0_2, .slice A0_3 l0_3.length c0_3] 24 (0, 0)) (zc BK328) hb)
           replace HB := zh (below_step zb hb)
           (try clear hb)
           (try clear hb2)
           (try clear hk)
           (try clear hi)
           (try clear ho0)
           obtain ⟨Ao21, co21, eo21⟩ := Kd.R_slice HO339.out
           (first | subst eo21 | (injection eo21 with f1_ f2_ f3_; have f4_ := f1_.symm; have f5_ := f3_.symm; clear f1_ f2_ f3_; subst f4_; subst f5_))
           have p340 : 0 ≤ (a3 : Int) := of_decide_eq_true zs
           have q340 : a3 < (t337.length : Int) := of_decide_eq_true zs
           obtain ⟨ad340, e340, hx340_0⟩ := Kd.at_int (Kd.R_reads' HO339.out).2.2 a3 p340 q340
           cases e340
           replace p340 := eq_true p340
           replace q340 := eq_true q340
           refine hK.out _ _ ⟨vb BK328 0, vb BK328 1, vb BK328 2, vb BK328 3, (ve HB.out hw335_0), (ve HB.out hw335_1), (ve HB.out hw336_0), (ve HB.out hw336_1)⟩ (fun hHeld => ?_)
           clear hK K
           refine zr 43 _ ?_
           refine zu 14 ?_
           refine zo 15 (fun K hK => ?_)
           refine value_ (v := ?_) (w1 := w20) (by rfl) rfl ?_ ?_
           rotate_left
           ·go_simp
            with_reducible rfl
           refine hK.out _ _ ⟨vb BK328 0, vb BK328 1, vb BK328 2, vb BK328 3, (ve HB.out hw335_0), (ve HB.out hw335_1), (ve HB.out hw336_0), (ve HB.out hw336_1)⟩ (fun hHeld => ?_)
           clear hK K
           refine zr 46 _ ?_
           refine zu 17 ?_
           refine zd ?_
           try go_wp2
           go_roundg k1
           case measure => have := HK1.out; omega
           case rel => exact ⟨(wrap64 (x10_1 + 1)), ze, H', ⟨by have := HK1.out; omega⟩, ⟨zc BK328⟩, ⟨zb⟩⟩
          ·rw [if_neg c18] at H
           have c18b0 : ((rd t337 a3) == (rd t331 a3)) = false := beq_eq_false_iff_ne.mpr c18
           have c18b1 : ((rd t337 a3) != (rd t331 a3)) = true := bne_iff_ne.mpr c18
           obtain rfl := Option.some.inj H
           try go_wp2
           replace BK328 := zh (blk_drew BK328.out)
           replace HB := zh (below_drew1 HB.out)
           have p335 : 0 ≤ (x10_1 : Int) := of_decide_eq_true zs
           have q335 : x10_1 < (l2.length : Int) := of_decide_eq_true zs
           obtain ⟨ad335, e335, hx335_0, hx335_1⟩ := at_T61 HR2.out x10_1 p335 q335
           have hw335_1 := hx335_1
           have hw335_0 := hx335_0
           obtain rfl : ad329 = ad335 := (by injection e335)
           replace hx335_0 := ve HB.out hx335_0
           replace hx335_1 := ve HB.out hx335_1
           replace p335 := eq_true p335
           replace q335 := eq_true q335
           have p336 : 0 ≤ (x10_1 : Int) := of_decide_eq_true zs
           have q336 : x10_1 < (l2.length : Int) := of_decide_eq_true zs
           obtain ⟨ad336, e336, hx336_0, hx336_1⟩ := at_T61 HR2.out x10_1 p336 q336
           have hw336_1 := hx336_1
           have hw336_0 := hx336_0
           obtain rfl : ad329 = ad336 := (by injection e336)
           replace hx336_0 := ve HB.out hx336_0
           replace hx336_1 := ve HB.out hx336_1
           replace p336 := eq_true p336
           replace q336 := eq_true q336
           refine start_ (n := 18) (S := fun w' => w'.cell? ⟨gb328, 0, none⟩ = some (.int .i64 a0_0) ∧ w'.cell? ⟨gb328, 1, none⟩ = some (.int .i64 a0_1) ∧ w'.cell? ⟨gb328, 2, none⟩ = some (.int .i64 a0_2) ∧ w'.cell? ⟨gb328, 3, none⟩ = some (.slice A0_3 l0_3.length c0_3) ∧ w'.cell? (ad329.add ((x10_1).toNat * 2)) = some (.int .i64 ((rd_T61 l2 x10_1).f0)) ∧ w'.cell? ⟨(ad329.add ((x10_1).toNat * 2)).block, (ad329.add ((x10_1).toNat * 2)).off + 1, none⟩ = some (.int .i64 ((rd_T61 l2 x10_1).f1)) ∧ w'.cell? (ad329.add ((x10_1).toNat * 2)) = some (.int .i64 ((rd_T61 l2 x10_1).f0)) ∧ w'.cell? ⟨(ad329.add ((x10_1).toNat * 2)).block, (ad329.add ((x10_1).toNat * 2)).off + 1, none⟩ = some (.int .i64 ((rd_T61 l2 x10_1).f1))) (ds := []) (Array.replicate 18 false) zk rfl rfl ⟨vb BK328 0, vb BK328 1, vb BK328 2, vb BK328 3, (ve HB.out hw335_0), (ve HB.out hw335_1), (ve HB.out hw336_0), (ve HB.out hw336_1)⟩ (fun hHeld => ?_); refine with_tabW saronref06_known.tab5 saronref06_known.bits5 (fun HT_ HW_ => ?_)
           generalize wr.drew = w22 at BK328 HB hx335_0 hx335_1 hx336_0 hx336_1 hHeld ⊢
           refine zu 1 ?_
           refine zu 2 ?_
           refine zu 3 ?_
           refine zu 4 ?_
           refine zu 5 ?_
           refine zu 7 ?_
           refine zu 8 ?_
           refine zu 9 ?_
           refine zu 10 ?_
           refine zu 13 ?_
           refine zu 16 ?_
           refine zt 0 ?_
           refine zt 6 ?_
           refine zt 11 ?_
           refine zo 12 (fun K hK => ?_)
           refine goes_ Tryd.func81 zk rfl #[.agg #[.int .i64 a0_0, .int .i64 a0_1, .int .i64 a0_2, .slice A0_3 l0_3.length c0_3], .int .i64 a1, .int .i64 ((rd_T61 l2 x10_1).f0), .int .i64 ((rd_T61 l2 x10_1).f1)] (by rfl) rfl rfl zm ?_
           with_reducible refine (saronref06_bar.calls k1 a0_0 a0_1 a0_2 _ _ l0_3 a1 ((rd_T61 l2 x10_1).f0) ((rd_T61 l2 x10_1).f1) t337 _ ?side1 ?side2 A15.out).mono ?_
           (case side1 => repeat (first | exact (Kd.C_below HR0_3.out HB.out) | (with_reducible refine Kd.C_alloc ?_ _) | (with_reducible refine Kd.C_drewN ?_ _) | (with_reducible refine Kd.C_drew ?_)))
           (case side2 => exact HC0_3.out)
           rintro e w23 ⟨v338, rfl, ho0, hb⟩
           refine ⟨_, rfl, ?_⟩
           have HO339 := zh (Kd.R_lower ho0 (below_size zb))
           replace BK328 := zh (blk_below (g := gb328) (o := .cells #[.int .i64 a0_0, .int .i64 a0_1, .int .i64 a0_2, .slice A0_3 l0_3.length c0_3] 24 (0, 0)) (zc BK328) hb)
           replace HB := zh (below_step zb hb)
           (try clear hb)
           (try clear hb2)
           (try clear hk)
           (try clear hi)
           (try clear ho0)
           obtain ⟨Ao24, co24, eo24⟩ := Kd.R_slice HO339.out
           (first | subst eo24 | (injection eo24 with f1_ f2_ f3_; have f4_ := f1_.symm; have f5_ := f3_.symm; clear f1_ f2_ f3_; subst f4_; subst f5_))
           have p340 : 0 ≤ (a3 : Int) := of_decide_eq_true zs
           have q340 : a3 < (t337.length : Int) := of_decide_eq_true zs
           obtain ⟨ad340, e340, hx340_0⟩ := Kd.at_int (Kd.R_reads' HO339.out).2.2 a3 p340 q340
           cases e340
           replace p340 := eq_true p340
           replace q340 := eq_true q340
           refine hK.out _ _ ⟨vb BK328 0, vb BK328 1, vb BK328 2, vb BK328 3, (ve HB.out hw335_0), (ve HB.out hw335_1), (ve HB.out hw336_0), (ve HB.out hw336_1)⟩ (fun hHeld => ?_)
           clear hK K
           refine zr 43 _ ?_
           refine zu 14 ?_
           refine zo 15 (fun K hK => ?_)
           refine value_ (v := ?_) (w1 := w23) (by rfl) rfl ?_ ?_
           rotate_left
           ·go_simp
            with_reducible rfl
           refine hK.out _ _ ⟨vb BK328 0, vb BK328 1, vb BK328 2, vb BK328 3, (ve HB.out hw335_0), (ve HB.out hw335_1), (ve HB.out hw336_0), (ve HB.out hw336_1)⟩ (fun hHeld => ?_)
           clear hK K
           refine zr 46 _ ?_
           refine zu 17 ?_
           refine zd ?_
           try go_wp2
           go_ret
           exact ⟨zf, zb⟩
         ·rw [if_neg c17] at H
          exact absurd H (by simp)
        ·rw [if_neg c16] at H
         exact absurd H (by simp)
       ·rw [if_neg c14] at H
        exact absurd H (by simp)
      ·rw [if_neg c13] at H
       have c13b0 : decide (x10_1 < (l2.length : Int)) = false := decide_eq_false c13
       clear c13
       obtain rfl := Option.some.inj H
       go_wp2
       go_ret
       exact ⟨zf, zb⟩
   ·rw [if_neg c8] at H
    exact absurd H (by simp)
  ·rw [if_neg c7] at H
   exact absurd H (by simp)
 ·rw [if_neg c5] at H
  exact absurd H (by simp)
end Go.Proofs.YtagkfkdoibnhfaaDoor.H
end
section
namespace Go.Proofs.YtagkfkdoibnhfaaDoor.H
open Go.RowKit Go.Proofs.YtagkfkdoibnhfaaDoorW.PrintWords Go.Proofs.YtagkfkdoibnhfaaDoorW.PrintLast Go.Proofs.YtagkfkdoibnhfaaDoorW.PrintMore
attribute [local go_sem] max2_int min2_int max_two min_two max_three min_three max_four min_four   -- for this text's walks alone
set_option linter.unusedVariables false
set_option linter.unusedSimpArgs false
mutual
def saronref06_Filled.l0 : Nat → List (S60) → List (List (S61)) → List (List Int) → Int → Int → Int → Int → List (S66) → Option ((List (List Int)) × Int)
 | 0, _, _, _, _, _, _, _, _ => none
 | k + 1, x1, x7, x9, x10, x342000, x342001, x342002, x342003 => if x10 < (x1.length : Int) then (if 0 ≤ x10 then ((saronref06_size.f k x342000 x342001 x342002 x342003 ((rd_T60 x1 x10).f0)).bind fun t348 => (saronref06_Filled.l1 k x1 x7 x9 x10 t348 ([] : List Int) 0 x342000 x342001 x342002 x342003)) else (none)) else (some (x9, 0))
def saronref06_Filled.l1 : Nat → List (S60) → List (List (S61)) → List (List Int) → Int → Int → List Int → Int → Int → Int → Int → List (S66) → Option ((List (List Int)) × Int)
 | 0, _, _, _, _, _, _, _, _, _, _, _ => none
 | k + 1, x1, x7, x9, x10, x11, x12, x13, x342000, x342001, x342002, x342003 => if 0 ≤ x10 then (if x10 < (x1.length : Int) then (if x13 < (((rd_T60 x1 x10).f1).length : Int) then (if 0 ≤ x13 then (if (rd ((rd_T60 x1 x10).f1) x13) = (-2) then (if x11 = 0 then (none) else (if 0 ≤ (wrap64 (Int.tdiv x13 x11)) then (if (wrap64 (Int.tdiv x13 x11)) < (x7.length : Int) then ((saronref06_known.f k x342000 x342001 x342002 x342003 ((rd_T60 x1 x10).f0) (rd_L9 x7 (wrap64 (Int.tdiv x13 x11))) (Int.tmod x13 x11)).bind fun t354 => (if x12.length < 17592186044416 then (saronref06_Filled.l1 k x1 x7 x9 x10 x11 (x12 ++ [t354]) (wrap64 (x13 + 1)) x342000 x342001 x342002 x342003) else (none))) else (none)) else (none))) else (if x12.length < 17592186044416 then (saronref06_Filled.l1 k x1 x7 x9 x10 x11 (x12 ++ [rd ((rd_T60 x1 x10).f1) x13]) (wrap64 (x13 + 1)) x342000 x342001 x342002 x342003) else (none))) else (none)) else (if x9.length < 5864062014805 then (saronref06_Filled.l0 k x1 x7 (x9 ++ [x12]) (wrap64 (x10 + 1)) x342000 x342001 x342002 x342003) else (none))) else (none)) else (none)
end
def saronref06_Filled.f (k : Nat) (a0_0 : Int) (a0_1 : Int) (a0_2 : Int) (l0_3 : List (S66)) (l1 : List (S60)) : Option ((List (List Int)) × Int) := (saronref06_asked.f k a0_0 a0_1 a0_2 l0_3 l1).bind fun t342 => (if t342 = 0 then ((saronref06_all.f k a0_0 a0_1 a0_2 l0_3 l1).bind fun bt343 => (if bt343.2 = true then (saronref06_Filled.l0 k l1 bt343.1 ([] : List (List Int)) 0 a0_0 a0_1 a0_2 l0_3) else (some (([] : List (List Int)), 62)))) else (some (([] : List (List Int)), t342)))
def saronref06_Filled.T11 : Bool × List (List Nat × List Nat) := (true, [([], []), ([], []), ([], []), ([1, 2], [1, 2]), ([3], [3]), ([4], [4]), ([0, 5], [0, 5]), ([6, 6, 0, 1, 2, 3, 4, 5, 6], [6])])
def saronref06_Filled.B11 : List Nat := [0, 0, 0, 6, 14, 30, 63, 127]
theorem saronref06_Filled.tab11 : rtab .any (opsOf Tryd.f29 11) = saronref06_Filled.T11 := by kernel_rfl
theorem saronref06_Filled.bits11 : waitsOk saronref06_Filled.T11.2 saronref06_Filled.B11 = true := by kernel_rfl
def saronref06_Filled.T18 : Bool × List (List Nat × List Nat) := (true, [([], []), ([], []), ([], []), ([1, 2], [1, 2]), ([3], [3]), ([4], [4]), ([], []), ([], []), ([], []), ([7, 8], [7, 8]), ([6, 9], [6, 9]), ([10], [10]), ([], []), ([], []), ([12, 13], [12, 13]), ([0, 5, 11, 14], [0, 5, 11, 14]), ([15, 15, 0, 1, 2, 3, 4, 5, 6, 7, 8, 9, 10, 11, 12, 13, 14, 15], [15])])
def saronref06_Filled.B18 : List Nat := [0, 0, 0, 6, 14, 30, 0, 0, 0, 384, 960, 1984, 0, 0, 12288, 32767, 65535]
theorem saronref06_Filled.tab18 : rtab .any (opsOf Tryd.f29 18) = saronref06_Filled.T18 := by kernel_rfl
theorem saronref06_Filled.bits18 : waitsOk saronref06_Filled.T18.2 saronref06_Filled.B18 = true := by kernel_rfl
set_option maxHeartbeats 8000000 in
set_option maxRecDepth 100000 in
theorem saronref06_Filled.calls (k : Nat) (a0_0 : Int) (a0_1 : Int) (a0_2 : Int) (A0_3 : Option Addr) (c0_3 : Nat) (l0_3 : List (S66)) (A1 : Option Addr) (c1 : Nat) (l1 : List (S60)) (r1 : List (List Int)) (r2 : Int) (w : World) (hr0_3 : Kd.C k66 w A0_3 l0_3.length l0_3) (hc0_3 : l0_3.length ≤ c0_3) (hr1 : Kd.C k60 w A1 l1.length l1) (hc1 : l1.length ≤ c1) (h : saronref06_Filled.f k a0_0 a0_1 a0_2 l0_3 l1 = some (r1, r2)) :
  Calls Tryd.prog 29 #[.agg #[.int .i64 a0_0, .int .i64 a0_1, .int .i64 a0_2, .slice A0_3 l0_3.length c0_3], .slice A1 l1.length c1] w fun e w' => ∃ v0_ : Value, e = .returned (.tuple #[v0_, .int .i64 r2]) ∧ Kd.S (Kd.slice 3 (Kd.int .i64)) 25 w' w.heap.size (fun _ => True) v0_ r1 ∧ Below w.heap.size w w' := by
 have hu24 := Tryd.underlying24
 have HR0_3 := zh hr0_3
 have HC0_3 := zh hc0_3
 clear hr0_3 hc0_3
 have HR1 := zh hr1
 have HC1 := zh hc1
 clear hr1 hc1
 have HB := zh (Below.refl w.heap.size w)
 have H : ((saronref06_asked.f k a0_0 a0_1 a0_2 l0_3 l1).bind fun t342 => (if t342 = 0 then ((saronref06_all.f k a0_0 a0_1 a0_2 l0_3 l1).bind fun bt343 => (if bt343.2 = true then (saronref06_Filled.l0 k l1 bt343.1 ([] : List (List Int)) 0 a0_0 a0_1 a0_2 l0_3) else (some (([] : List (List Int)), 62)))) else (some (([] : List (List Int)), t342)))) = some (r1, r2) := h
 clear h
 replace H := Option.bind_eq_some_iff.mp H
 obtain ⟨t342, A30, H⟩ := H
 replace H : (if t342 = 0 then ((saronref06_all.f k a0_0 a0_1 a0_2 l0_3 l1).bind fun bt343 => (if bt343.2 = true then (saronref06_Filled.l0 k l1 bt343.1 ([] : List (List Int)) 0 a0_0 a0_1 a0_2 l0_3) else (some (([] : List (List Int)), 62)))) else (some (([] : List (List Int)), t342))) = some (r1, r2) := H
 have A3 := zh A30
 clear A30
 by_cases c4 : t342 = 0
 ·rw [if_pos c4] at H
  have c4b0 : (t342 == 0) = true := beq_iff_eq.mpr c4
  have c4b1 : (t342 != 0) = false := bne_eq_false_iff_eq.mpr c4
  clear c4
  replace H := Option.bind_eq_some_iff.mp H
  obtain ⟨⟨t343, t346⟩, A50, H⟩ := H
  replace H : (if t346 = true then (saronref06_Filled.l0 k l1 t343 ([] : List (List Int)) 0 a0_0 a0_1 a0_2 l0_3) else (some (([] : List (List Int)), 62))) = some (r1, r2) := H
  have A5 := zh A50
  clear A50
  by_cases c6 : t346 = true
  ·subst c6
   have H1 : (saronref06_Filled.l0 k l1 t343 ([] : List (List Int)) 0 a0_0 a0_1 a0_2 l0_3) = some (r1, r2) := by rw [if_pos rfl] at H; exact H
   clear H
   have H := H1
   clear H1
   have H' := zh H
   clear H
   go_enter Tryd.func29, Tryd.ntmps29
   go_wp2_with (first | ((with_reducible refine gate_dst (N := 2) rfl ?_); refine box_event ?hg (N := 2) ?hd (cs := #[.int .i64 a0_0, .int .i64 a0_1, .int .i64 a0_2, .slice A0_3 l0_3.length c0_3]) (t := 24) ?hr ?_; (case hd => rfl); (case hg => rfl); (case hr => first | (go_simp; done) | (go_simp; rfl)); intro gb341 hg w7 hbox hb; have n0_ := zh (below_step zb hb); have n1_ := zh (hbox); have n2_ := zh ((by rw [hg]; exact (below_size zb) : w.heap.size ≤ gb341)); have n3_ := zh ((by rw [hg]; exact (below_size zb) : w.heap.size ≤ gb341)); clear HB; have HB := n0_; have BK341 := n1_; have GW341 := n2_; have GE341 := n3_; clear n0_ n1_ n2_ n3_; clear hb hbox hg; have hcz8_0 : w7.cell? ⟨gb341, 0, none⟩ = some (.int .i64 a0_0) := vb BK341 0; have hcz8_1 : w7.cell? ⟨gb341, 1, none⟩ = some (.int .i64 a0_1) := vb BK341 1; have hcz8_2 : w7.cell? ⟨gb341, 2, none⟩ = some (.int .i64 a0_2) := vb BK341 2; have hcz8_3 : w7.cell? ⟨gb341, 3, none⟩ = some (.slice A0_3 l0_3.length c0_3) := vb BK341 3; have hfz8_0 := blk_frozen BK341.out 0; have hfz8_1 := blk_frozen BK341.out 1; have hfz8_2 := blk_frozen BK341.out 2; have hfz8_3 := blk_frozen BK341.out 3) | ((with_reducible refine gate_callee (f := 66) rfl ?_); refine goesL_ (some 17) rfl rfl Tryd.func66 zk rfl #[.agg #[.int .i64 a0_0, .int .i64 a0_1, .int .i64 a0_2, .slice A0_3 l0_3.length c0_3], .slice A1 l1.length c1] rfl zm ?_; (with_reducible refine (saronref06_asked.calls k a0_0 a0_1 a0_2 _ _ l0_3 _ _ l1 t342 _ ?side1 ?side2 ?side3 ?side4 A3.out).mono ?_); (case side1 => repeat (first | exact (Kd.C_below HR0_3.out HB.out) | (with_reducible refine Kd.C_alloc ?_ _) | (with_reducible refine Kd.C_drewN ?_ _) | (with_reducible refine Kd.C_drew ?_))); (case side2 => exact HC0_3.out); (case side3 => repeat (first | exact (Kd.C_below HR1.out HB.out) | (with_reducible refine Kd.C_alloc ?_ _) | (with_reducible refine Kd.C_drewN ?_ _) | (with_reducible refine Kd.C_drew ?_))); (case side4 => exact HC1.out); rintro e w9 ⟨rfl, hb⟩; refine ⟨_, rfl, ?_⟩; have n0_ := zh (blk_below (g := gb341) (o := .cells #[.int .i64 a0_0, .int .i64 a0_1, .int .i64 a0_2, .slice A0_3 l0_3.length c0_3] 24 (0, 0)) (zc BK341) hb); have n1_ := zh (below_step zb hb); clear BK341; clear HB; have BK341 := n0_; have HB := n1_; clear n0_ n1_; (try clear hb); (try clear hb2); (try clear hk); (try clear hi); have hcz10_0 : w9.cell? ⟨gb341, 0, none⟩ = some (.int .i64 a0_0) := vb BK341 0; have hcz10_1 : w9.cell? ⟨gb341, 1, none⟩ = some (.int .i64 a0_1) := vb BK341 1; have hcz10_2 : w9.cell? ⟨gb341, 2, none⟩ = some (.int .i64 a0_2) := vb BK341 2; have hcz10_3 : w9.cell? ⟨gb341, 3, none⟩ = some (.slice A0_3 l0_3.length c0_3) := vb BK341 3; have hfz10_0 := blk_frozen BK341.out 0; have hfz10_1 := blk_frozen BK341.out 1; have hfz10_2 := blk_frozen BK341.out 2; have hfz10_3 := blk_frozen BK341.out 3) | ((with_reducible refine gate_callee (f := 67) rfl ?_); refine goesL_ (some 24) rfl rfl Tryd.func67 zk rfl #[.agg #[.int .i64 a0_0, .int .i64 a0_1, .int .i64 a0_2, .slice A0_3 l0_3.length c0_3], .slice A1 l1.length c1] rfl zm ?_; (with_reducible refine (saronref06_all.calls k a0_0 a0_1 a0_2 _ _ l0_3 _ _ l1 t343 true _ ?side1 ?side2 ?side3 ?side4 A5.out).mono ?_); (case side1 => repeat (first | exact (Kd.C_below HR0_3.out HB.out) | (with_reducible refine Kd.C_alloc ?_ _) | (with_reducible refine Kd.C_drewN ?_ _) | (with_reducible refine Kd.C_drew ?_))); (case side2 => exact HC0_3.out); (case side3 => repeat (first | exact (Kd.C_below HR1.out HB.out) | (with_reducible refine Kd.C_alloc ?_ _) | (with_reducible refine Kd.C_drewN ?_ _) | (with_reducible refine Kd.C_drew ?_))); (case side4 => exact HC1.out); rintro e w11 ⟨v344, rfl, ho0, hb⟩; refine ⟨_, rfl, ?_⟩; have n0_ := zh (Kd.S_lower ho0 (below_size zb)); have n1_ := zh (blk_below (g := gb341) (o := .cells #[.int .i64 a0_0, .int .i64 a0_1, .int .i64 a0_2, .slice A0_3 l0_3.length c0_3] 24 (0, 0)) (zc BK341) hb); have n2_ := zh (below_step zb hb); clear BK341; clear HB; have HO345 := n0_; have BK341 := n1_; have HB := n2_; clear n0_ n1_ n2_; (try clear hb); (try clear hb2); (try clear hk); (try clear hi); (try clear ho0)))
   go_loopg [9, 10] k (fun kq v9 v10 w' => ∃ (x9_1 : List (List Int)) (x10_1 : Int), v10 = .int .i64 x10_1 ∧ Aside0 (saronref06_Filled.l0 kq l1 t343 x9_1 x10_1 a0_0 a0_1 a0_2 l0_3 = some (r1, r2)) ∧ Aside0 (kq ≤ k) ∧ Aside0 (Kd.S (Kd.slice 61 k61) 44 w' w.heap.size (fun _ => True) v344 t343) ∧ Aside0 (Kd.S (Kd.slice 3 (Kd.int .i64)) 25 w' w.heap.size (fun _ => True) v9 x9_1) ∧ Aside0 (w'.heap[gb341]? = some (.cells #[.int .i64 a0_0, .int .i64 a0_1, .int .i64 a0_2, (.slice A0_3 l0_3.length c0_3)] 24 (0, 0))) ∧ Aside0 (Below w.heap.size w w'))
   case atStart => exact ⟨(([] : List (List Int))), (0), ze, H', ⟨Nat.le_refl _⟩, ⟨zS HO345⟩, ⟨by first | exact Kd.S_nil _ _ _ _ _ | exact Kd.N_nil _ _ _ _ _ | exact Kd.V_nil _ _ _ _ _ | exact Kd.Q_nil _ _ _ _ _ | exact Kd.R_nil _ _ _ _ _⟩, ⟨zc BK341⟩, ⟨zb⟩⟩
   case round =>
    clear H'
    try clear c1
    try clear c2
    try clear p2
    try clear c4
    try clear c4b0
    try clear c4b1
    try clear c6
    try clear hcz10_0
    try clear hcz10_1
    try clear hcz10_2
    try clear hcz10_3
    try clear hcz8_0
    try clear hcz8_1
    try clear hcz8_2
    try clear hcz8_3
    try clear hfz10_0
    try clear hfz10_1
    try clear hfz10_2
    try clear hfz10_3
    try clear hfz8_0
    try clear hfz8_1
    try clear hfz8_2
    try clear hfz8_3
    obtain ⟨x9_1, x10_1, rfl, HA, HK1, HO_7, HO_9, BK341, HB⟩ := hrel
    cases gk with
    | zero => exact absurd HA.out (by simp [saronref06_Filled.l0])
    | succ k1 =>
     have H := HA.out
     clear HA
     simp only [saronref06_Filled.l0] at H
     by_cases c12 : x10_1 < (l1.length : Int)
     ·rw [if_pos c12] at H
      have c12b0 : decide (x10_1 < (l1.length : Int)) = true := decide_eq_true c12
      clear c12
      by_cases c13 : 0 ≤ x10_1
      ·rw [if_pos c13] at H
       have c13b0 : decide (0 ≤ x10_1) = true := decide_eq_true c13
       clear c13
       replace H := Option.bind_eq_some_iff.mp H
       obtain ⟨t348, A140, H⟩ := H
       replace H : (saronref06_Filled.l1 k1 l1 t343 x9_1 x10_1 t348 ([] : List Int) 0 a0_0 a0_1 a0_2 l0_3) = some (r1, r2) := H
       have A14 := zh A140
       clear A140
       have H' := zh H
       clear H
       try go_wp2
       replace HO_7 := zh (Kd.S_drew HO_7.out)
       replace HO_9 := zh (Kd.S_drew HO_9.out)
       replace BK341 := zh (blk_drew BK341.out)
       replace HB := zh (below_drew1 HB.out)
       have p347 : 0 ≤ (x10_1 : Int) := of_decide_eq_true zs
       have q347 : x10_1 < (l1.length : Int) := of_decide_eq_true zs
       obtain ⟨ad347, A347_1, c347_1, e347, hx347_0, hx347_1, hl347_1, hi347_1⟩ := at_T60 HR1.out x10_1 p347 q347
       have hw347_1 := hx347_1
       have hw347_0 := hx347_0
       cases e347
       replace hx347_0 := ve HB.out hx347_0
       replace hx347_1 := ve HB.out hx347_1
       have HR347_1 := zh hi347_1
       have HC347_1 := zh hl347_1
       clear hi347_1 hl347_1
       replace p347 := eq_true p347
       replace q347 := eq_true q347
       refine start_ (n := 8) (S := fun w' => w'.cell? ⟨gb341, 0, none⟩ = some (.int .i64 a0_0) ∧ w'.cell? ⟨gb341, 1, none⟩ = some (.int .i64 a0_1) ∧ w'.cell? ⟨gb341, 2, none⟩ = some (.int .i64 a0_2) ∧ w'.cell? ⟨gb341, 3, none⟩ = some (.slice A0_3 l0_3.length c0_3) ∧ w'.cell? (ad347.add ((x10_1).toNat * 2)) = some (.int .i64 ((rd_T60 l1 x10_1).f0)) ∧ w'.cell? ⟨(ad347.add ((x10_1).toNat * 2)).block, (ad347.add ((x10_1).toNat * 2)).off + 1, none⟩ = some (.slice A347_1 ((rd_T60 l1 x10_1).f1).length c347_1)) (ds := []) (Array.replicate 8 false) zk rfl rfl ⟨vb BK341 0, vb BK341 1, vb BK341 2, vb BK341 3, (ve HB.out hw347_0), (ve HB.out hw347_1)⟩ (fun hHeld => ?_); refine with_tabW saronref06_Filled.tab11 saronref06_Filled.bits11 (fun HT_ HW_ => ?_)
       generalize wr.drew = w15 at HO_7 HO_9 BK341 HB HR347_1 hx347_0 hx347_1 hHeld ⊢
       refine zu 1 ?_
       refine zu 2 ?_
       refine zu 3 ?_
       refine zu 4 ?_
       refine zt 0 ?_
       refine zt 5 ?_
       refine zo 6 (fun K hK => ?_)
       refine goes_ Tryd.func71 zk rfl #[.agg #[.int .i64 a0_0, .int .i64 a0_1, .int .i64 a0_2, .slice A0_3 l0_3.length c0_3], .int .i64 ((rd_T60 l1 x10_1).f0)] (by rfl) rfl rfl zm ?_
       with_reducible refine (saronref06_size.calls k1 a0_0 a0_1 a0_2 _ _ l0_3 ((rd_T60 l1 x10_1).f0) t348 _ ?side1 ?side2 A14.out).mono ?_
       (case side1 => repeat (first | exact (Kd.C_below HR0_3.out HB.out) | (with_reducible refine Kd.C_alloc ?_ _) | (with_reducible refine Kd.C_drewN ?_ _) | (with_reducible refine Kd.C_drew ?_)))
       (case side2 => exact HC0_3.out)
       rintro e w16 ⟨rfl, hb⟩
       refine ⟨_, rfl, ?_⟩
       replace HO_7 := zh (Kd.S_below (zS HO_7) hb)
       replace HO_9 := zh (Kd.S_below (zS HO_9) hb)
       replace BK341 := zh (blk_below (g := gb341) (o := .cells #[.int .i64 a0_0, .int .i64 a0_1, .int .i64 a0_2, .slice A0_3 l0_3.length c0_3] 24 (0, 0)) (zc BK341) hb)
       replace HB := zh (below_step zb hb)
       (try clear hb)
       (try clear hb2)
       (try clear hk)
       (try clear hi)
       refine hK.out _ _ ⟨vb BK341 0, vb BK341 1, vb BK341 2, vb BK341 3, (ve HB.out hw347_0), (ve HB.out hw347_1)⟩ (fun hHeld => ?_)
       clear hK K
       refine zr 41 _ ?_
       refine zu 7 ?_
       refine zd ?_
       try go_wp2
       go_loopg [12, 13] k1 (fun kq v12 v13 w' => ∃ (x12_2 : List Int) (x13_2 : Int), v13 = .int .i64 x13_2 ∧ Aside0 (saronref06_Filled.l1 kq l1 t343 x9_1 x10_1 t348 x12_2 x13_2 a0_0 a0_1 a0_2 l0_3 = some (r1, r2)) ∧ Aside0 (kq ≤ k1) ∧ Aside0 (Kd.S (Kd.slice 61 k61) 44 w' w.heap.size (fun _ => True) v344 t343) ∧ Aside0 (Kd.S (Kd.slice 3 (Kd.int .i64)) 25 w' w.heap.size (fun k_ => some k_ ≠ (v12 : Value).ownBlock) u9 x9_1) ∧ Aside0 (Kd.R (Kd.int .i64) 3 w' w.heap.size (fun _ => True) v12 x12_2) ∧ Aside0 (w'.heap[gb341]? = some (.cells #[.int .i64 a0_0, .int .i64 a0_1, .int .i64 a0_2, (.slice A0_3 l0_3.length c0_3)] 24 (0, 0))) ∧ Aside0 (Below w.heap.size w w'))
       case atStart => exact ⟨(([] : List Int)), (0), ze, H', ⟨Nat.le_refl _⟩, ⟨zS HO_7⟩, ⟨by (with_reducible repeat (first | apply Kd.S_alloc | apply Kd.S_drewN | apply Kd.S_drew)); exact Kd.S_mono HO_9.out (fun _ hk => (by simp [Value.ownBlock]))⟩, ⟨by first | exact Kd.R_nil _ _ _ _ _ | exact Kd.N_nil _ _ _ _ _ | exact Kd.V_nil _ _ _ _ _ | exact Kd.Q_nil _ _ _ _ _ | exact Kd.S_nil _ _ _ _ _⟩, ⟨zc BK341⟩, ⟨zb⟩⟩
       case round =>
        clear H'
        try clear c1
        try clear c2
        try clear p2
        try clear c3
        try clear p3
        try clear q3
        try clear hx3
        try clear c4
        try clear c4b0
        try clear c4b1
        try clear c6
        try clear c7
        try clear c12
        try clear c12b0
        try clear c13
        try clear c13b0
        try clear hcz10_0
        try clear hcz10_1
        try clear hcz10_2
        try clear hcz10_3
        try clear hcz8_0
        try clear hcz8_1
        try clear hcz8_2
        try clear hcz8_3
        try clear hfz10_0
        try clear hfz10_1
        try clear hfz10_2
        try clear hfz10_3
        try clear hfz8_0
        try clear hfz8_1
        try clear hfz8_2
        try clear hfz8_3
        try clear hx347_0
        try clear hx347_1
        try clear p2
        try clear p347
        try clear q347
        obtain ⟨x12_2, x13_2, rfl, HA, HK2, HO_7, HO_9, HO_12, BK341, HB⟩ := hrel
        cases gk with
        | zero => exact absurd HA.out (by simp [saronref06_Filled.l1])
        | succ k2 =>
         have H := HA.out
         clear HA
         simp only [saronref06_Filled.l1] at H
         by_cases c17 : 0 ≤ x10_1
         ·rw [if_pos c17] at H
          have c17b0 : decide (0 ≤ x10_1) = true := decide_eq_true c17
          clear c17
          by_cases c18 : x10_1 < (l1.length : Int)
          ·rw [if_pos c18] at H
           have c18b0 : decide (x10_1 < (l1.length : Int)) = true := decide_eq_true c18
           clear c18
           by_cases c19 : x13_2 < (((rd_T60 l1 x10_1).f1).length : Int)
           ·rw [if_pos c19] at H
            have c19b0 : decide (x13_2 < (((rd_T60 l1 x10_1).f1).length : Int)) = true := decide_eq_true c19
            clear c19
            by_cases c20 : 0 ≤ x13_2
            ·rw [if_pos c20] at H
             have c20b0 : decide (0 ≤ x13_2) = true := decide_eq_true c20
             clear c20
             by_cases c21 : (rd ((rd_T60 l1 x10_1).f1) x13_2) = (-2)
             ·rw [if_pos c21] at H
              have c21b0 : ((rd ((rd_T60 l1 x10_1).f1) x13_2) == (-2)) = true := beq_iff_eq.mpr c21
              have c21b1 : ((rd ((rd_T60 l1 x10_1).f1) x13_2) != (-2)) = false := bne_eq_false_iff_eq.mpr c21
              clear c21
              by_cases c22 : t348 = 0
              ·rw [if_pos c22] at H
               exact absurd H (by simp)
              ·rw [if_neg c22] at H
               have c22b0 : (t348 == 0) = false := beq_eq_false_iff_ne.mpr c22
               have c22b1 : (t348 != 0) = true := bne_iff_ne.mpr c22
               obtain ⟨ji23, hji23⟩ : ∃ j_ : Int, (wrap64 (Int.tdiv x13_2 t348)) = j_ := ⟨_, rfl⟩
               replace H : (if 0 ≤ (ji23) then (if (ji23) < (t343.length : Int) then ((saronref06_known.f k2 a0_0 a0_1 a0_2 l0_3 ((rd_T60 l1 x10_1).f0) (rd_L9 t343 (ji23)) (Int.tmod x13_2 t348)).bind fun t354 => (if x12_2.length < 17592186044416 then (saronref06_Filled.l1 k2 l1 t343 x9_1 x10_1 t348 (x12_2 ++ [t354]) (wrap64 (x13_2 + 1)) a0_0 a0_1 a0_2 l0_3) else (none))) else (none)) else (none)) = some (r1, r2) := by first | (rw [hji23] at H; exact H) | (simp only [hji23] at H ⊢; exact H)
               have hji23w : (IntKind.i64.wrap (Int.tdiv x13_2 t348)) = ji23 := (i64_w _).trans hji23
               by_cases c24 : 0 ≤ (ji23)
               ·rw [if_pos c24] at H
                have c24b0 : decide (0 ≤ (ji23)) = true := decide_eq_true c24
                clear c24
                by_cases c25 : (ji23) < (t343.length : Int)
                ·rw [if_pos c25] at H
                 have c25b0 : decide ((ji23) < (t343.length : Int)) = true := decide_eq_true c25
                 clear c25
                 replace H := Option.bind_eq_some_iff.mp H
                 obtain ⟨t354, A260, H⟩ := H
                 replace H : (if x12_2.length < 17592186044416 then (saronref06_Filled.l1 k2 l1 t343 x9_1 x10_1 t348 (x12_2 ++ [t354]) (wrap64 (x13_2 + 1)) a0_0 a0_1 a0_2 l0_3) else (none)) = some (r1, r2) := H
                 have A26 := zh A260
                 clear A260
                 by_cases c27 : x12_2.length < 17592186044416
                 ·rw [if_pos c27] at H
                  have LMc27 := zh c27
                  clear c27
                  obtain ⟨y355, hy355⟩ : ∃ y_ : List Int, y_ = (x12_2 ++ [t354]) := ⟨_, rfl⟩
                  replace H : (saronref06_Filled.l1 k2 l1 t343 x9_1 x10_1 t348 y355 (wrap64 (x13_2 + 1)) a0_0 a0_1 a0_2 l0_3) = some (r1, r2) := by first | (rw [hy355]; with_reducible exact H) | (have H2_ := (Option.bind_some _ _).symm.trans H; rw [hy355]; with_reducible exact H2_) | (have H2_ := (Option.bind_some _ _).symm.trans H; with_reducible exact H2_) | with_reducible exact H | (rw [hy355]; exact H) | exact H
                  have Ny355 := zh hy355
                  clear hy355
                  have H' := zh H
                  clear H
                  have p349 : 0 ≤ (x10_1 : Int) := of_decide_eq_true zs
                  have q349 : x10_1 < (l1.length : Int) := of_decide_eq_true zs
                  obtain ⟨ad349, A349_1, c349_1, e349, hx349_0, hx349_1, hl349_1, hi349_1⟩ := at_T60 HR1.out x10_1 p349 q349
                  obtain rfl : ad347 = ad349 := (by injection e349)
                  replace hx349_0 := ve HB.out hx349_0
                  replace hx349_1 := ve HB.out hx349_1
                  have HR349_1 := zh hi349_1
                  have HC349_1 := zh hl349_1
                  clear hi349_1 hl349_1
                  replace p349 := eq_true p349
                  replace q349 := eq_true q349
                  have p350 : 0 ≤ (x10_1 : Int) := of_decide_eq_true zs
                  have q350 : x10_1 < (l1.length : Int) := of_decide_eq_true zs
                  obtain ⟨ad350, A350_1, c350_1, e350, hx350_0, hx350_1, hl350_1, hi350_1⟩ := at_T60 HR1.out x10_1 p350 q350
                  obtain rfl : ad347 = ad350 := (by injection e350)
                  replace hx350_0 := ve HB.out hx350_0
                  replace hx350_1 := ve HB.out hx350_1
                  have HR350_1 := zh hi350_1
                  have HC350_1 := zh hl350_1
                  clear hi350_1 hl350_1
                  replace p350 := eq_true p350
                  replace q350 := eq_true q350
                  have ea_ := Option.some.inj (hx349_1.symm.trans hx350_1)
                  injection ea_ with ea_ en_ ec_
                  subst ea_
                  subst ec_
                  clear en_
                  have p351 : 0 ≤ (x13_2 : Int) := of_decide_eq_true zs
                  have q351 : x13_2 < (((rd_T60 l1 x10_1).f1).length : Int) := of_decide_eq_true zs
                  obtain ⟨ad351, e351, hx351_0⟩ := Kd.at_int HR350_1.out x13_2 p351 q351
                  cases e351
                  replace hx351_0 := ve HB.out hx351_0
                  replace p351 := eq_true p351
                  replace q351 := eq_true q351
                  try go_wp2
                  replace HO_7 := zh (Kd.S_drew HO_7.out)
                  replace HO_9 := zh (Kd.S_drew HO_9.out)
                  replace HO_12 := zh (Kd.R_drew HO_12.out)
                  replace BK341 := zh (blk_drew BK341.out)
                  replace HB := zh (below_drew1 HB.out)
                  have p352 : 0 ≤ (x10_1 : Int) := of_decide_eq_true zs
                  have q352 : x10_1 < (l1.length : Int) := of_decide_eq_true zs
                  obtain ⟨ad352, A352_1, c352_1, e352, hx352_0, hx352_1, hl352_1, hi352_1⟩ := at_T60 HR1.out x10_1 p352 q352
                  have hw352_1 := hx352_1
                  have hw352_0 := hx352_0
                  obtain rfl : ad347 = ad352 := (by injection e352)
                  replace hx352_0 := ve HB.out hx352_0
                  replace hx352_1 := ve HB.out hx352_1
                  have HR352_1 := zh hi352_1
                  have HC352_1 := zh hl352_1
                  clear hi352_1 hl352_1
                  replace p352 := eq_true p352
                  replace q352 := eq_true q352
                  obtain ⟨Ao29, co29, eo29⟩ := Kd.S_slice HO_7.out
                  (first | subst eo29 | (injection eo29 with f1_ f2_ f3_; have f4_ := f1_.symm; have f5_ := f3_.symm; clear f1_ f2_ f3_; subst f4_; subst f5_))
                  have p353 : 0 ≤ ((ji23) : Int) := of_decide_eq_true zs
                  have q353 : (ji23) < (t343.length : Int) := of_decide_eq_true zs
                  obtain ⟨ad353, A353_0, c353_0, e353, hx353_0, hl353_0, hi353_0⟩ := at_L9 (Kd.S_reads' HO_7.out).2.2 (ji23) p353 q353
                  cases e353
                  obtain ⟨ce353, hce353, hMe353, hcc353⟩ := Kd.S_get HO_7.out [] (ji23) p353 (by first | exact q353 | exact of_decide_eq_true zs | (have e_ := (Kd.S_reads' HO_7.out).1; omega))
                  obtain ⟨ve353_0, rfl, ge353_0⟩ := hMe353
                  have hv353_0 := hcc353 0 _ rfl
                  rw [Nat.add_zero, show ((Kd.slice 61 k61)).sz = 1 from rfl, Nat.mul_one] at hv353_0
                  replace hv353_0 := Option.some.inj (hv353_0.symm.trans hx353_0)
                  rw [hv353_0] at ge353_0
                  have HL353_0 := zh (show Kd.R k61 61 _ _ _ _ (rd_L9 t343 (ji23)) from ge353_0)
                  clear hv353_0 ge353_0 hcc353 hce353
                  have HR353_0 := zh hi353_0
                  have HC353_0 := zh hl353_0
                  clear hi353_0 hl353_0
                  replace p353 := eq_true p353
                  replace q353 := eq_true q353
                  refine start_ (n := 17) (S := fun w' => w'.cell? ⟨gb341, 0, none⟩ = some (.int .i64 a0_0) ∧ w'.cell? ⟨gb341, 1, none⟩ = some (.int .i64 a0_1) ∧ w'.cell? ⟨gb341, 2, none⟩ = some (.int .i64 a0_2) ∧ w'.cell? ⟨gb341, 3, none⟩ = some (.slice A0_3 l0_3.length c0_3) ∧ w'.cell? (ad347.add ((x10_1).toNat * 2)) = some (.int .i64 ((rd_T60 l1 x10_1).f0)) ∧ w'.cell? ⟨(ad347.add ((x10_1).toNat * 2)).block, (ad347.add ((x10_1).toNat * 2)).off + 1, none⟩ = some (.slice A352_1 ((rd_T60 l1 x10_1).f1).length c352_1) ∧ w'.cell? (ad353.add ((ji23)).toNat) = some (.slice A353_0 (rd_L9 t343 (ji23)).length c353_0)) (ds := []) (Array.replicate 17 false) zk rfl rfl ⟨vb BK341 0, vb BK341 1, vb BK341 2, vb BK341 3, (ve HB.out hw352_0), (ve HB.out hw352_1), hx353_0⟩ (fun hHeld => ?_); refine with_tabW saronref06_Filled.tab18 saronref06_Filled.bits18 (fun HT_ HW_ => ?_)
                  generalize wr.drew = w28 at HO_7 HO_9 HO_12 BK341 HB HL353_0 HR352_1 HR353_0 hx352_0 hx352_1 hx353_0 hHeld ⊢
                  refine zu 1 ?_
                  refine zu 2 ?_
                  refine zu 3 ?_
                  refine zu 4 ?_
                  refine zu 6 ?_
                  refine zu 7 ?_
                  refine zu 8 ?_
                  refine zu 9 ?_
                  refine zu 10 ?_
                  refine zu 12 ?_
                  refine zu 13 ?_
                  refine zu 14 ?_
                  refine zt 0 ?_
                  refine zt 5 ?_
                  refine zt 11 ?_
                  refine zo 15 (fun K hK => ?_)
                  refine goes_ Tryd.func72 zk rfl #[.agg #[.int .i64 a0_0, .int .i64 a0_1, .int .i64 a0_2, .slice A0_3 l0_3.length c0_3], .int .i64 ((rd_T60 l1 x10_1).f0), .slice A353_0 (rd_L9 t343 (ji23)).length c353_0, .int .i64 (Int.tmod x13_2 t348)] (by rfl) rfl rfl (by (try simp only [List.map_toArray, List.map_cons, List.map_nil]); first | done | (simp only [hji23]; rfl) | rfl | (simp only [List.length_drop, List.length_take]; rfl)) ?_
                  with_reducible refine (saronref06_known.calls k2 a0_0 a0_1 a0_2 _ _ l0_3 ((rd_T60 l1 x10_1).f0) _ _ (rd_L9 t343 (ji23)) (Int.tmod x13_2 t348) t354 _ ?side1 ?side2 ?side3 ?side4 A26.out).mono ?_
                  (case side1 => repeat (first | exact (Kd.C_below HR0_3.out HB.out) | (with_reducible refine Kd.C_alloc ?_ _) | (with_reducible refine Kd.C_drewN ?_ _) | (with_reducible refine Kd.C_drew ?_)))
                  (case side2 => exact HC0_3.out)
                  (case side3 => repeat (first | exact (by repeat (first | (with_reducible exact HR353_0.out) | (with_reducible refine Kd.C_alloc ?_ _) | (with_reducible refine Kd.C_drewN ?_ _) | (with_reducible refine Kd.C_drew ?_) | exact HR353_0.out)) | (with_reducible refine Kd.C_alloc ?_ _) | (with_reducible refine Kd.C_drewN ?_ _) | (with_reducible refine Kd.C_drew ?_)))
                  (case side4 => exact HC353_0.out)
                  rintro e w30 ⟨rfl, hb⟩
                  have HS6_ := (hb.cell (World.block_lt_of_cell? _ _ (hHeld.2.2.2.2.2.2))).trans (hHeld.2.2.2.2.2.2)
                  refine ⟨_, rfl, ?_⟩
                  replace HO_7 := zh (Kd.S_below (zS HO_7) hb)
                  replace HO_9 := zh (Kd.S_below (zS HO_9) hb)
                  replace HO_12 := zh (Kd.R_below (zR HO_12) hb)
                  replace HL353_0 := zh (Kd.R_below (by (with_reducible repeat (first | apply Kd.R_alloc | apply Kd.R_drewN | apply Kd.R_drew)); exact HL353_0.out) hb)
                  replace BK341 := zh (blk_below (g := gb341) (o := .cells #[.int .i64 a0_0, .int .i64 a0_1, .int .i64 a0_2, .slice A0_3 l0_3.length c0_3] 24 (0, 0)) (zc BK341) hb)
                  replace HR353_0 := zh (Kd.C_below (by repeat (first | (with_reducible exact HR353_0.out) | (with_reducible refine Kd.C_alloc ?_ _) | (with_reducible refine Kd.C_drewN ?_ _) | (with_reducible refine Kd.C_drew ?_) | exact HR353_0.out)) hb)
                  replace HB := zh (below_step zb hb)
                  (try clear hb)
                  (try clear hb2)
                  (try clear hk)
                  (try clear hi)
                  refine hK.out _ _ ⟨vb BK341 0, vb BK341 1, vb BK341 2, vb BK341 3, (ve HB.out hw352_0), (ve HB.out hw352_1), HS6_⟩ (fun hHeld => ?_)
                  clear hK K
                  refine zr 77 _ ?_
                  refine zu 16 ?_
                  refine zd ?_
                  try go_wp2_with (first | ((with_reducible refine gate_builtin (b := .append) (xs := #[.tmp 78, .tmp 80]) rfl ?_); at_builtin; refine Kd.R_append (Kd.int .i64) (w0 := w) w.heap.size rfl (.tmp 78) (.tmp 80) 25 3 (.int .i64 0) 8 rfl Tryd.underlying25 info3 rfl (by decide) (by omega) u12 x12_2 t354 [.int .i64 t354] (fun _ => True) (fun _ => False) rfl rfl ?aP (fun _ hk => hk.elim) ?aF ?aO ?aB ?aS ?aL ?_; (case aP => exact rfl); (case aB => exact zb); (case aF => exact (fun _ _ => trivial)); (case aO => exact (zR HO_12)); (case aS => exact (below_size zb)); (case aL => have := LMc27.out; omega); intro v356 w31 ho hb hg hat; rw [← Ny355.out] at ho; have n0_ := zh (Kd.S_over' (zS HO_7) (Kd.R_typed (zR HO_12)) (by decide) hg); have n1_ := zh (Kd.S_after (ok := (fun _ => True)) (by (with_reducible repeat (first | apply Kd.S_alloc | apply Kd.S_drewN | apply Kd.S_drew)); exact Kd.S_mono HO_9.out (fun _ hk => ⟨trivial, hk⟩)) hg hat); have n2_ := zh (blk_grown (g := gb341) (o := .cells #[.int .i64 a0_0, .int .i64 a0_1, .int .i64 a0_2, .slice A0_3 l0_3.length c0_3] 24 (0, 0)) (zc BK341) hg (Kd.R_ne HO_12.out BK341.out (by decide))); have n3_ := zh (Kd.R_over' (by (with_reducible repeat (first | apply Kd.R_alloc | apply Kd.R_drewN | apply Kd.R_drew)); exact HL353_0.out) (Kd.R_typed (zR HO_12)) (by decide) hg); have n4_ := zh (hb); have n5_ := zh (ho); clear HO_7; clear HO_9; clear BK341; clear HL353_0; clear HB; clear HO_12; have HO_7 := n0_; have HO_9 := n1_; have BK341 := n2_; have HL353_0 := n3_; have HB := n4_; have HO357 := n5_; clear n0_ n1_ n2_ n3_ n4_ n5_; clear ho hb hg hat))
                  go_roundg k2
                  case measure => have := HK1.out; have := HK2.out; omega
                  case rel => exact ⟨(y355), (wrap64 (x13_2 + 1)), ze, H', ⟨zw HK1 HK2⟩, ⟨zS HO_7⟩, ⟨by (with_reducible repeat (first | apply Kd.S_alloc | apply Kd.S_drewN | apply Kd.S_drew)); exact Kd.S_mono HO_9.out (fun _ hk => hk.2)⟩, ⟨zR HO357⟩, ⟨zc BK341⟩, ⟨zb⟩⟩
                 ·rw [if_neg c27] at H
                  exact absurd H (by simp)
                ·rw [if_neg c25] at H
                 exact absurd H (by simp)
               ·rw [if_neg c24] at H
                exact absurd H (by simp)
             ·rw [if_neg c21] at H
              have c21b0 : ((rd ((rd_T60 l1 x10_1).f1) x13_2) == (-2)) = false := beq_eq_false_iff_ne.mpr c21
              have c21b1 : ((rd ((rd_T60 l1 x10_1).f1) x13_2) != (-2)) = true := bne_iff_ne.mpr c21
              by_cases c32 : x12_2.length < 17592186044416
              ·rw [if_pos c32] at H
               have LMc32 := zh c32
               clear c32
               obtain ⟨y358, hy358⟩ : ∃ y_ : List Int, y_ = (x12_2 ++ [rd ((rd_T60 l1 x10_1).f1) x13_2]) := ⟨_, rfl⟩
               replace H : (saronref06_Filled.l1 k2 l1 t343 x9_1 x10_1 t348 y358 (wrap64 (x13_2 + 1)) a0_0 a0_1 a0_2 l0_3) = some (r1, r2) := by first | (rw [hy358]; with_reducible exact H) | (have H2_ := (Option.bind_some _ _).symm.trans H; rw [hy358]; with_reducible exact H2_) | (have H2_ := (Option.bind_some _ _).symm.trans H; with_reducible exact H2_) | with_reducible exact H | (rw [hy358]; exact H) | exact H
               have Ny358 := zh hy358
               clear hy358
               have H' := zh H
               clear H
               have p349 : 0 ≤ (x10_1 : Int) := of_decide_eq_true zs
               have q349 : x10_1 < (l1.length : Int) := of_decide_eq_true zs
               obtain ⟨ad349, A349_1, c349_1, e349, hx349_0, hx349_1, hl349_1, hi349_1⟩ := at_T60 HR1.out x10_1 p349 q349
               obtain rfl : ad347 = ad349 := (by injection e349)
               replace hx349_0 := ve HB.out hx349_0
               replace hx349_1 := ve HB.out hx349_1
               have HR349_1 := zh hi349_1
               have HC349_1 := zh hl349_1
               clear hi349_1 hl349_1
               replace p349 := eq_true p349
               replace q349 := eq_true q349
               have p350 : 0 ≤ (x10_1 : Int) := of_decide_eq_true zs
               have q350 : x10_1 < (l1.length : Int) := of_decide_eq_true zs
               obtain ⟨ad350, A350_1, c350_1, e350, hx350_0, hx350_1, hl350_1, hi350_1⟩ := at_T60 HR1.out x10_1 p350 q350
               obtain rfl : ad347 = ad350 := (by injection e350)
               replace hx350_0 := ve HB.out hx350_0
               replace hx350_1 := ve HB.out hx350_1
               have HR350_1 := zh hi350_1
               have HC350_1 := zh hl350_1
               clear hi350_1 hl350_1
               replace p350 := eq_true p350
               replace q350 := eq_true q350
               have ea_ := Option.some.inj (hx349_1.symm.trans hx350_1)
               injection ea_ with ea_ en_ ec_
               subst ea_
               subst ec_
               clear en_
               have p351 : 0 ≤ (x13_2 : Int) := of_decide_eq_true zs
               have q351 : x13_2 < (((rd_T60 l1 x10_1).f1).length : Int) := of_decide_eq_true zs
               obtain ⟨ad351, e351, hx351_0⟩ := Kd.at_int HR350_1.out x13_2 p351 q351
               cases e351
               replace hx351_0 := ve HB.out hx351_0
               replace p351 := eq_true p351
               replace q351 := eq_true q351
               go_wp2_with (first | ((with_reducible refine gate_builtin (b := .append) (xs := #[.tmp 78, .tmp 80]) rfl ?_); at_builtin; refine Kd.R_append (Kd.int .i64) (w0 := w) w.heap.size rfl (.tmp 78) (.tmp 80) 25 3 (.int .i64 0) 8 rfl Tryd.underlying25 info3 rfl (by decide) (by omega) u12 x12_2 (rd ((rd_T60 l1 x10_1).f1) x13_2) [.int .i64 (rd ((rd_T60 l1 x10_1).f1) x13_2)] (fun _ => True) (fun _ => False) rfl rfl ?aP (fun _ hk => hk.elim) ?aF ?aO ?aB ?aS ?aL ?_; (case aP => exact rfl); (case aB => exact zb); (case aF => exact (fun _ _ => trivial)); (case aO => exact (zR HO_12)); (case aS => exact (below_size zb)); (case aL => have := LMc32.out; omega); intro v359 w33 ho hb hg hat; rw [← Ny358.out] at ho; have n0_ := zh (Kd.S_over' (zS HO_7) (Kd.R_typed (zR HO_12)) (by decide) hg); have n1_ := zh (Kd.S_after (ok := (fun _ => True)) (by (with_reducible repeat (first | apply Kd.S_alloc | apply Kd.S_drewN | apply Kd.S_drew)); exact Kd.S_mono HO_9.out (fun _ hk => ⟨trivial, hk⟩)) hg hat); have n2_ := zh (blk_grown (g := gb341) (o := .cells #[.int .i64 a0_0, .int .i64 a0_1, .int .i64 a0_2, .slice A0_3 l0_3.length c0_3] 24 (0, 0)) (zc BK341) hg (Kd.R_ne HO_12.out BK341.out (by decide))); have n3_ := zh (hb); have n4_ := zh (ho); clear HO_7; clear HO_9; clear BK341; clear HB; clear HO_12; have HO_7 := n0_; have HO_9 := n1_; have BK341 := n2_; have HB := n3_; have HO360 := n4_; clear n0_ n1_ n2_ n3_ n4_; clear ho hb hg hat))
               go_roundg k2
               case measure => have := HK1.out; have := HK2.out; omega
               case rel => exact ⟨(y358), (wrap64 (x13_2 + 1)), ze, H', ⟨zw HK1 HK2⟩, ⟨zS HO_7⟩, ⟨by (with_reducible repeat (first | apply Kd.S_alloc | apply Kd.S_drewN | apply Kd.S_drew)); exact Kd.S_mono HO_9.out (fun _ hk => hk.2)⟩, ⟨zR HO360⟩, ⟨zc BK341⟩, ⟨zb⟩⟩
              ·rw [if_neg c32] at H
               exact absurd H (by simp)
            ·rw [if_neg c20] at H
             exact absurd H (by simp)
           ·rw [if_neg c19] at H
            have c19b0 : decide (x13_2 < (((rd_T60 l1 x10_1).f1).length : Int)) = false := decide_eq_false c19
            clear c19
            by_cases c34 : x9_1.length < 5864062014805
            ·rw [if_pos c34] at H
             have LMc34 := zh c34
             clear c34
             obtain ⟨y361, hy361⟩ : ∃ y_ : List (List Int), y_ = (x9_1 ++ [x12_2]) := ⟨_, rfl⟩
             replace H : (saronref06_Filled.l0 k2 l1 t343 y361 (wrap64 (x10_1 + 1)) a0_0 a0_1 a0_2 l0_3) = some (r1, r2) := by first | (rw [hy361]; with_reducible exact H) | (have H2_ := (Option.bind_some _ _).symm.trans H; rw [hy361]; with_reducible exact H2_) | (have H2_ := (Option.bind_some _ _).symm.trans H; with_reducible exact H2_) | with_reducible exact H | (rw [hy361]; exact H) | exact H
             have Ny361 := zh hy361
             clear hy361
             have H' := zh H
             clear H
             have p349 : 0 ≤ (x10_1 : Int) := of_decide_eq_true zs
             have q349 : x10_1 < (l1.length : Int) := of_decide_eq_true zs
             obtain ⟨ad349, A349_1, c349_1, e349, hx349_0, hx349_1, hl349_1, hi349_1⟩ := at_T60 HR1.out x10_1 p349 q349
             obtain rfl : ad347 = ad349 := (by injection e349)
             replace hx349_0 := ve HB.out hx349_0
             replace hx349_1 := ve HB.out hx349_1
             have HR349_1 := zh hi349_1
             have HC349_1 := zh hl349_1
             clear hi349_1 hl349_1
             replace p349 := eq_true p349
             replace q349 := eq_true q349
             obtain ⟨Ao36, co36, eo36⟩ := Kd.R_slice HO_12.out
             subst eo36
             go_wp2_with (first | ((with_reducible refine gate_builtin (b := .append) (xs := #[.tmp 82, .tmp 84]) rfl ?_); at_builtin; refine Kd.S_append (Kd.slice 3 (Kd.int .i64)) (w0 := w) w.heap.size rfl (.tmp 82) (.tmp 84) 39 25 (.slice none 0 0) 24 rfl Tryd.underlying39 info25 rfl (by decide) (by omega) u9 x9_1 x12_2 [.slice Ao36 x12_2.length co36] (fun _ => True) (fun k_ => some k_ = (.slice Ao36 x12_2.length co36 : Value).ownBlock) rfl rfl ?aP (fun k_ hk_ => ((Kd.R_mono (ok' := fun k_ => ((fun _ => True)) k_ ∧ some k_ ≠ (u9 : Value).ownBlock) (Kd.R_apart' (HO_12.out) (Kd.S_typed HO_9.out) (by decide)) (fun k_ hk => ⟨trivial, hk.2⟩))).1 k_ hk_.symm) ?aF ?aO ?aB ?aS ?aL ?_; (case aP => exact Kd.M_row (Kd.R_mono (Kd.R_tight rfl (Kd.R_mono (ok' := fun k_ => ((fun _ => True)) k_ ∧ some k_ ≠ (u9 : Value).ownBlock) (Kd.R_apart' (HO_12.out) (Kd.S_typed HO_9.out) (by decide)) (fun k_ hk => ⟨trivial, hk.2⟩))) (fun _ h_ => h_))); (case aB => exact zb); (case aF => exact (fun _ _ => trivial)); (case aO => exact (by (with_reducible repeat (first | apply Kd.S_alloc | apply Kd.S_drewN | apply Kd.S_drew)); exact Kd.S_mono HO_9.out (fun k_ hk => ⟨trivial, fun e_ => hk e_⟩))); (case aS => exact (below_size zb)); (case aL => have := LMc34.out; omega); intro v362 w35 ho hb hg hat; rw [← Ny361.out] at ho; have n0_ := zh (Kd.S_over' (zS HO_7) (Kd.S_typed (zS HO_9)) (by decide) hg); have n1_ := zh (blk_grown (g := gb341) (o := .cells #[.int .i64 a0_0, .int .i64 a0_1, .int .i64 a0_2, .slice A0_3 l0_3.length c0_3] 24 (0, 0)) (zc BK341) hg (Kd.S_ne HO_9.out BK341.out (by decide))); have n2_ := zh (hb); have n3_ := zh (ho); clear HO_7; clear BK341; clear HB; clear HO_9; clear HO_12; have HO_7 := n0_; have BK341 := n1_; have HB := n2_; have HO363 := n3_; clear n0_ n1_ n2_ n3_; clear ho hb hg hat))
             go_roundg k2
             case measure => have := HK1.out; have := HK2.out; omega
             case rel => exact ⟨(y361), (wrap64 (x10_1 + 1)), ze, H', ⟨zw HK1 HK2⟩, ⟨zS HO_7⟩, ⟨zS HO363⟩, ⟨zc BK341⟩, ⟨zb⟩⟩
            ·rw [if_neg c34] at H
             exact absurd H (by simp)
          ·rw [if_neg c18] at H
           exact absurd H (by simp)
         ·rw [if_neg c17] at H
          exact absurd H (by simp)
      ·rw [if_neg c13] at H
       exact absurd H (by simp)
     ·rw [if_neg c12] at H
      have c12b0 : decide (x10_1 < (l1.length : Int)) = false := decide_eq_false c12
      clear c12
      simp only [Option.some.injEq, Prod.mk.injEq] at H
      obtain ⟨rfl, rfl⟩ := H
      go_wp2
      go_ret2
      exact ⟨_, zf, (zS HO_9), zb⟩
  ·replace c6 := Bool.eq_false_iff.mpr c6
   subst c6
   have H1 : (some (([] : List (List Int)), 62)) = some (r1, r2) := by rw [if_neg (show ¬ (false = true) by decide)] at H; exact H
   clear H
   have H := H1
   clear H1
   simp only [Option.some.injEq, Prod.mk.injEq] at H
   obtain ⟨rfl, rfl⟩ := H
   go_enter Tryd.func29, Tryd.ntmps29
   go_wp2_with (first | ((with_reducible refine gate_dst (N := 2) rfl ?_); refine box_event ?hg (N := 2) ?hd (cs := #[.int .i64 a0_0, .int .i64 a0_1, .int .i64 a0_2, .slice A0_3 l0_3.length c0_3]) (t := 24) ?hr ?_; (case hd => rfl); (case hg => rfl); (case hr => first | (go_simp; done) | (go_simp; rfl)); intro gb341 hg w37 hbox hb; have n0_ := zh (below_step zb hb); have n1_ := zh (hbox); have n2_ := zh ((by rw [hg]; exact (below_size zb) : w.heap.size ≤ gb341)); have n3_ := zh ((by rw [hg]; exact (below_size zb) : w.heap.size ≤ gb341)); clear HB; have HB := n0_; have BK341 := n1_; have GW341 := n2_; have GE341 := n3_; clear n0_ n1_ n2_ n3_; clear hb hbox hg; have hcz38_0 : w37.cell? ⟨gb341, 0, none⟩ = some (.int .i64 a0_0) := vb BK341 0; have hcz38_1 : w37.cell? ⟨gb341, 1, none⟩ = some (.int .i64 a0_1) := vb BK341 1; have hcz38_2 : w37.cell? ⟨gb341, 2, none⟩ = some (.int .i64 a0_2) := vb BK341 2; have hcz38_3 : w37.cell? ⟨gb341, 3, none⟩ = some (.slice A0_3 l0_3.length c0_3) := vb BK341 3; have hfz38_0 := blk_frozen BK341.out 0; have hfz38_1 := blk_frozen BK341.out 1; have hfz38_2 := blk_frozen BK341.out 2; have hfz38_3 := blk_frozen BK341.out 3) | ((with_reducible refine gate_callee (f := 66) rfl ?_); refine goesL_ (some 17) rfl rfl Tryd.func66 zk rfl #[.agg #[.int .i64 a0_0, .int .i64 a0_1, .int .i64 a0_2, .slice A0_3 l0_3.length c0_3], .slice A1 l1.length c1] rfl zm ?_; (with_reducible refine (saronref06_asked.calls k a0_0 a0_1 a0_2 _ _ l0_3 _ _ l1 t342 _ ?side1 ?side2 ?side3 ?side4 A3.out).mono ?_); (case side1 => repeat (first | exact (Kd.C_below HR0_3.out HB.out) | (with_reducible refine Kd.C_alloc ?_ _) | (with_reducible refine Kd.C_drewN ?_ _) | (with_reducible refine Kd.C_drew ?_))); (case side2 => exact HC0_3.out); (case side3 => repeat (first | exact (Kd.C_below HR1.out HB.out) | (with_reducible refine Kd.C_alloc ?_ _) | (with_reducible refine Kd.C_drewN ?_ _) | (with_reducible refine Kd.C_drew ?_))); (case side4 => exact HC1.out); rintro e w39 ⟨rfl, hb⟩; refine ⟨_, rfl, ?_⟩; have n0_ := zh (blk_below (g := gb341) (o := .cells #[.int .i64 a0_0, .int .i64 a0_1, .int .i64 a0_2, .slice A0_3 l0_3.length c0_3] 24 (0, 0)) (zc BK341) hb); have n1_ := zh (below_step zb hb); clear BK341; clear HB; have BK341 := n0_; have HB := n1_; clear n0_ n1_; (try clear hb); (try clear hb2); (try clear hk); (try clear hi); have hcz40_0 : w39.cell? ⟨gb341, 0, none⟩ = some (.int .i64 a0_0) := vb BK341 0; have hcz40_1 : w39.cell? ⟨gb341, 1, none⟩ = some (.int .i64 a0_1) := vb BK341 1; have hcz40_2 : w39.cell? ⟨gb341, 2, none⟩ = some (.int .i64 a0_2) := vb BK341 2; have hcz40_3 : w39.cell? ⟨gb341, 3, none⟩ = some (.slice A0_3 l0_3.length c0_3) := vb BK341 3; have hfz40_0 := blk_frozen BK341.out 0; have hfz40_1 := blk_frozen BK341.out 1; have hfz40_2 := blk_frozen BK341.out 2; have hfz40_3 := blk_frozen BK341.out 3) | ((with_reducible refine gate_callee (f := 67) rfl ?_); refine goesL_ (some 24) rfl rfl Tryd.func67 zk rfl #[.agg #[.int .i64 a0_0, .int .i64 a0_1, .int .i64 a0_2, .slice A0_3 l0_3.length c0_3], .slice A1 l1.length c1] rfl zm ?_; (with_reducible refine (saronref06_all.calls k a0_0 a0_1 a0_2 _ _ l0_3 _ _ l1 t343 false _ ?side1 ?side2 ?side3 ?side4 A5.out).mono ?_); (case side1 => repeat (first | exact (Kd.C_below HR0_3.out HB.out) | (with_reducible refine Kd.C_alloc ?_ _) | (with_reducible refine Kd.C_drewN ?_ _) | (with_reducible refine Kd.C_drew ?_))); (case side2 => exact HC0_3.out); (case side3 => repeat (first | exact (Kd.C_below HR1.out HB.out) | (with_reducible refine Kd.C_alloc ?_ _) | (with_reducible refine Kd.C_drewN ?_ _) | (with_reducible refine Kd.C_drew ?_))); (case side4 => exact HC1.out); rintro e w41 ⟨v344, rfl, ho0, hb⟩; refine ⟨_, rfl, ?_⟩; have n0_ := zh (Kd.S_lower ho0 (below_size zb)); have n1_ := zh (blk_below (g := gb341) (o := .cells #[.int .i64 a0_0, .int .i64 a0_1, .int .i64 a0_2, .slice A0_3 l0_3.length c0_3] 24 (0, 0)) (zc BK341) hb); have n2_ := zh (below_step zb hb); clear BK341; clear HB; have HO345 := n0_; have BK341 := n1_; have HB := n2_; clear n0_ n1_ n2_; (try clear hb); (try clear hb2); (try clear hk); (try clear hi); (try clear ho0)))
   go_ret2
   exact ⟨_, zf, by first | exact Kd.S_nil _ _ _ _ _ | exact Kd.N_nil _ _ _ _ _ | exact Kd.V_nil _ _ _ _ _ | exact Kd.Q_nil _ _ _ _ _ | exact Kd.R_nil _ _ _ _ _, zb⟩
 ·rw [if_neg c4] at H
  have c4b0 : (t342 == 0) = false := beq_eq_false_iff_ne.mpr c4
  have c4b1 : (t342 != 0) = true := bne_iff_ne.mpr c4
  simp only [Option.some.injEq, Prod.mk.injEq] at H
  obtain ⟨rfl, rfl⟩ := H
  go_enter Tryd.func29, Tryd.ntmps29
  go_wp2_with (first | ((with_reducible refine gate_dst (N := 2) rfl ?_); refine box_event ?hg (N := 2) ?hd (cs := #[.int .i64 a0_0, .int .i64 a0_1, .int .i64 a0_2, .slice A0_3 l0_3.length c0_3]) (t := 24) ?hr ?_; (case hd => rfl); (case hg => rfl); (case hr => first | (go_simp; done) | (go_simp; rfl)); intro gb341 hg w42 hbox hb; have n0_ := zh (below_step zb hb); have n1_ := zh (hbox); have n2_ := zh ((by rw [hg]; exact (below_size zb) : w.heap.size ≤ gb341)); have n3_ := zh ((by rw [hg]; exact (below_size zb) : w.heap.size ≤ gb341)); clear HB; have HB := n0_; have BK341 := n1_; have GW341 := n2_; have GE341 := n3_; clear n0_ n1_ n2_ n3_; clear hb hbox hg; have hcz43_0 : w42.cell? ⟨gb341, 0, none⟩ = some (.int .i64 a0_0) := vb BK341 0; have hcz43_1 : w42.cell? ⟨gb341, 1, none⟩ = some (.int .i64 a0_1) := vb BK341 1; have hcz43_2 : w42.cell? ⟨gb341, 2, none⟩ = some (.int .i64 a0_2) := vb BK341 2; have hcz43_3 : w42.cell? ⟨gb341, 3, none⟩ = some (.slice A0_3 l0_3.length c0_3) := vb BK341 3; have hfz43_0 := blk_frozen BK341.out 0; have hfz43_1 := blk_frozen BK341.out 1; have hfz43_2 := blk_frozen BK341.out 2; have hfz43_3 := blk_frozen BK341.out 3) | ((with_reducible refine gate_callee (f := 66) rfl ?_); refine goesL_ (some 17) rfl rfl Tryd.func66 zk rfl #[.agg #[.int .i64 a0_0, .int .i64 a0_1, .int .i64 a0_2, .slice A0_3 l0_3.length c0_3], .slice A1 l1.length c1] rfl zm ?_; (with_reducible refine (saronref06_asked.calls k a0_0 a0_1 a0_2 _ _ l0_3 _ _ l1 t342 _ ?side1 ?side2 ?side3 ?side4 A3.out).mono ?_); (case side1 => repeat (first | exact (Kd.C_below HR0_3.out HB.out) | (with_reducible refine Kd.C_alloc ?_ _) | (with_reducible refine Kd.C_drewN ?_ _) | (with_reducible refine Kd.C_drew ?_))); (case side2 => exact HC0_3.out); (case side3 => repeat (first | exact (Kd.C_below HR1.out HB.out) | (with_reducible refine Kd.C_alloc ?_ _) | (with_reducible refine Kd.C_drewN ?_ _) | (with_reducible refine Kd.C_drew ?_))); (case side4 => exact HC1.out); rintro e w44 ⟨rfl, hb⟩; refine ⟨_, rfl, ?_⟩; have n0_ := zh (blk_below (g := gb341) (o := .cells #[.int .i64 a0_0, .int .i64 a0_1, .int .i64 a0_2, .slice A0_3 l0_3.length c0_3] 24 (0, 0)) (zc BK341) hb); have n1_ := zh (below_step zb hb); clear BK341; clear HB; have BK341 := n0_; have HB := n1_; clear n0_ n1_; (try clear hb); (try clear hb2); (try clear hk); (try clear hi)))
  go_ret2
  exact ⟨_, zf, by first | exact Kd.S_nil _ _ _ _ _ | exact Kd.N_nil _ _ _ _ _ | exact Kd.V_nil _ _ _ _ _ | exact Kd.Q_nil _ _ _ _ _ | exact Kd.R_nil _ _ _ _ _, zb⟩
end Go.Proofs.YtagkfkdoibnhfaaDoor.H
end
section
namespace Go.Proofs.YtagkfkdoibnhfaaDoor.H
open Go.RowKit Go.Proofs.YtagkfkdoibnhfaaDoorW.PrintWords Go.Proofs.YtagkfkdoibnhfaaDoorW.PrintLast Go.Proofs.YtagkfkdoibnhfaaDoorW.PrintMore
attribute [local go_sem] max2_int min2_int max_two min_two max_three min_three max_four min_four   -- for this text's walks alone
set_option linter.unusedVariables false
set_option linter.unusedSimpArgs false
mutual
def saronref06_Least.l0 : Nat → List (S60) → Int → Int → Int → Int → Int → List (S66) → Option (Int × Int)
 | 0, _, _, _, _, _, _, _ => none
 | k + 1, x1, x7, x8, x365000, x365001, x365002, x365003 => if x8 < (wrap64 (Int.tdiv x365002 2)) then ((saronref06_otherwise.f k x365000 x365001 x365002 x365003 x1 x8 0 0).bind fun t366 => (saronref06_Least.l1 k x1 x7 x8 t366 0 x365000 x365001 x365002 x365003)) else (some (x7, 0))
def saronref06_Least.l1 : Nat → List (S60) → Int → Int → Int → Int → Int → Int → Int → List (S66) → Option (Int × Int)
 | 0, _, _, _, _, _, _, _, _, _ => none
 | k + 1, x1, x7, x8, x9, x10, x365000, x365001, x365002, x365003 => (saronref06_tones.f x365000 x365001 x365002 x365003).bind fun t367 => (if x10 < t367 then (saronref06_Least.l2 k x1 x7 x8 x9 x10 0 x365000 x365001 x365002 x365003) else (saronref06_Least.l0 k x1 (wrap64 (x7 + x9)) (wrap64 (x8 + 1)) x365000 x365001 x365002 x365003))
def saronref06_Least.l2 : Nat → List (S60) → Int → Int → Int → Int → Int → Int → Int → Int → List (S66) → Option (Int × Int)
 | 0, _, _, _, _, _, _, _, _, _, _ => none
 | k + 1, x1, x7, x8, x9, x10, x11, x365000, x365001, x365002, x365003 => (saronref06_tones.f x365000 x365001 x365002 x365003).bind fun t368 => (if x11 < t368 then ((saronref06_otherwise.f k x365000 x365001 x365002 x365003 x1 x8 x10 x11).bind fun t369 => (saronref06_Least.l2 k x1 x7 x8 (mn x9 t369) x10 (wrap64 (x11 + 1)) x365000 x365001 x365002 x365003)) else (saronref06_Least.l1 k x1 x7 x8 x9 (wrap64 (x10 + 1)) x365000 x365001 x365002 x365003))
end
def saronref06_Least.f (k : Nat) (a0_0 : Int) (a0_1 : Int) (a0_2 : Int) (l0_3 : List (S66)) (l1 : List (S60)) : Option (Int × Int) := (saronref06_asked.f k a0_0 a0_1 a0_2 l0_3 l1).bind fun t365 => (if t365 = 0 then (saronref06_Least.l0 k l1 0 0 a0_0 a0_1 a0_2 l0_3) else (some (0, t365)))
set_option maxHeartbeats 8000000 in
set_option maxRecDepth 100000 in
theorem saronref06_Least.calls (k : Nat) (a0_0 : Int) (a0_1 : Int) (a0_2 : Int) (A0_3 : Option Addr) (c0_3 : Nat) (l0_3 : List (S66)) (A1 : Option Addr) (c1 : Nat) (l1 : List (S60)) (r1 : Int) (r2 : Int) (w : World) (hr0_3 : Kd.C k66 w A0_3 l0_3.length l0_3) (hc0_3 : l0_3.length ≤ c0_3) (hr1 : Kd.C k60 w A1 l1.length l1) (hc1 : l1.length ≤ c1) (h : saronref06_Least.f k a0_0 a0_1 a0_2 l0_3 l1 = some (r1, r2)) :
  Calls Tryd.prog 32 #[.agg #[.int .i64 a0_0, .int .i64 a0_1, .int .i64 a0_2, .slice A0_3 l0_3.length c0_3], .slice A1 l1.length c1] w fun e w' => e = .returned (.tuple #[.int .i64 r1, .int .i64 r2]) ∧ Below w.heap.size w w' := by
 have hu24 := Tryd.underlying24
 have HR0_3 := zh hr0_3
 have HC0_3 := zh hc0_3
 clear hr0_3 hc0_3
 have HR1 := zh hr1
 have HC1 := zh hc1
 clear hr1 hc1
 have HB := zh (Below.refl w.heap.size w)
 have H : ((saronref06_asked.f k a0_0 a0_1 a0_2 l0_3 l1).bind fun t365 => (if t365 = 0 then (saronref06_Least.l0 k l1 0 0 a0_0 a0_1 a0_2 l0_3) else (some (0, t365)))) = some (r1, r2) := h
 clear h
 replace H := Option.bind_eq_some_iff.mp H
 obtain ⟨t365, A30, H⟩ := H
 replace H : (if t365 = 0 then (saronref06_Least.l0 k l1 0 0 a0_0 a0_1 a0_2 l0_3) else (some (0, t365))) = some (r1, r2) := H
 have A3 := zh A30
 clear A30
 by_cases c4 : t365 = 0
 ·rw [if_pos c4] at H
  have c4b0 : (t365 == 0) = true := beq_iff_eq.mpr c4
  have c4b1 : (t365 != 0) = false := bne_eq_false_iff_eq.mpr c4
  clear c4
  have H' := zh H
  clear H
  go_enter Tryd.func32, Tryd.ntmps32
  go_wp2_with (first | ((with_reducible refine gate_dst (N := 2) rfl ?_); refine box_event ?hg (N := 2) ?hd (cs := #[.int .i64 a0_0, .int .i64 a0_1, .int .i64 a0_2, .slice A0_3 l0_3.length c0_3]) (t := 24) ?hr ?_; (case hd => rfl); (case hg => rfl); (case hr => first | (go_simp; done) | (go_simp; rfl)); intro gb364 hg w5 hbox hb; have n0_ := zh (below_step zb hb); have n1_ := zh (hbox); have n2_ := zh ((by rw [hg]; exact (below_size zb) : w.heap.size ≤ gb364)); have n3_ := zh ((by rw [hg]; exact (below_size zb) : w.heap.size ≤ gb364)); clear HB; have HB := n0_; have BK364 := n1_; have GW364 := n2_; have GE364 := n3_; clear n0_ n1_ n2_ n3_; clear hb hbox hg; have hcz6_0 : w5.cell? ⟨gb364, 0, none⟩ = some (.int .i64 a0_0) := vb BK364 0; have hcz6_1 : w5.cell? ⟨gb364, 1, none⟩ = some (.int .i64 a0_1) := vb BK364 1; have hcz6_2 : w5.cell? ⟨gb364, 2, none⟩ = some (.int .i64 a0_2) := vb BK364 2; have hcz6_3 : w5.cell? ⟨gb364, 3, none⟩ = some (.slice A0_3 l0_3.length c0_3) := vb BK364 3; have hfz6_0 := blk_frozen BK364.out 0; have hfz6_1 := blk_frozen BK364.out 1; have hfz6_2 := blk_frozen BK364.out 2; have hfz6_3 := blk_frozen BK364.out 3) | ((with_reducible refine gate_callee (f := 66) rfl ?_); refine goesL_ (some 14) rfl rfl Tryd.func66 zk rfl #[.agg #[.int .i64 a0_0, .int .i64 a0_1, .int .i64 a0_2, .slice A0_3 l0_3.length c0_3], .slice A1 l1.length c1] rfl zm ?_; (with_reducible refine (saronref06_asked.calls k a0_0 a0_1 a0_2 _ _ l0_3 _ _ l1 t365 _ ?side1 ?side2 ?side3 ?side4 A3.out).mono ?_); (case side1 => repeat (first | exact (Kd.C_below HR0_3.out HB.out) | (with_reducible refine Kd.C_alloc ?_ _) | (with_reducible refine Kd.C_drewN ?_ _) | (with_reducible refine Kd.C_drew ?_))); (case side2 => exact HC0_3.out); (case side3 => repeat (first | exact (Kd.C_below HR1.out HB.out) | (with_reducible refine Kd.C_alloc ?_ _) | (with_reducible refine Kd.C_drewN ?_ _) | (with_reducible refine Kd.C_drew ?_))); (case side4 => exact HC1.out); rintro e w7 ⟨rfl, hb⟩; refine ⟨_, rfl, ?_⟩; have n0_ := zh (blk_below (g := gb364) (o := .cells #[.int .i64 a0_0, .int .i64 a0_1, .int .i64 a0_2, .slice A0_3 l0_3.length c0_3] 24 (0, 0)) (zc BK364) hb); have n1_ := zh (below_step zb hb); clear BK364; clear HB; have BK364 := n0_; have HB := n1_; clear n0_ n1_; (try clear hb); (try clear hb2); (try clear hk); (try clear hi)))
  go_loopg [7, 8] k (fun kq v7 v8 w' => ∃ (x7_1 : Int) (x8_1 : Int), v7 = .int .i64 x7_1 ∧ v8 = .int .i64 x8_1 ∧ Aside0 (saronref06_Least.l0 kq l1 x7_1 x8_1 a0_0 a0_1 a0_2 l0_3 = some (r1, r2)) ∧ Aside0 (kq ≤ k) ∧ Aside0 (w'.heap[gb364]? = some (.cells #[.int .i64 a0_0, .int .i64 a0_1, .int .i64 a0_2, (.slice A0_3 l0_3.length c0_3)] 24 (0, 0))) ∧ Aside0 (Below w.heap.size w w'))
  case atStart => exact ⟨(0), (0), ze, ze, H', ⟨Nat.le_refl _⟩, ⟨zc BK364⟩, ⟨zb⟩⟩
  case round =>
   clear H'
   try clear c1
   try clear p2
   try clear c3
   try clear c4
   try clear c4b0
   try clear c4b1
   try clear c6
   try clear hcz6_0
   try clear hcz6_1
   try clear hcz6_2
   try clear hcz6_3
   try clear hfz6_0
   try clear hfz6_1
   try clear hfz6_2
   try clear hfz6_3
   obtain ⟨x7_1, x8_1, rfl, rfl, HA, HK1, BK364, HB⟩ := hrel
   cases gk with
   | zero => exact absurd HA.out (by simp [saronref06_Least.l0])
   | succ k1 =>
    have H := HA.out
    clear HA
    simp only [saronref06_Least.l0] at H
    by_cases c8 : x8_1 < (wrap64 (Int.tdiv a0_2 2))
    ·rw [if_pos c8] at H
     have c8b0 : decide (x8_1 < (wrap64 (Int.tdiv a0_2 2))) = true := decide_eq_true c8
     clear c8
     replace H := Option.bind_eq_some_iff.mp H
     obtain ⟨t366, A90, H⟩ := H
     replace H : (saronref06_Least.l1 k1 l1 x7_1 x8_1 t366 0 a0_0 a0_1 a0_2 l0_3) = some (r1, r2) := H
     have A9 := zh A90
     clear A90
     have H' := zh H
     clear H
     have hcz10_0 : wr.cell? ⟨gb364, 0, none⟩ = some (.int .i64 a0_0) := vb BK364 0
     have hcz10_1 : wr.cell? ⟨gb364, 1, none⟩ = some (.int .i64 a0_1) := vb BK364 1
     have hcz10_2 : wr.cell? ⟨gb364, 2, none⟩ = some (.int .i64 a0_2) := vb BK364 2
     have hcz10_3 : wr.cell? ⟨gb364, 3, none⟩ = some (.slice A0_3 l0_3.length c0_3) := vb BK364 3
     have hfz10_0 := blk_frozen BK364.out 0
     have hfz10_1 := blk_frozen BK364.out 1
     have hfz10_2 := blk_frozen BK364.out 2
     have hfz10_3 := blk_frozen BK364.out 3
     go_wp2_with (first | ((with_reducible refine gate_callee (f := 76) rfl ?_); refine goesL_ (some 28) rfl rfl Tryd.func76 zk rfl #[.agg #[.int .i64 a0_0, .int .i64 a0_1, .int .i64 a0_2, .slice A0_3 l0_3.length c0_3], .slice A1 l1.length c1, .int .i64 x8_1, .int .i64 0, .int .i64 0] rfl zm ?_; (with_reducible refine (saronref06_otherwise.calls k1 a0_0 a0_1 a0_2 _ _ l0_3 _ _ l1 x8_1 0 0 t366 _ ?side1 ?side2 ?side3 ?side4 A9.out).mono ?_); (case side1 => repeat (first | exact (Kd.C_below HR0_3.out HB.out) | (with_reducible refine Kd.C_alloc ?_ _) | (with_reducible refine Kd.C_drewN ?_ _) | (with_reducible refine Kd.C_drew ?_))); (case side2 => exact HC0_3.out); (case side3 => repeat (first | exact (Kd.C_below HR1.out HB.out) | (with_reducible refine Kd.C_alloc ?_ _) | (with_reducible refine Kd.C_drewN ?_ _) | (with_reducible refine Kd.C_drew ?_))); (case side4 => exact HC1.out); rintro e w11 ⟨rfl, hb⟩; refine ⟨_, rfl, ?_⟩; have n0_ := zh (blk_below (g := gb364) (o := .cells #[.int .i64 a0_0, .int .i64 a0_1, .int .i64 a0_2, .slice A0_3 l0_3.length c0_3] 24 (0, 0)) (zc BK364) hb); have n1_ := zh (below_step zb hb); clear BK364; clear HB; have BK364 := n0_; have HB := n1_; clear n0_ n1_; (try clear hb); (try clear hb2); (try clear hk); (try clear hi)))
     go_loopg [9, 10] k1 (fun kq v9 v10 w' => ∃ (x9_2 : Int) (x10_2 : Int), v9 = .int .i64 x9_2 ∧ v10 = .int .i64 x10_2 ∧ Aside0 (saronref06_Least.l1 kq l1 x7_1 x8_1 x9_2 x10_2 a0_0 a0_1 a0_2 l0_3 = some (r1, r2)) ∧ Aside0 (kq ≤ k1) ∧ Aside0 (w'.heap[gb364]? = some (.cells #[.int .i64 a0_0, .int .i64 a0_1, .int .i64 a0_2, (.slice A0_3 l0_3.length c0_3)] 24 (0, 0))) ∧ Aside0 (Below w.heap.size w w'))
     case atStart => exact ⟨(t366), (0), ze, ze, H', ⟨Nat.le_refl _⟩, ⟨zc BK364⟩, ⟨zb⟩⟩
     case round =>
      clear H'
      try clear c1
      try clear p2
      try clear c3
      try clear c4
      try clear c4b0
      try clear c4b1
      try clear c6
      try clear p6
      try clear c7
      try clear c8
      try clear c8b0
      try clear hcz10_0
      try clear hcz10_1
      try clear hcz10_2
      try clear hcz10_3
      try clear hcz6_0
      try clear hcz6_1
      try clear hcz6_2
      try clear hcz6_3
      try clear hfz10_0
      try clear hfz10_1
      try clear hfz10_2
      try clear hfz10_3
      try clear hfz6_0
      try clear hfz6_1
      try clear hfz6_2
      try clear hfz6_3
      try clear p2
      obtain ⟨x9_2, x10_2, rfl, rfl, HA, HK2, BK364, HB⟩ := hrel
      cases gk with
      | zero => exact absurd HA.out (by simp [saronref06_Least.l1])
      | succ k2 =>
       have H := HA.out
       clear HA
       simp only [saronref06_Least.l1] at H
       replace H := Option.bind_eq_some_iff.mp H
       obtain ⟨t367, A120, H⟩ := H
       replace H : (if x10_2 < t367 then (saronref06_Least.l2 k2 l1 x7_1 x8_1 x9_2 x10_2 0 a0_0 a0_1 a0_2 l0_3) else (saronref06_Least.l0 k2 l1 (wrap64 (x7_1 + x9_2)) (wrap64 (x8_1 + 1)) a0_0 a0_1 a0_2 l0_3)) = some (r1, r2) := H
       have A12 := zh A120
       clear A120
       by_cases c13 : x10_2 < t367
       ·rw [if_pos c13] at H
        have c13b0 : decide (x10_2 < t367) = true := decide_eq_true c13
        clear c13
        have H' := zh H
        clear H
        have hcz14_0 : wr.cell? ⟨gb364, 0, none⟩ = some (.int .i64 a0_0) := vb BK364 0
        have hcz14_1 : wr.cell? ⟨gb364, 1, none⟩ = some (.int .i64 a0_1) := vb BK364 1
        have hcz14_2 : wr.cell? ⟨gb364, 2, none⟩ = some (.int .i64 a0_2) := vb BK364 2
        have hcz14_3 : wr.cell? ⟨gb364, 3, none⟩ = some (.slice A0_3 l0_3.length c0_3) := vb BK364 3
        have hfz14_0 := blk_frozen BK364.out 0
        have hfz14_1 := blk_frozen BK364.out 1
        have hfz14_2 := blk_frozen BK364.out 2
        have hfz14_3 := blk_frozen BK364.out 3
        go_wp2_with (first | ((with_reducible refine gate_callee (f := 58) rfl ?_); refine goesL_ (some 31) rfl rfl Tryd.func58 zk rfl #[.agg #[.int .i64 a0_0, .int .i64 a0_1, .int .i64 a0_2, .slice A0_3 l0_3.length c0_3]] rfl zm ?_; (with_reducible refine (saronref06_tones.calls a0_0 a0_1 a0_2 _ _ l0_3 t367 _ ?side1 ?side2 A12.out).mono ?_); (case side1 => repeat (first | exact (Kd.C_below HR0_3.out HB.out) | (with_reducible refine Kd.C_alloc ?_ _) | (with_reducible refine Kd.C_drewN ?_ _) | (with_reducible refine Kd.C_drew ?_))); (case side2 => exact HC0_3.out); rintro e w15 ⟨rfl, hb⟩; refine ⟨_, rfl, ?_⟩; have n0_ := zh (blk_below (g := gb364) (o := .cells #[.int .i64 a0_0, .int .i64 a0_1, .int .i64 a0_2, .slice A0_3 l0_3.length c0_3] 24 (0, 0)) (zc BK364) hb); have n1_ := zh (below_step zb hb); clear BK364; clear HB; have BK364 := n0_; have HB := n1_; clear n0_ n1_; (try clear hb); (try clear hb2); (try clear hk); (try clear hi)))
        go_loopg [9, 11] k2 (fun kq v9 v11 w' => ∃ (x9_3 : Int) (x11_3 : Int), v9 = .int .i64 x9_3 ∧ v11 = .int .i64 x11_3 ∧ Aside0 (saronref06_Least.l2 kq l1 x7_1 x8_1 x9_3 x10_2 x11_3 a0_0 a0_1 a0_2 l0_3 = some (r1, r2)) ∧ Aside0 (kq ≤ k2) ∧ Aside0 (w'.heap[gb364]? = some (.cells #[.int .i64 a0_0, .int .i64 a0_1, .int .i64 a0_2, (.slice A0_3 l0_3.length c0_3)] 24 (0, 0))) ∧ Aside0 (Below w.heap.size w w'))
        case atStart => exact ⟨(x9_2), (0), ze, ze, H', ⟨Nat.le_refl _⟩, ⟨zc BK364⟩, ⟨zb⟩⟩
        case round =>
         clear H'
         try clear c1
         try clear p2
         try clear c3
         try clear c4
         try clear c4b0
         try clear c4b1
         try clear c5
         try clear c6
         try clear p6
         try clear c7
         try clear c8
         try clear c8b0
         try clear c13
         try clear c13b0
         try clear hcz10_0
         try clear hcz10_1
         try clear hcz10_2
         try clear hcz10_3
         try clear hcz14_0
         try clear hcz14_1
         try clear hcz14_2
         try clear hcz14_3
         try clear hcz6_0
         try clear hcz6_1
         try clear hcz6_2
         try clear hcz6_3
         try clear hfz10_0
         try clear hfz10_1
         try clear hfz10_2
         try clear hfz10_3
         try clear hfz14_0
         try clear hfz14_1
         try clear hfz14_2
         try clear hfz14_3
         try clear hfz6_0
         try clear hfz6_1
         try clear hfz6_2
         try clear hfz6_3
         try clear p2
         try clear p6
         obtain ⟨x9_3, x11_3, rfl, rfl, HA, HK3, BK364, HB⟩ := hrel
         cases gk with
         | zero => exact absurd HA.out (by simp [saronref06_Least.l2])
         | succ k3 =>
          have H := HA.out
          clear HA
          simp only [saronref06_Least.l2] at H
          replace H := Option.bind_eq_some_iff.mp H
          obtain ⟨t368, A160, H⟩ := H
          replace H : (if x11_3 < t368 then ((saronref06_otherwise.f k3 a0_0 a0_1 a0_2 l0_3 l1 x8_1 x10_2 x11_3).bind fun t369 => (saronref06_Least.l2 k3 l1 x7_1 x8_1 (mn x9_3 t369) x10_2 (wrap64 (x11_3 + 1)) a0_0 a0_1 a0_2 l0_3)) else (saronref06_Least.l1 k3 l1 x7_1 x8_1 x9_3 (wrap64 (x10_2 + 1)) a0_0 a0_1 a0_2 l0_3)) = some (r1, r2) := H
          have A16 := zh A160
          clear A160
          by_cases c17 : x11_3 < t368
          ·rw [if_pos c17] at H
           have c17b0 : decide (x11_3 < t368) = true := decide_eq_true c17
           clear c17
           replace H := Option.bind_eq_some_iff.mp H
           obtain ⟨t369, A180, H⟩ := H
           replace H : (saronref06_Least.l2 k3 l1 x7_1 x8_1 (mn x9_3 t369) x10_2 (wrap64 (x11_3 + 1)) a0_0 a0_1 a0_2 l0_3) = some (r1, r2) := H
           have A18 := zh A180
           clear A180
           obtain ⟨ji19, hji19⟩ : ∃ j_ : Int, (mn x9_3 t369) = j_ := ⟨_, rfl⟩
           replace H : (saronref06_Least.l2 k3 l1 x7_1 x8_1 ji19 x10_2 (wrap64 (x11_3 + 1)) a0_0 a0_1 a0_2 l0_3) = some (r1, r2) := by first | (rw [hji19] at H; exact H) | (simp only [hji19] at H ⊢; exact H)
           (try rw [hji19] at A16)
           (try rw [hji19] at A18)
           have hji19_ : (if t369 < x9_3 then t369 else x9_3) = ji19 := hji19
           have H' := zh H
           clear H
           have hcz20_0 : wr.cell? ⟨gb364, 0, none⟩ = some (.int .i64 a0_0) := vb BK364 0
           have hcz20_1 : wr.cell? ⟨gb364, 1, none⟩ = some (.int .i64 a0_1) := vb BK364 1
           have hcz20_2 : wr.cell? ⟨gb364, 2, none⟩ = some (.int .i64 a0_2) := vb BK364 2
           have hcz20_3 : wr.cell? ⟨gb364, 3, none⟩ = some (.slice A0_3 l0_3.length c0_3) := vb BK364 3
           have hfz20_0 := blk_frozen BK364.out 0
           have hfz20_1 := blk_frozen BK364.out 1
           have hfz20_2 := blk_frozen BK364.out 2
           have hfz20_3 := blk_frozen BK364.out 3
           go_wp2_with (first | ((with_reducible refine gate_callee (f := 58) rfl ?_); refine goesL_ (some 37) rfl rfl Tryd.func58 zk rfl #[.agg #[.int .i64 a0_0, .int .i64 a0_1, .int .i64 a0_2, .slice A0_3 l0_3.length c0_3]] rfl zm ?_; (with_reducible refine (saronref06_tones.calls a0_0 a0_1 a0_2 _ _ l0_3 t368 _ ?side1 ?side2 A16.out).mono ?_); (case side1 => repeat (first | exact (Kd.C_below HR0_3.out HB.out) | (with_reducible refine Kd.C_alloc ?_ _) | (with_reducible refine Kd.C_drewN ?_ _) | (with_reducible refine Kd.C_drew ?_))); (case side2 => exact HC0_3.out); rintro e w21 ⟨rfl, hb⟩; refine ⟨_, rfl, ?_⟩; have n0_ := zh (blk_below (g := gb364) (o := .cells #[.int .i64 a0_0, .int .i64 a0_1, .int .i64 a0_2, .slice A0_3 l0_3.length c0_3] 24 (0, 0)) (zc BK364) hb); have n1_ := zh (below_step zb hb); clear BK364; clear HB; have BK364 := n0_; have HB := n1_; clear n0_ n1_; (try clear hb); (try clear hb2); (try clear hk); (try clear hi); have hcz22_0 : w21.cell? ⟨gb364, 0, none⟩ = some (.int .i64 a0_0) := vb BK364 0; have hcz22_1 : w21.cell? ⟨gb364, 1, none⟩ = some (.int .i64 a0_1) := vb BK364 1; have hcz22_2 : w21.cell? ⟨gb364, 2, none⟩ = some (.int .i64 a0_2) := vb BK364 2; have hcz22_3 : w21.cell? ⟨gb364, 3, none⟩ = some (.slice A0_3 l0_3.length c0_3) := vb BK364 3; have hfz22_0 := blk_frozen BK364.out 0; have hfz22_1 := blk_frozen BK364.out 1; have hfz22_2 := blk_frozen BK364.out 2; have hfz22_3 := blk_frozen BK364.out 3) | ((with_reducible refine gate_callee (f := 76) rfl ?_); refine goesL_ (some 47) rfl rfl Tryd.func76 zk rfl #[.agg #[.int .i64 a0_0, .int .i64 a0_1, .int .i64 a0_2, .slice A0_3 l0_3.length c0_3], .slice A1 l1.length c1, .int .i64 x8_1, .int .i64 x10_2, .int .i64 x11_3] rfl zm ?_; (with_reducible refine (saronref06_otherwise.calls k3 a0_0 a0_1 a0_2 _ _ l0_3 _ _ l1 x8_1 x10_2 x11_3 t369 _ ?side1 ?side2 ?side3 ?side4 A18.out).mono ?_); (case side1 => repeat (first | exact (Kd.C_below HR0_3.out HB.out) | (with_reducible refine Kd.C_alloc ?_ _) | (with_reducible refine Kd.C_drewN ?_ _) | (with_reducible refine Kd.C_drew ?_))); (case side2 => exact HC0_3.out); (case side3 => repeat (first | exact (Kd.C_below HR1.out HB.out) | (with_reducible refine Kd.C_alloc ?_ _) | (with_reducible refine Kd.C_drewN ?_ _) | (with_reducible refine Kd.C_drew ?_))); (case side4 => exact HC1.out); rintro e w23 ⟨rfl, hb⟩; refine ⟨_, rfl, ?_⟩; have n0_ := zh (blk_below (g := gb364) (o := .cells #[.int .i64 a0_0, .int .i64 a0_1, .int .i64 a0_2, .slice A0_3 l0_3.length c0_3] 24 (0, 0)) (zc BK364) hb); have n1_ := zh (below_step zb hb); clear BK364; clear HB; have BK364 := n0_; have HB := n1_; clear n0_ n1_; (try clear hb); (try clear hb2); (try clear hk); (try clear hi)))
           go_roundg k3
           case measure => have := HK1.out; have := HK2.out; have := HK3.out; omega
           case rel => exact ⟨(ji19), (wrap64 (x11_3 + 1)), (by first | rfl | (simp; done) | (simp only [← hji19] <;> (first | rfl | simp)) | (simp [*]; done)), ze, H', ⟨by have := HK1.out; have := HK2.out; have := HK3.out; omega⟩, ⟨zc BK364⟩, ⟨zb⟩⟩
          ·rw [if_neg c17] at H
           have c17b0 : decide (x11_3 < t368) = false := decide_eq_false c17
           clear c17
           have H' := zh H
           clear H
           have hcz24_0 : wr.cell? ⟨gb364, 0, none⟩ = some (.int .i64 a0_0) := vb BK364 0
           have hcz24_1 : wr.cell? ⟨gb364, 1, none⟩ = some (.int .i64 a0_1) := vb BK364 1
           have hcz24_2 : wr.cell? ⟨gb364, 2, none⟩ = some (.int .i64 a0_2) := vb BK364 2
           have hcz24_3 : wr.cell? ⟨gb364, 3, none⟩ = some (.slice A0_3 l0_3.length c0_3) := vb BK364 3
           have hfz24_0 := blk_frozen BK364.out 0
           have hfz24_1 := blk_frozen BK364.out 1
           have hfz24_2 := blk_frozen BK364.out 2
           have hfz24_3 := blk_frozen BK364.out 3
           go_wp2_with (first | ((with_reducible refine gate_callee (f := 58) rfl ?_); refine goesL_ (some 37) rfl rfl Tryd.func58 zk rfl #[.agg #[.int .i64 a0_0, .int .i64 a0_1, .int .i64 a0_2, .slice A0_3 l0_3.length c0_3]] rfl zm ?_; (with_reducible refine (saronref06_tones.calls a0_0 a0_1 a0_2 _ _ l0_3 t368 _ ?side1 ?side2 A16.out).mono ?_); (case side1 => repeat (first | exact (Kd.C_below HR0_3.out HB.out) | (with_reducible refine Kd.C_alloc ?_ _) | (with_reducible refine Kd.C_drewN ?_ _) | (with_reducible refine Kd.C_drew ?_))); (case side2 => exact HC0_3.out); rintro e w25 ⟨rfl, hb⟩; refine ⟨_, rfl, ?_⟩; have n0_ := zh (blk_below (g := gb364) (o := .cells #[.int .i64 a0_0, .int .i64 a0_1, .int .i64 a0_2, .slice A0_3 l0_3.length c0_3] 24 (0, 0)) (zc BK364) hb); have n1_ := zh (below_step zb hb); clear BK364; clear HB; have BK364 := n0_; have HB := n1_; clear n0_ n1_; (try clear hb); (try clear hb2); (try clear hk); (try clear hi)))
           go_roundg k3
           case measure => have := HK1.out; have := HK2.out; have := HK3.out; omega
           case rel => exact ⟨(x9_3), (wrap64 (x10_2 + 1)), ze, ze, H', ⟨by have := HK1.out; have := HK2.out; have := HK3.out; omega⟩, ⟨zc BK364⟩, ⟨zb⟩⟩
       ·rw [if_neg c13] at H
        have c13b0 : decide (x10_2 < t367) = false := decide_eq_false c13
        clear c13
        have H' := zh H
        clear H
        have hcz26_0 : wr.cell? ⟨gb364, 0, none⟩ = some (.int .i64 a0_0) := vb BK364 0
        have hcz26_1 : wr.cell? ⟨gb364, 1, none⟩ = some (.int .i64 a0_1) := vb BK364 1
        have hcz26_2 : wr.cell? ⟨gb364, 2, none⟩ = some (.int .i64 a0_2) := vb BK364 2
        have hcz26_3 : wr.cell? ⟨gb364, 3, none⟩ = some (.slice A0_3 l0_3.length c0_3) := vb BK364 3
        have hfz26_0 := blk_frozen BK364.out 0
        have hfz26_1 := blk_frozen BK364.out 1
        have hfz26_2 := blk_frozen BK364.out 2
        have hfz26_3 := blk_frozen BK364.out 3
        go_wp2_with (first | ((with_reducible refine gate_callee (f := 58) rfl ?_); refine goesL_ (some 31) rfl rfl Tryd.func58 zk rfl #[.agg #[.int .i64 a0_0, .int .i64 a0_1, .int .i64 a0_2, .slice A0_3 l0_3.length c0_3]] rfl zm ?_; (with_reducible refine (saronref06_tones.calls a0_0 a0_1 a0_2 _ _ l0_3 t367 _ ?side1 ?side2 A12.out).mono ?_); (case side1 => repeat (first | exact (Kd.C_below HR0_3.out HB.out) | (with_reducible refine Kd.C_alloc ?_ _) | (with_reducible refine Kd.C_drewN ?_ _) | (with_reducible refine Kd.C_drew ?_))); (case side2 => exact HC0_3.out); rintro e w27 ⟨rfl, hb⟩; refine ⟨_, rfl, ?_⟩; have n0_ := zh (blk_below (g := gb364) (o := .cells #[.int .i64 a0_0, .int .i64 a0_1, .int .i64 a0_2, .slice A0_3 l0_3.length c0_3] 24 (0, 0)) (zc BK364) hb); have n1_ := zh (below_step zb hb); clear BK364; clear HB; have BK364 := n0_; have HB := n1_; clear n0_ n1_; (try clear hb); (try clear hb2); (try clear hk); (try clear hi)))
        go_roundg k2
        case measure => have := HK1.out; have := HK2.out; omega
        case rel => exact ⟨(wrap64 (x7_1 + x9_2)), (wrap64 (x8_1 + 1)), ze, ze, H', ⟨zw HK1 HK2⟩, ⟨zc BK364⟩, ⟨zb⟩⟩
    ·rw [if_neg c8] at H
     have c8b0 : decide (x8_1 < (wrap64 (Int.tdiv a0_2 2))) = false := decide_eq_false c8
     clear c8
     simp only [Option.some.injEq, Prod.mk.injEq] at H
     obtain ⟨rfl, rfl⟩ := H
     have hcz28_0 : wr.cell? ⟨gb364, 0, none⟩ = some (.int .i64 a0_0) := vb BK364 0
     have hcz28_1 : wr.cell? ⟨gb364, 1, none⟩ = some (.int .i64 a0_1) := vb BK364 1
     have hcz28_2 : wr.cell? ⟨gb364, 2, none⟩ = some (.int .i64 a0_2) := vb BK364 2
     have hcz28_3 : wr.cell? ⟨gb364, 3, none⟩ = some (.slice A0_3 l0_3.length c0_3) := vb BK364 3
     have hfz28_0 := blk_frozen BK364.out 0
     have hfz28_1 := blk_frozen BK364.out 1
     have hfz28_2 := blk_frozen BK364.out 2
     have hfz28_3 := blk_frozen BK364.out 3
     go_wp2
     go_ret2
     exact ⟨zf, zb⟩
 ·rw [if_neg c4] at H
  have c4b0 : (t365 == 0) = false := beq_eq_false_iff_ne.mpr c4
  have c4b1 : (t365 != 0) = true := bne_iff_ne.mpr c4
  simp only [Option.some.injEq, Prod.mk.injEq] at H
  obtain ⟨rfl, rfl⟩ := H
  go_enter Tryd.func32, Tryd.ntmps32
  go_wp2_with (first | ((with_reducible refine gate_dst (N := 2) rfl ?_); refine box_event ?hg (N := 2) ?hd (cs := #[.int .i64 a0_0, .int .i64 a0_1, .int .i64 a0_2, .slice A0_3 l0_3.length c0_3]) (t := 24) ?hr ?_; (case hd => rfl); (case hg => rfl); (case hr => first | (go_simp; done) | (go_simp; rfl)); intro gb364 hg w29 hbox hb; have n0_ := zh (below_step zb hb); have n1_ := zh (hbox); have n2_ := zh ((by rw [hg]; exact (below_size zb) : w.heap.size ≤ gb364)); have n3_ := zh ((by rw [hg]; exact (below_size zb) : w.heap.size ≤ gb364)); clear HB; have HB := n0_; have BK364 := n1_; have GW364 := n2_; have GE364 := n3_; clear n0_ n1_ n2_ n3_; clear hb hbox hg; have hcz30_0 : w29.cell? ⟨gb364, 0, none⟩ = some (.int .i64 a0_0) := vb BK364 0; have hcz30_1 : w29.cell? ⟨gb364, 1, none⟩ = some (.int .i64 a0_1) := vb BK364 1; have hcz30_2 : w29.cell? ⟨gb364, 2, none⟩ = some (.int .i64 a0_2) := vb BK364 2; have hcz30_3 : w29.cell? ⟨gb364, 3, none⟩ = some (.slice A0_3 l0_3.length c0_3) := vb BK364 3; have hfz30_0 := blk_frozen BK364.out 0; have hfz30_1 := blk_frozen BK364.out 1; have hfz30_2 := blk_frozen BK364.out 2; have hfz30_3 := blk_frozen BK364.out 3) | ((with_reducible refine gate_callee (f := 66) rfl ?_); refine goesL_ (some 14) rfl rfl Tryd.func66 zk rfl #[.agg #[.int .i64 a0_0, .int .i64 a0_1, .int .i64 a0_2, .slice A0_3 l0_3.length c0_3], .slice A1 l1.length c1] rfl zm ?_; (with_reducible refine (saronref06_asked.calls k a0_0 a0_1 a0_2 _ _ l0_3 _ _ l1 t365 _ ?side1 ?side2 ?side3 ?side4 A3.out).mono ?_); (case side1 => repeat (first | exact (Kd.C_below HR0_3.out HB.out) | (with_reducible refine Kd.C_alloc ?_ _) | (with_reducible refine Kd.C_drewN ?_ _) | (with_reducible refine Kd.C_drew ?_))); (case side2 => exact HC0_3.out); (case side3 => repeat (first | exact (Kd.C_below HR1.out HB.out) | (with_reducible refine Kd.C_alloc ?_ _) | (with_reducible refine Kd.C_drewN ?_ _) | (with_reducible refine Kd.C_drew ?_))); (case side4 => exact HC1.out); rintro e w31 ⟨rfl, hb⟩; refine ⟨_, rfl, ?_⟩; have n0_ := zh (blk_below (g := gb364) (o := .cells #[.int .i64 a0_0, .int .i64 a0_1, .int .i64 a0_2, .slice A0_3 l0_3.length c0_3] 24 (0, 0)) (zc BK364) hb); have n1_ := zh (below_step zb hb); clear BK364; clear HB; have BK364 := n0_; have HB := n1_; clear n0_ n1_; (try clear hb); (try clear hb2); (try clear hk); (try clear hi)))
  go_ret2
  exact ⟨zf, zb⟩
end Go.Proofs.YtagkfkdoibnhfaaDoor.H
end
section
namespace Go.Proofs.YtagkfkdoibnhfaaDoor.H
open Go.RowKit Go.Proofs.YtagkfkdoibnhfaaDoorW.PrintWords Go.Proofs.YtagkfkdoibnhfaaDoorW.PrintLast Go.Proofs.YtagkfkdoibnhfaaDoorW.PrintMore
attribute [local go_sem] max2_int min2_int max_two min_two max_three min_three max_four min_four   -- for this text's walks alone
set_option linter.unusedVariables false
set_option linter.unusedSimpArgs false
def saronref06_Won.l0 : Nat → List (List (S61)) → List Int → Int → Option (List Int × Int)
 | 0, _, _, _ => none
 | k + 1, x8, x10, x11 => if x11 < (x8.length : Int) then (if 0 ≤ x11 then (if 0 < ((rd_L9 x8 x11).length : Int) then ((some (([(rd_T61 (rd_L9 x8 x11) 0).f0, (rd_T61 (rd_L9 x8 x11) 0).f1] : List Int) : List Int)).bind fun y322 => (if x10.length + y322.length < 17592186044416 then (saronref06_Won.l0 k x8 (x10 ++ y322) (wrap64 (x11 + 1))) else (none))) else (none)) else (none)) else (some (x10, 0))
def saronref06_Won.f (k : Nat) (a0_0 : Int) (a0_1 : Int) (a0_2 : Int) (l0_3 : List (S66)) (l1 : List (S60)) : Option (List Int × Int) := (saronref06_Many.f k a0_0 a0_1 a0_2 l0_3 l1).bind fun bt312 => (if bt312.2 = 0 then (if bt312.1 = 0 then (some (([] : List Int), 62)) else (if bt312.1 > 1 then (some (([] : List Int), 63)) else ((saronref06_all.f k a0_0 a0_1 a0_2 l0_3 l1).bind fun bt314 => (saronref06_Won.l0 k bt314.1 ([] : List Int) 0)))) else (some (([] : List Int), bt312.2)))
def saronref06_Won.T13 : Bool × List (List Nat × List Nat) := (true, [([], []), ([], []), ([], []), ([1, 2], [1, 2]), ([3], [3]), ([4], [4]), ([5], [5]), ([6], [6]), ([], []), ([], []), ([8, 9], [8, 9]), ([10], [10]), ([11], [11]), ([12], [12]), ([13], [13]), ([7, 14], [7, 14]), ([0, 15], [0, 15]), ([16, 16, 0, 1, 2, 3, 4, 5, 6, 7, 8, 9, 10, 11, 12, 13, 14, 15, 16], [0, 16])])
def saronref06_Won.B13 : List Nat := [0, 0, 0, 6, 14, 30, 62, 126, 0, 0, 768, 1792, 3840, 7936, 16128, 32766, 65535, 131071]
theorem saronref06_Won.tab13 : rtab .any (opsOf Tryd.f27 13) = saronref06_Won.T13 := by kernel_rfl
theorem saronref06_Won.bits13 : waitsOk saronref06_Won.T13.2 saronref06_Won.B13 = true := by kernel_rfl
set_option maxHeartbeats 8000000 in
set_option maxRecDepth 100000 in
theorem saronref06_Won.calls (k : Nat) (a0_0 : Int) (a0_1 : Int) (a0_2 : Int) (A0_3 : Option Addr) (c0_3 : Nat) (l0_3 : List (S66)) (A1 : Option Addr) (c1 : Nat) (l1 : List (S60)) (r1 : List Int) (r2 : Int) (w : World) (hr0_3 : Kd.C k66 w A0_3 l0_3.length l0_3) (hc0_3 : l0_3.length ≤ c0_3) (hr1 : Kd.C k60 w A1 l1.length l1) (hc1 : l1.length ≤ c1) (h : saronref06_Won.f k a0_0 a0_1 a0_2 l0_3 l1 = some (r1, r2)) :
  Calls Tryd.prog 27 #[.agg #[.int .i64 a0_0, .int .i64 a0_1, .int .i64 a0_2, .slice A0_3 l0_3.length c0_3], .slice A1 l1.length c1] w fun e w' => ∃ v0_ : Value, e = .returned (.tuple #[v0_, .int .i64 r2]) ∧ Kd.R (Kd.int .i64) 3 w' w.heap.size (fun _ => True) v0_ r1 ∧ Below w.heap.size w w' := by
 have hu24 := Tryd.underlying24
 have HR0_3 := zh hr0_3
 have HC0_3 := zh hc0_3
 clear hr0_3 hc0_3
 have HR1 := zh hr1
 have HC1 := zh hc1
 clear hr1 hc1
 have HB := zh (Below.refl w.heap.size w)
 have H : ((saronref06_Many.f k a0_0 a0_1 a0_2 l0_3 l1).bind fun bt312 => (if bt312.2 = 0 then (if bt312.1 = 0 then (some (([] : List Int), 62)) else (if bt312.1 > 1 then (some (([] : List Int), 63)) else ((saronref06_all.f k a0_0 a0_1 a0_2 l0_3 l1).bind fun bt314 => (saronref06_Won.l0 k bt314.1 ([] : List Int) 0)))) else (some (([] : List Int), bt312.2)))) = some (r1, r2) := h
 clear h
 replace H := Option.bind_eq_some_iff.mp H
 obtain ⟨⟨t312, t313⟩, A30, H⟩ := H
 replace H : (if t313 = 0 then (if t312 = 0 then (some (([] : List Int), 62)) else (if t312 > 1 then (some (([] : List Int), 63)) else ((saronref06_all.f k a0_0 a0_1 a0_2 l0_3 l1).bind fun bt314 => (saronref06_Won.l0 k bt314.1 ([] : List Int) 0)))) else (some (([] : List Int), t313))) = some (r1, r2) := H
 have A3 := zh A30
 clear A30
 by_cases c4 : t313 = 0
 ·rw [if_pos c4] at H
  have c4b0 : (t313 == 0) = true := beq_iff_eq.mpr c4
  have c4b1 : (t313 != 0) = false := bne_eq_false_iff_eq.mpr c4
  clear c4
  by_cases c5 : t312 = 0
  ·rw [if_pos c5] at H
   have c5b0 : (t312 == 0) = true := beq_iff_eq.mpr c5
   have c5b1 : (t312 != 0) = false := bne_eq_false_iff_eq.mpr c5
   clear c5
   simp only [Option.some.injEq, Prod.mk.injEq] at H
   obtain ⟨rfl, rfl⟩ := H
   go_enter Tryd.func27, Tryd.ntmps27
   go_wp2_with (first | ((with_reducible refine gate_dst (N := 2) rfl ?_); refine box_event ?hg (N := 2) ?hd (cs := #[.int .i64 a0_0, .int .i64 a0_1, .int .i64 a0_2, .slice A0_3 l0_3.length c0_3]) (t := 24) ?hr ?_; (case hd => rfl); (case hg => rfl); (case hr => first | (go_simp; done) | (go_simp; rfl)); intro gb311 hg w6 hbox hb; have n0_ := zh (below_step zb hb); have n1_ := zh (hbox); have n2_ := zh ((by rw [hg]; exact (below_size zb) : w.heap.size ≤ gb311)); have n3_ := zh ((by rw [hg]; exact (below_size zb) : w.heap.size ≤ gb311)); clear HB; have HB := n0_; have BK311 := n1_; have GW311 := n2_; have GE311 := n3_; clear n0_ n1_ n2_ n3_; clear hb hbox hg; have hcz7_0 : w6.cell? ⟨gb311, 0, none⟩ = some (.int .i64 a0_0) := vb BK311 0; have hcz7_1 : w6.cell? ⟨gb311, 1, none⟩ = some (.int .i64 a0_1) := vb BK311 1; have hcz7_2 : w6.cell? ⟨gb311, 2, none⟩ = some (.int .i64 a0_2) := vb BK311 2; have hcz7_3 : w6.cell? ⟨gb311, 3, none⟩ = some (.slice A0_3 l0_3.length c0_3) := vb BK311 3; have hfz7_0 := blk_frozen BK311.out 0; have hfz7_1 := blk_frozen BK311.out 1; have hfz7_2 := blk_frozen BK311.out 2; have hfz7_3 := blk_frozen BK311.out 3) | ((with_reducible refine gate_callee (f := 23) rfl ?_); refine goesL_ (some 15) rfl rfl Tryd.func23 zk rfl #[.agg #[.int .i64 a0_0, .int .i64 a0_1, .int .i64 a0_2, .slice A0_3 l0_3.length c0_3], .slice A1 l1.length c1] rfl zm ?_; (with_reducible refine (saronref06_Many.calls k a0_0 a0_1 a0_2 _ _ l0_3 _ _ l1 t312 t313 _ ?side1 ?side2 ?side3 ?side4 A3.out).mono ?_); (case side1 => repeat (first | exact (Kd.C_below HR0_3.out HB.out) | (with_reducible refine Kd.C_alloc ?_ _) | (with_reducible refine Kd.C_drewN ?_ _) | (with_reducible refine Kd.C_drew ?_))); (case side2 => exact HC0_3.out); (case side3 => repeat (first | exact (Kd.C_below HR1.out HB.out) | (with_reducible refine Kd.C_alloc ?_ _) | (with_reducible refine Kd.C_drewN ?_ _) | (with_reducible refine Kd.C_drew ?_))); (case side4 => exact HC1.out); rintro e w8 ⟨rfl, hb⟩; refine ⟨_, rfl, ?_⟩; have n0_ := zh (blk_below (g := gb311) (o := .cells #[.int .i64 a0_0, .int .i64 a0_1, .int .i64 a0_2, .slice A0_3 l0_3.length c0_3] 24 (0, 0)) (zc BK311) hb); have n1_ := zh (below_step zb hb); clear BK311; clear HB; have BK311 := n0_; have HB := n1_; clear n0_ n1_; (try clear hb); (try clear hb2); (try clear hk); (try clear hi)))
   go_ret2
   exact ⟨_, zf, by first | exact Kd.R_nil _ _ _ _ _ | exact Kd.N_nil _ _ _ _ _ | exact Kd.V_nil _ _ _ _ _ | exact Kd.Q_nil _ _ _ _ _ | exact Kd.S_nil _ _ _ _ _, zb⟩
  ·rw [if_neg c5] at H
   have c5b0 : (t312 == 0) = false := beq_eq_false_iff_ne.mpr c5
   have c5b1 : (t312 != 0) = true := bne_iff_ne.mpr c5
   by_cases c9 : t312 > 1
   ·rw [if_pos c9] at H
    have c9b0 : decide (1 < t312) = true := decide_eq_true c9
    clear c9
    simp only [Option.some.injEq, Prod.mk.injEq] at H
    obtain ⟨rfl, rfl⟩ := H
    go_enter Tryd.func27, Tryd.ntmps27
    go_wp2_with (first | ((with_reducible refine gate_dst (N := 2) rfl ?_); refine box_event ?hg (N := 2) ?hd (cs := #[.int .i64 a0_0, .int .i64 a0_1, .int .i64 a0_2, .slice A0_3 l0_3.length c0_3]) (t := 24) ?hr ?_; (case hd => rfl); (case hg => rfl); (case hr => first | (go_simp; done) | (go_simp; rfl)); intro gb311 hg w10 hbox hb; have n0_ := zh (below_step zb hb); have n1_ := zh (hbox); have n2_ := zh ((by rw [hg]; exact (below_size zb) : w.heap.size ≤ gb311)); have n3_ := zh ((by rw [hg]; exact (below_size zb) : w.heap.size ≤ gb311)); clear HB; have HB := n0_; have BK311 := n1_; have GW311 := n2_; have GE311 := n3_; clear n0_ n1_ n2_ n3_; clear hb hbox hg; have hcz11_0 : w10.cell? ⟨gb311, 0, none⟩ = some (.int .i64 a0_0) := vb BK311 0; have hcz11_1 : w10.cell? ⟨gb311, 1, none⟩ = some (.int .i64 a0_1) := vb BK311 1; have hcz11_2 : w10.cell? ⟨gb311, 2, none⟩ = some (.int .i64 a0_2) := vb BK311 2; have hcz11_3 : w10.cell? ⟨gb311, 3, none⟩ = some (.slice A0_3 l0_3.length c0_3) := vb BK311 3; have hfz11_0 := blk_frozen BK311.out 0; have hfz11_1 := blk_frozen BK311.out 1; have hfz11_2 := blk_frozen BK311.out 2; have hfz11_3 := blk_frozen BK311.out 3) | ((with_reducible refine gate_callee (f := 23) rfl ?_); refine goesL_ (some 15) rfl rfl Tryd.func23 zk rfl #[.agg #[.int .i64 a0_0, .int .i64 a0_1, .int .i64 a0_2, .slice A0_3 l0_3.length c0_3], .slice A1 l1.length c1] rfl zm ?_; (with_reducible refine (saronref06_Many.calls k a0_0 a0_1 a0_2 _ _ l0_3 _ _ l1 t312 t313 _ ?side1 ?side2 ?side3 ?side4 A3.out).mono ?_); (case side1 => repeat (first | exact (Kd.C_below HR0_3.out HB.out) | (with_reducible refine Kd.C_alloc ?_ _) | (with_reducible refine Kd.C_drewN ?_ _) | (with_reducible refine Kd.C_drew ?_))); (case side2 => exact HC0_3.out); (case side3 => repeat (first | exact (Kd.C_below HR1.out HB.out) | (with_reducible refine Kd.C_alloc ?_ _) | (with_reducible refine Kd.C_drewN ?_ _) | (with_reducible refine Kd.C_drew ?_))); (case side4 => exact HC1.out); rintro e w12 ⟨rfl, hb⟩; refine ⟨_, rfl, ?_⟩; have n0_ := zh (blk_below (g := gb311) (o := .cells #[.int .i64 a0_0, .int .i64 a0_1, .int .i64 a0_2, .slice A0_3 l0_3.length c0_3] 24 (0, 0)) (zc BK311) hb); have n1_ := zh (below_step zb hb); clear BK311; clear HB; have BK311 := n0_; have HB := n1_; clear n0_ n1_; (try clear hb); (try clear hb2); (try clear hk); (try clear hi)))
    go_ret2
    exact ⟨_, zf, by first | exact Kd.R_nil _ _ _ _ _ | exact Kd.N_nil _ _ _ _ _ | exact Kd.V_nil _ _ _ _ _ | exact Kd.Q_nil _ _ _ _ _ | exact Kd.S_nil _ _ _ _ _, zb⟩
   ·rw [if_neg c9] at H
    have c9b0 : decide (1 < t312) = false := decide_eq_false c9
    clear c9
    replace H := Option.bind_eq_some_iff.mp H
    obtain ⟨⟨t314, t317⟩, A130, H⟩ := H
    replace H : (saronref06_Won.l0 k t314 ([] : List Int) 0) = some (r1, r2) := H
    have A13 := zh A130
    clear A130
    have H' := zh H
    clear H
    go_enter Tryd.func27, Tryd.ntmps27
    go_wp2_with (first | ((with_reducible refine gate_dst (N := 2) rfl ?_); refine box_event ?hg (N := 2) ?hd (cs := #[.int .i64 a0_0, .int .i64 a0_1, .int .i64 a0_2, .slice A0_3 l0_3.length c0_3]) (t := 24) ?hr ?_; (case hd => rfl); (case hg => rfl); (case hr => first | (go_simp; done) | (go_simp; rfl)); intro gb311 hg w14 hbox hb; have n0_ := zh (below_step zb hb); have n1_ := zh (hbox); have n2_ := zh ((by rw [hg]; exact (below_size zb) : w.heap.size ≤ gb311)); have n3_ := zh ((by rw [hg]; exact (below_size zb) : w.heap.size ≤ gb311)); clear HB; have HB := n0_; have BK311 := n1_; have GW311 := n2_; have GE311 := n3_; clear n0_ n1_ n2_ n3_; clear hb hbox hg; have hcz15_0 : w14.cell? ⟨gb311, 0, none⟩ = some (.int .i64 a0_0) := vb BK311 0; have hcz15_1 : w14.cell? ⟨gb311, 1, none⟩ = some (.int .i64 a0_1) := vb BK311 1; have hcz15_2 : w14.cell? ⟨gb311, 2, none⟩ = some (.int .i64 a0_2) := vb BK311 2; have hcz15_3 : w14.cell? ⟨gb311, 3, none⟩ = some (.slice A0_3 l0_3.length c0_3) := vb BK311 3; have hfz15_0 := blk_frozen BK311.out 0; have hfz15_1 := blk_frozen BK311.out 1; have hfz15_2 := blk_frozen BK311.out 2; have hfz15_3 := blk_frozen BK311.out 3) | ((with_reducible refine gate_callee (f := 23) rfl ?_); refine goesL_ (some 15) rfl rfl Tryd.func23 zk rfl #[.agg #[.int .i64 a0_0, .int .i64 a0_1, .int .i64 a0_2, .slice A0_3 l0_3.length c0_3], .slice A1 l1.length c1] rfl zm ?_; (with_reducible refine (saronref06_Many.calls k a0_0 a0_1 a0_2 _ _ l0_3 _ _ l1 t312 t313 _ ?side1 ?side2 ?side3 ?side4 A3.out).mono ?_); (case side1 => repeat (first | exact (Kd.C_below HR0_3.out HB.out) | (with_reducible refine Kd.C_alloc ?_ _) | (with_reducible refine Kd.C_drewN ?_ _) | (with_reducible refine Kd.C_drew ?_))); (case side2 => exact HC0_3.out); (case side3 => repeat (first | exact (Kd.C_below HR1.out HB.out) | (with_reducible refine Kd.C_alloc ?_ _) | (with_reducible refine Kd.C_drewN ?_ _) | (with_reducible refine Kd.C_drew ?_))); (case side4 => exact HC1.out); rintro e w16 ⟨rfl, hb⟩; refine ⟨_, rfl, ?_⟩; have n0_ := zh (blk_below (g := gb311) (o := .cells #[.int .i64 a0_0, .int .i64 a0_1, .int .i64 a0_2, .slice A0_3 l0_3.length c0_3] 24 (0, 0)) (zc BK311) hb); have n1_ := zh (below_step zb hb); clear BK311; clear HB; have BK311 := n0_; have HB := n1_; clear n0_ n1_; (try clear hb); (try clear hb2); (try clear hk); (try clear hi); have hcz17_0 : w16.cell? ⟨gb311, 0, none⟩ = some (.int .i64 a0_0) := vb BK311 0; have hcz17_1 : w16.cell? ⟨gb311, 1, none⟩ = some (.int .i64 a0_1) := vb BK311 1; have hcz17_2 : w16.cell? ⟨gb311, 2, none⟩ = some (.int .i64 a0_2) := vb BK311 2; have hcz17_3 : w16.cell? ⟨gb311, 3, none⟩ = some (.slice A0_3 l0_3.length c0_3) := vb BK311 3; have hfz17_0 := blk_frozen BK311.out 0; have hfz17_1 := blk_frozen BK311.out 1; have hfz17_2 := blk_frozen BK311.out 2; have hfz17_3 := blk_frozen BK311.out 3) | ((with_reducible refine gate_callee (f := 67) rfl ?_); refine goesL_ (some 28) rfl rfl Tryd.func67 zk rfl #[.agg #[.int .i64 a0_0, .int .i64 a0_1, .int .i64 a0_2, .slice A0_3 l0_3.length c0_3], .slice A1 l1.length c1] rfl zm ?_; (with_reducible refine (saronref06_all.calls k a0_0 a0_1 a0_2 _ _ l0_3 _ _ l1 t314 t317 _ ?side1 ?side2 ?side3 ?side4 A13.out).mono ?_); (case side1 => repeat (first | exact (Kd.C_below HR0_3.out HB.out) | (with_reducible refine Kd.C_alloc ?_ _) | (with_reducible refine Kd.C_drewN ?_ _) | (with_reducible refine Kd.C_drew ?_))); (case side2 => exact HC0_3.out); (case side3 => repeat (first | exact (Kd.C_below HR1.out HB.out) | (with_reducible refine Kd.C_alloc ?_ _) | (with_reducible refine Kd.C_drewN ?_ _) | (with_reducible refine Kd.C_drew ?_))); (case side4 => exact HC1.out); rintro e w18 ⟨v315, rfl, ho0, hb⟩; refine ⟨_, rfl, ?_⟩; have n0_ := zh (Kd.S_lower ho0 (below_size zb)); have n1_ := zh (blk_below (g := gb311) (o := .cells #[.int .i64 a0_0, .int .i64 a0_1, .int .i64 a0_2, .slice A0_3 l0_3.length c0_3] 24 (0, 0)) (zc BK311) hb); have n2_ := zh (below_step zb hb); clear BK311; clear HB; have HO316 := n0_; have BK311 := n1_; have HB := n2_; clear n0_ n1_ n2_; (try clear hb); (try clear hb2); (try clear hk); (try clear hi); (try clear ho0)))
    go_loopg [10, 11] k (fun kq v10 v11 w' => ∃ (x10_1 : List Int) (x11_1 : Int), v11 = .int .i64 x11_1 ∧ Aside0 (saronref06_Won.l0 kq t314 x10_1 x11_1 = some (r1, r2)) ∧ Aside0 (kq ≤ k) ∧ Aside0 (Kd.S (Kd.slice 61 k61) 44 w' w.heap.size (fun _ => True) v315 t314) ∧ Aside0 (Kd.R (Kd.int .i64) 3 w' w.heap.size (fun _ => True) v10 x10_1) ∧ Aside0 (w'.heap[gb311]? = some (.cells #[.int .i64 a0_0, .int .i64 a0_1, .int .i64 a0_2, (.slice A0_3 l0_3.length c0_3)] 24 (0, 0))) ∧ Aside0 (Below w.heap.size w w'))
    case atStart => exact ⟨(([] : List Int)), (0), ze, H', ⟨Nat.le_refl _⟩, ⟨zS HO316⟩, ⟨by first | exact Kd.R_nil _ _ _ _ _ | exact Kd.N_nil _ _ _ _ _ | exact Kd.V_nil _ _ _ _ _ | exact Kd.Q_nil _ _ _ _ _ | exact Kd.S_nil _ _ _ _ _⟩, ⟨zc BK311⟩, ⟨zb⟩⟩
    case round =>
     clear H'
     try clear c1
     try clear c2
     try clear p2
     try clear c4
     try clear c4b0
     try clear c4b1
     try clear c5
     try clear c5b0
     try clear c5b1
     try clear c6
     try clear c9
     try clear c9b0
     try clear hcz11_0
     try clear hcz11_1
     try clear hcz11_2
     try clear hcz11_3
     try clear hcz15_0
     try clear hcz15_1
     try clear hcz15_2
     try clear hcz15_3
     try clear hcz17_0
     try clear hcz17_1
     try clear hcz17_2
     try clear hcz17_3
     try clear hcz7_0
     try clear hcz7_1
     try clear hcz7_2
     try clear hcz7_3
     try clear hfz11_0
     try clear hfz11_1
     try clear hfz11_2
     try clear hfz11_3
     try clear hfz15_0
     try clear hfz15_1
     try clear hfz15_2
     try clear hfz15_3
     try clear hfz17_0
     try clear hfz17_1
     try clear hfz17_2
     try clear hfz17_3
     try clear hfz7_0
     try clear hfz7_1
     try clear hfz7_2
     try clear hfz7_3
     obtain ⟨x10_1, x11_1, rfl, HA, HK1, HO_8, HO_10, BK311, HB⟩ := hrel
     cases gk with
     | zero => exact absurd HA.out (by simp [saronref06_Won.l0])
     | succ k1 =>
      have H := HA.out
      clear HA
      simp only [saronref06_Won.l0] at H
      by_cases c19 : x11_1 < (t314.length : Int)
      ·rw [if_pos c19] at H
       have c19b0 : decide (x11_1 < (t314.length : Int)) = true := decide_eq_true c19
       clear c19
       by_cases c20 : 0 ≤ x11_1
       ·rw [if_pos c20] at H
        have c20b0 : decide (0 ≤ x11_1) = true := decide_eq_true c20
        clear c20
        by_cases c21 : 0 < ((rd_L9 t314 x11_1).length : Int)
        ·rw [if_pos c21] at H
         have c21b0 : decide (0 < ((rd_L9 t314 x11_1).length : Int)) = true := decide_eq_true c21
         have c21b1 : decide (0 < (rd_L9 t314 x11_1).length) = true := decide_eq_true (by omega)
         clear c21
         obtain ⟨y322, hy322⟩ : ∃ y_ : List Int, y_ = (([(rd_T61 (rd_L9 t314 x11_1) 0).f0, (rd_T61 (rd_L9 t314 x11_1) 0).f1] : List Int)) := ⟨_, rfl⟩
         replace H : (if x10_1.length + y322.length < 17592186044416 then (saronref06_Won.l0 k1 t314 (x10_1 ++ y322) (wrap64 (x11_1 + 1))) else (none)) = some (r1, r2) := by first | (rw [hy322]; with_reducible exact H) | (have H2_ := (Option.bind_some _ _).symm.trans H; rw [hy322]; with_reducible exact H2_) | (have H2_ := (Option.bind_some _ _).symm.trans H; with_reducible exact H2_) | with_reducible exact H | (rw [hy322]; exact H) | exact H
         have Ny322 := zh hy322
         clear hy322
         by_cases c22 : x10_1.length + y322.length < 17592186044416
         ·rw [if_pos c22] at H
          have LMc22 := zh c22
          clear c22
          obtain ⟨y325, hy325⟩ : ∃ y_ : List Int, y_ = (x10_1 ++ y322) := ⟨_, rfl⟩
          replace H : (saronref06_Won.l0 k1 t314 y325 (wrap64 (x11_1 + 1))) = some (r1, r2) := by first | (rw [hy325]; with_reducible exact H) | (have H2_ := (Option.bind_some _ _).symm.trans H; rw [hy325]; with_reducible exact H2_) | (have H2_ := (Option.bind_some _ _).symm.trans H; with_reducible exact H2_) | with_reducible exact H | (rw [hy325]; exact H) | exact H
          have Ny325 := zh hy325
          clear hy325
          have H' := zh H
          clear H
          obtain ⟨Ao23, co23, eo23⟩ := Kd.S_slice HO_8.out
          subst eo23
          try go_wp2
          replace HO_8 := zh (Kd.S_drew HO_8.out)
          replace HO_10 := zh (Kd.R_drew HO_10.out)
          replace BK311 := zh (blk_drew BK311.out)
          replace HB := zh (below_drew1 HB.out)
          have p318 : 0 ≤ (x11_1 : Int) := of_decide_eq_true zs
          have q318 : x11_1 < (t314.length : Int) := of_decide_eq_true zs
          obtain ⟨ad318, A318_0, c318_0, e318, hx318_0, hl318_0, hi318_0⟩ := at_L9 (Kd.S_reads' HO_8.out).2.2 x11_1 p318 q318
          cases e318
          obtain ⟨ce318, hce318, hMe318, hcc318⟩ := Kd.S_get HO_8.out [] x11_1 p318 (by first | exact q318 | exact of_decide_eq_true zs | (have e_ := (Kd.S_reads' HO_8.out).1; omega))
          obtain ⟨ve318_0, rfl, ge318_0⟩ := hMe318
          have hv318_0 := hcc318 0 _ rfl
          rw [Nat.add_zero, show ((Kd.slice 61 k61)).sz = 1 from rfl, Nat.mul_one] at hv318_0
          replace hv318_0 := Option.some.inj (hv318_0.symm.trans hx318_0)
          rw [hv318_0] at ge318_0
          have HL318_0 := zh (show Kd.R k61 61 _ _ _ _ (rd_L9 t314 x11_1) from ge318_0)
          clear hv318_0 ge318_0 hcc318 hce318
          have HR318_0 := zh hi318_0
          have HC318_0 := zh hl318_0
          clear hi318_0 hl318_0
          replace p318 := eq_true p318
          replace q318 := eq_true q318
          have p319 : 0 ≤ (0 : Int) := (by omega)
          have q319 : 0 < ((rd_L9 t314 x11_1).length : Int) := of_decide_eq_true zs
          obtain ⟨ad319, e319, hx319_0, hx319_1⟩ := at_T61 (by repeat (first | (with_reducible exact HR318_0.out) | (with_reducible refine Kd.C_alloc ?_ _) | (with_reducible refine Kd.C_drewN ?_ _) | (with_reducible refine Kd.C_drew ?_) | exact HR318_0.out)) 0 p319 q319
          cases e319
          have qi319 : (0 < (rd_L9 t314 x11_1).length) = True := eq_true (by omega)
          (try rw [show ((0 : Int)).toNat = 0 from rfl] at hx319_0)
          (try rw [show 0 * 2 = 0 from rfl] at hx319_0)
          (try rw [Addr.add_zero'] at hx319_0)
          (try rw [show ((0 : Int)).toNat = 0 from rfl] at hx319_1)
          (try rw [show 0 * 2 = 0 from rfl] at hx319_1)
          (try rw [Addr.add_zero'] at hx319_1)
          replace p319 := eq_true p319
          replace q319 := eq_true q319
          have p320 : 0 ≤ (x11_1 : Int) := of_decide_eq_true zs
          have q320 : x11_1 < (t314.length : Int) := of_decide_eq_true zs
          obtain ⟨ad320, A320_0, c320_0, e320, hx320_0, hl320_0, hi320_0⟩ := at_L9 (Kd.S_reads' HO_8.out).2.2 x11_1 p320 q320
          obtain rfl : ad318 = ad320 := (by injection e320)
          obtain ⟨ce320, hce320, hMe320, hcc320⟩ := Kd.S_get HO_8.out [] x11_1 p320 (by first | exact q320 | exact of_decide_eq_true zs | (have e_ := (Kd.S_reads' HO_8.out).1; omega))
          obtain ⟨ve320_0, rfl, ge320_0⟩ := hMe320
          have hv320_0 := hcc320 0 _ rfl
          rw [Nat.add_zero, show ((Kd.slice 61 k61)).sz = 1 from rfl, Nat.mul_one] at hv320_0
          replace hv320_0 := Option.some.inj (hv320_0.symm.trans hx320_0)
          rw [hv320_0] at ge320_0
          have HL320_0 := zh (show Kd.R k61 61 _ _ _ _ (rd_L9 t314 x11_1) from ge320_0)
          clear hv320_0 ge320_0 hcc320 hce320
          have HR320_0 := zh hi320_0
          have HC320_0 := zh hl320_0
          clear hi320_0 hl320_0
          replace p320 := eq_true p320
          replace q320 := eq_true q320
          have ea_ := Option.some.inj (hx318_0.symm.trans hx320_0)
          injection ea_ with ea_ en_ ec_
          subst ea_
          subst ec_
          clear en_
          have p321 : 0 ≤ (0 : Int) := (by omega)
          have q321 : 0 < ((rd_L9 t314 x11_1).length : Int) := of_decide_eq_true zs
          obtain ⟨ad321, e321, hx321_0, hx321_1⟩ := at_T61 (by repeat (first | (with_reducible exact HR320_0.out) | (with_reducible refine Kd.C_alloc ?_ _) | (with_reducible refine Kd.C_drewN ?_ _) | (with_reducible refine Kd.C_drew ?_) | exact HR320_0.out)) 0 p321 q321
          cases e321
          have qi321 : (0 < (rd_L9 t314 x11_1).length) = True := eq_true (by omega)
          (try rw [show ((0 : Int)).toNat = 0 from rfl] at hx321_0)
          (try rw [show 0 * 2 = 0 from rfl] at hx321_0)
          (try rw [Addr.add_zero'] at hx321_0)
          (try rw [show ((0 : Int)).toNat = 0 from rfl] at hx321_1)
          (try rw [show 0 * 2 = 0 from rfl] at hx321_1)
          (try rw [Addr.add_zero'] at hx321_1)
          replace p321 := eq_true p321
          replace q321 := eq_true q321
          refine start_ (n := 18) (S := fun w' => w'.cell? (ad318.add (x11_1).toNat) = some (.slice (some ad319) (rd_L9 t314 x11_1).length c318_0) ∧ w'.cell? ad319 = some (.int .i64 ((rd_T61 (rd_L9 t314 x11_1) 0).f0)) ∧ w'.cell? ⟨ad319.block, ad319.off + 1, none⟩ = some (.int .i64 ((rd_T61 (rd_L9 t314 x11_1) 0).f1)) ∧ w'.cell? (ad318.add (x11_1).toNat) = some (.slice (some ad319) (rd_L9 t314 x11_1).length c318_0) ∧ w'.cell? ad319 = some (.int .i64 ((rd_T61 (rd_L9 t314 x11_1) 0).f0)) ∧ w'.cell? ⟨ad319.block, ad319.off + 1, none⟩ = some (.int .i64 ((rd_T61 (rd_L9 t314 x11_1) 0).f1))) (ds := [16]) #[false, false, false, false, false, false, false, false, false, false, false, false, false, false, false, false, false, false] zk rfl rfl ⟨hx318_0, hx319_0, hx319_1, hx320_0, hx321_0, hx321_1⟩ (fun hHeld => ?_); refine with_tabW saronref06_Won.tab13 saronref06_Won.bits13 (fun HT_ HW_ => ?_)
          generalize wr.drew = w24 at HO_8 HO_10 BK311 HB HL318_0 HL320_0 HR318_0 HR320_0 hx318_0 hx319_0 hx319_1 hx320_0 hx321_0 hx321_1 hHeld ⊢
          refine zu 0 ?_
          refine zu 1 ?_
          refine zu 2 ?_
          refine zu 3 ?_
          refine zu 8 ?_
          refine zu 9 ?_
          refine zu 10 ?_
          refine zt 4 ?_
          refine zu 5 ?_
          refine zu 6 ?_
          refine zt 7 ?_
          refine zt 11 ?_
          refine zu 12 ?_
          refine zu 13 ?_
          refine zt 14 ?_
          refine zo 15 (fun K hK => ?_)
          refine Kd.R_lit_step (Kd.int .i64) _ 3 ?hg (N := 52) ?hd (xs := ([(rd_T61 (rd_L9 t314 x11_1) 0).f0, (rd_T61 (rd_L9 t314 x11_1) 0).f1] : List Int)) (inner := [.int .i64 ((rd_T61 (rd_L9 t314 x11_1) 0).f0), .int .i64 ((rd_T61 (rd_L9 t314 x11_1) 0).f1)]) (ok := fun _ => True) (okp := fun _ => True) ?hr ?hp (fun _ hk => hk) trivial (Below.refl _ _) (Nat.le_refl _) (by simp) ?_; (case hd => rfl); (case hg => rfl); (case hr => first | (go_simp; done) | (go_simp; rfl)); (case hp => exact (Reps.one (show Kd.M (Kd.int .i64) _ _ _ ((rd_T61 (rd_L9 t314 x11_1) 0).f0) [.int .i64 ((rd_T61 (rd_L9 t314 x11_1) 0).f0)] from rfl) (Reps.one (show Kd.M (Kd.int .i64) _ _ _ ((rd_T61 (rd_L9 t314 x11_1) 0).f1) [.int .i64 ((rd_T61 (rd_L9 t314 x11_1) 0).f1)] from rfl) (Reps.none _ _))))
          intro v323 w25 ho26 hb hg_ hnew_
          have HS0_ := (hb.cell (World.block_lt_of_cell? _ _ (hHeld.1))).trans (hHeld.1)
          have HS1_ := (hb.cell (World.block_lt_of_cell? _ _ (hHeld.2.1))).trans (hHeld.2.1)
          have HS2_ := (hb.cell (World.block_lt_of_cell? _ _ (hHeld.2.2.1))).trans (hHeld.2.2.1)
          have HS3_ := (hb.cell (World.block_lt_of_cell? _ _ (hHeld.2.2.2.1))).trans (hHeld.2.2.2.1)
          have HS4_ := (hb.cell (World.block_lt_of_cell? _ _ (hHeld.2.2.2.2.1))).trans (hHeld.2.2.2.2.1)
          have HS5_ := (hb.cell (World.block_lt_of_cell? _ _ (hHeld.2.2.2.2.2))).trans (hHeld.2.2.2.2.2)
          clear hg_ hnew_
          (first | rw [← Ny322.out] at ho26 | (simp only [Int.reduceToNat] at ho26; rw [← Ny322.out] at ho26))
          replace HO_8 := zh (Kd.S_below (zS HO_8) hb)
          replace HL318_0 := zh (Kd.R_below (by (with_reducible repeat (first | apply Kd.R_alloc | apply Kd.R_drewN | apply Kd.R_drew)); exact HL318_0.out) hb)
          replace HL320_0 := zh (Kd.R_below (by (with_reducible repeat (first | apply Kd.R_alloc | apply Kd.R_drewN | apply Kd.R_drew)); exact HL320_0.out) hb)
          have HO324 := zh (Kd.R_lower (Kd.R_new' ho26 (Kd.R_lt (zR HO_10))) (below_size zb))
          replace HO_10 := zh (Kd.R_elder' (zR HO_10) (Kd.R_base ho26) hb)
          replace BK311 := zh (blk_below (g := gb311) (o := .cells #[.int .i64 a0_0, .int .i64 a0_1, .int .i64 a0_2, .slice A0_3 l0_3.length c0_3] 24 (0, 0)) (zc BK311) hb)
          replace HR318_0 := zh (Kd.C_below (by repeat (first | (with_reducible exact HR318_0.out) | (with_reducible refine Kd.C_alloc ?_ _) | (with_reducible refine Kd.C_drewN ?_ _) | (with_reducible refine Kd.C_drew ?_) | exact HR318_0.out)) hb)
          replace HR320_0 := zh (Kd.C_below (by repeat (first | (with_reducible exact HR320_0.out) | (with_reducible refine Kd.C_alloc ?_ _) | (with_reducible refine Kd.C_drewN ?_ _) | (with_reducible refine Kd.C_drew ?_) | exact HR320_0.out)) hb)
          replace HB := zh (below_step zb hb)
          clear hb ho26
          obtain ⟨Ao28, co28, eo28⟩ := Kd.R_slice HO324.out
          (first | subst eo28 | (injection eo28 with f1_ f2_ f3_; have f4_ := f1_.symm; have f5_ := f3_.symm; clear f1_ f2_ f3_; subst f4_; subst f5_))
          refine hK.out _ _ ⟨HS0_, HS1_, HS2_, HS3_, HS4_, HS5_⟩ (fun hHeld => ?_)
          clear hK K
          refine zr 52 _ ?_
          refine zl 16 (fun K hK => ?_)
          refine Kd.R_append_rows_step (Kd.int .i64) (w0 := w) w.heap.size (by rfl) (.tmp 37) (.tmp 52) 25 3 (.int .i64 0) 8 rfl Tryd.underlying25 info3 rfl (by decide) (by omega) u10 x10_1 y322 _ _ _ (fun k_ => some k_ ≠ (.slice Ao28 y322.length co28 : Value).ownBlock) (fun _ => False) rfl rfl ?aO ?aR (fun _ _ h => h) (fun _ h => h.elim) ?aF ?aB ?aS ?aL ?_
          (case aR => repeat (first | exact (Kd.R_reads' HO324.out).2.2 | (with_reducible refine Kd.C_alloc ?_ _) | (with_reducible refine Kd.C_drewN ?_ _) | (with_reducible refine Kd.C_drew ?_)))
          (case aB => exact zb)
          (case aF => exact (fun k_ hk => Kd.fresh' (Kd.R_lt (zR HO324)) k_ hk))
          (case aO => exact (by (with_reducible repeat (first | apply Kd.R_alloc | apply Kd.R_drewN | apply Kd.R_drew)); exact Kd.R_mono HO_10.out (fun _ hk => hk.2)))
          (case aS => exact (below_size zb))
          (case aL => have := LMc22.out; omega)
          intro v326 w27 ho hb hg hat
          rw [← Ny325.out] at ho
          replace HO_8 := zh (Kd.S_over' (zS HO_8) (Kd.R_typed (zR HO_10)) (by decide) hg)
          replace BK311 := zh (blk_grown (g := gb311) (o := .cells #[.int .i64 a0_0, .int .i64 a0_1, .int .i64 a0_2, .slice A0_3 l0_3.length c0_3] 24 (0, 0)) (zc BK311) hg (Kd.R_ne HO_10.out BK311.out (by decide)))
          replace HL318_0 := zh (Kd.R_over' (by (with_reducible repeat (first | apply Kd.R_alloc | apply Kd.R_drewN | apply Kd.R_drew)); exact HL318_0.out) (Kd.R_typed (zR HO_10)) (by decide) hg)
          replace HL320_0 := zh (Kd.R_over' (by (with_reducible repeat (first | apply Kd.R_alloc | apply Kd.R_drewN | apply Kd.R_drew)); exact HL320_0.out) (Kd.R_typed (zR HO_10)) (by decide) hg)
          replace HO324 := zh (Kd.R_after (ok := (fun _ => True)) (zR HO324) hg hat)
          replace HB := zh (hb)
          have HO327 := zh (ho)
          clear HO_10 ho hb hg hat
          refine hK.out _ _ ?_
          clear hK K
          refine zr 53 _ ?_
          refine zu 17 ?_
          refine zd ?_
          try go_wp2
          go_roundg k1
          case measure => have := HK1.out; omega
          case rel => exact ⟨(y325), (wrap64 (x11_1 + 1)), ze, H', ⟨by have := HK1.out; omega⟩, ⟨zS HO_8⟩, ⟨by (with_reducible repeat (first | apply Kd.R_alloc | apply Kd.R_drewN | apply Kd.R_drew)); exact Kd.R_mono HO327.out (fun _ hk => trivial)⟩, ⟨zc BK311⟩, ⟨zb⟩⟩
         ·rw [if_neg c22] at H
          exact absurd H (by simp)
        ·rw [if_neg c21] at H
         exact absurd H (by simp)
       ·rw [if_neg c20] at H
        exact absurd H (by simp)
      ·rw [if_neg c19] at H
       have c19b0 : decide (x11_1 < (t314.length : Int)) = false := decide_eq_false c19
       clear c19
       simp only [Option.some.injEq, Prod.mk.injEq] at H
       obtain ⟨rfl, rfl⟩ := H
       obtain ⟨Ao29, co29, eo29⟩ := Kd.S_slice HO_8.out
       subst eo29
       go_wp2
       go_ret2
       exact ⟨_, zf, (zR HO_10), zb⟩
 ·rw [if_neg c4] at H
  have c4b0 : (t313 == 0) = false := beq_eq_false_iff_ne.mpr c4
  have c4b1 : (t313 != 0) = true := bne_iff_ne.mpr c4
  simp only [Option.some.injEq, Prod.mk.injEq] at H
  obtain ⟨rfl, rfl⟩ := H
  go_enter Tryd.func27, Tryd.ntmps27
  go_wp2_with (first | ((with_reducible refine gate_dst (N := 2) rfl ?_); refine box_event ?hg (N := 2) ?hd (cs := #[.int .i64 a0_0, .int .i64 a0_1, .int .i64 a0_2, .slice A0_3 l0_3.length c0_3]) (t := 24) ?hr ?_; (case hd => rfl); (case hg => rfl); (case hr => first | (go_simp; done) | (go_simp; rfl)); intro gb311 hg w30 hbox hb; have n0_ := zh (below_step zb hb); have n1_ := zh (hbox); have n2_ := zh ((by rw [hg]; exact (below_size zb) : w.heap.size ≤ gb311)); have n3_ := zh ((by rw [hg]; exact (below_size zb) : w.heap.size ≤ gb311)); clear HB; have HB := n0_; have BK311 := n1_; have GW311 := n2_; have GE311 := n3_; clear n0_ n1_ n2_ n3_; clear hb hbox hg; have hcz31_0 : w30.cell? ⟨gb311, 0, none⟩ = some (.int .i64 a0_0) := vb BK311 0; have hcz31_1 : w30.cell? ⟨gb311, 1, none⟩ = some (.int .i64 a0_1) := vb BK311 1; have hcz31_2 : w30.cell? ⟨gb311, 2, none⟩ = some (.int .i64 a0_2) := vb BK311 2; have hcz31_3 : w30.cell? ⟨gb311, 3, none⟩ = some (.slice A0_3 l0_3.length c0_3) := vb BK311 3; have hfz31_0 := blk_frozen BK311.out 0; have hfz31_1 := blk_frozen BK311.out 1; have hfz31_2 := blk_frozen BK311.out 2; have hfz31_3 := blk_frozen BK311.out 3) | ((with_reducible refine gate_callee (f := 23) rfl ?_); refine goesL_ (some 15) rfl rfl Tryd.func23 zk rfl #[.agg #[.int .i64 a0_0, .int .i64 a0_1, .int .i64 a0_2, .slice A0_3 l0_3.length c0_3], .slice A1 l1.length c1] rfl zm ?_; (with_reducible refine (saronref06_Many.calls k a0_0 a0_1 a0_2 _ _ l0_3 _ _ l1 t312 t313 _ ?side1 ?side2 ?side3 ?side4 A3.out).mono ?_); (case side1 => repeat (first | exact (Kd.C_below HR0_3.out HB.out) | (with_reducible refine Kd.C_alloc ?_ _) | (with_reducible refine Kd.C_drewN ?_ _) | (with_reducible refine Kd.C_drew ?_))); (case side2 => exact HC0_3.out); (case side3 => repeat (first | exact (Kd.C_below HR1.out HB.out) | (with_reducible refine Kd.C_alloc ?_ _) | (with_reducible refine Kd.C_drewN ?_ _) | (with_reducible refine Kd.C_drew ?_))); (case side4 => exact HC1.out); rintro e w32 ⟨rfl, hb⟩; refine ⟨_, rfl, ?_⟩; have n0_ := zh (blk_below (g := gb311) (o := .cells #[.int .i64 a0_0, .int .i64 a0_1, .int .i64 a0_2, .slice A0_3 l0_3.length c0_3] 24 (0, 0)) (zc BK311) hb); have n1_ := zh (below_step zb hb); clear BK311; clear HB; have BK311 := n0_; have HB := n1_; clear n0_ n1_; (try clear hb); (try clear hb2); (try clear hk); (try clear hi)))
  go_ret2
  exact ⟨_, zf, by first | exact Kd.R_nil _ _ _ _ _ | exact Kd.N_nil _ _ _ _ _ | exact Kd.V_nil _ _ _ _ _ | exact Kd.Q_nil _ _ _ _ _ | exact Kd.S_nil _ _ _ _ _, zb⟩
end Go.Proofs.YtagkfkdoibnhfaaDoor.H
end
section
namespace Go.Proofs.YtagkfkdoibnhfaaDoor.H
open Go.RowKit Go.Proofs.YtagkfkdoibnhfaaDoorW.PrintWords Go.Proofs.YtagkfkdoibnhfaaDoorW.PrintLast Go.Proofs.YtagkfkdoibnhfaaDoorW.PrintMore
attribute [local go_sem] max2_int min2_int max_two min_two max_three min_three max_four min_four   -- for this text's walks alone
set_option linter.unusedVariables false
set_option linter.unusedSimpArgs false
open Go.Proofs.YtagkfkdoibnhfaaDoor.K
mutual
def saronlaw06_KernelWon.j0 : Nat → List (S60) → Bool → Int → Int → Int → List (S66) → Option (Bool)
 | 0, _, _, _, _, _, _ => none
 | k + 1, x1, x33, x371000, x371001, x371002, x371003 => if x33 = true then (some false) else ((kernel_Filled.f x371000 x371001 x371002 x371003 x1).bind fun bt380 => ((saronref06_Filled.f k x371000 x371001 x371002 x371003 x1).bind fun bt384 => ((saronref00_EqualRows.f k bt380.1 bt384.1).bind fun t388 => (if t388 = true then (saronlaw06_KernelWon.j1 k x1 (bt380.2 != bt384.2) x371000 x371001 x371002 x371003) else (saronlaw06_KernelWon.j1 k x1 true x371000 x371001 x371002 x371003)))))
def saronlaw06_KernelWon.j1 : Nat → List (S60) → Bool → Int → Int → Int → List (S66) → Option (Bool)
 | 0, _, _, _, _, _, _ => none
 | k + 1, x1, x54, x371000, x371001, x371002, x371003 => if x54 = true then (some false) else ((kernel_Least.f x371000 x371001 x371002 x371003 x1).bind fun bt389 => ((saronref06_Least.f k x371000 x371001 x371002 x371003 x1).bind fun bt391 => (if bt389.1 = bt391.1 then (if bt389.2 = bt391.2 then ((saronlaw06_works.f).bind fun t393 => (some t393)) else (some false)) else (some false))))
end
def saronlaw06_KernelWon.f (k : Nat) (a0_0 : Int) (a0_1 : Int) (a0_2 : Int) (l0_3 : List (S66)) (l1 : List (S60)) : Option (Bool) := (kernel_Won.f a0_0 a0_1 a0_2 l0_3 l1).bind fun bt371 => ((saronref06_Won.f k a0_0 a0_1 a0_2 l0_3 l1).bind fun bt375 => ((saronref00_Equal.f k bt371.1 bt375.1).bind fun t379 => (if t379 = true then (saronlaw06_KernelWon.j0 k l1 (bt371.2 != bt375.2) a0_0 a0_1 a0_2 l0_3) else (saronlaw06_KernelWon.j0 k l1 true a0_0 a0_1 a0_2 l0_3))))
set_option maxHeartbeats 8000000 in
set_option maxRecDepth 100000 in
theorem saronlaw06_KernelWon.calls (k : Nat) (a0_0 : Int) (a0_1 : Int) (a0_2 : Int) (A0_3 : Option Addr) (c0_3 : Nat) (l0_3 : List (S66)) (A1 : Option Addr) (c1 : Nat) (l1 : List (S60)) (r : Bool) (w : World) (hr0_3 : Kd.C k66 w A0_3 l0_3.length l0_3) (hc0_3 : l0_3.length ≤ c0_3) (hr1 : Kd.C k60 w A1 l1.length l1) (hc1 : l1.length ≤ c1) (hG : Glob w) (h : saronlaw06_KernelWon.f k a0_0 a0_1 a0_2 l0_3 l1 = some r) :
  Calls Tryd.prog 5 #[.agg #[.int .i64 a0_0, .int .i64 a0_1, .int .i64 a0_2, .slice A0_3 l0_3.length c0_3], .slice A1 l1.length c1] w fun e w' => e = .returned (.bool r) ∧ Below w.heap.size w w' := by
 have hu24 := Tryd.underlying24
 have HG := zh hG
 clear hG
 have HR0_3 := zh hr0_3
 have HC0_3 := zh hc0_3
 clear hr0_3 hc0_3
 have HR1 := zh hr1
 have HC1 := zh hc1
 clear hr1 hc1
 have HB := zh (Below.refl w.heap.size w)
 have H : ((kernel_Won.f a0_0 a0_1 a0_2 l0_3 l1).bind fun bt371 => ((saronref06_Won.f k a0_0 a0_1 a0_2 l0_3 l1).bind fun bt375 => ((saronref00_Equal.f k bt371.1 bt375.1).bind fun t379 => (if t379 = true then (saronlaw06_KernelWon.j0 k l1 (bt371.2 != bt375.2) a0_0 a0_1 a0_2 l0_3) else (saronlaw06_KernelWon.j0 k l1 true a0_0 a0_1 a0_2 l0_3))))) = some r := h
 clear h
 replace H := Option.bind_eq_some_iff.mp H
 obtain ⟨⟨t371, t374⟩, A30, H⟩ := H
 replace H : ((saronref06_Won.f k a0_0 a0_1 a0_2 l0_3 l1).bind fun bt375 => ((saronref00_Equal.f k t371 bt375.1).bind fun t379 => (if t379 = true then (saronlaw06_KernelWon.j0 k l1 (t374 != bt375.2) a0_0 a0_1 a0_2 l0_3) else (saronlaw06_KernelWon.j0 k l1 true a0_0 a0_1 a0_2 l0_3)))) = some r := H
 have A3 := zh A30
 clear A30
 replace H := Option.bind_eq_some_iff.mp H
 obtain ⟨⟨t375, t378⟩, A40, H⟩ := H
 replace H : ((saronref00_Equal.f k t371 t375).bind fun t379 => (if t379 = true then (saronlaw06_KernelWon.j0 k l1 (t374 != t378) a0_0 a0_1 a0_2 l0_3) else (saronlaw06_KernelWon.j0 k l1 true a0_0 a0_1 a0_2 l0_3))) = some r := H
 have A4 := zh A40
 clear A40
 have HC5 := zh H
 clear H
 go_enter Tryd.func5, Tryd.ntmps5
 go_upto_region 3 with (first | ((with_reducible refine gate_dst (N := 2) rfl ?_); refine box_event ?hg (N := 2) ?hd (cs := #[.int .i64 a0_0, .int .i64 a0_1, .int .i64 a0_2, .slice A0_3 l0_3.length c0_3]) (t := 24) ?hr ?_; (case hd => rfl); (case hg => rfl); (case hr => first | (go_simp; done) | (go_simp; rfl)); intro gb370 hg w6 hbox hb; have n0_ := zh (below_step zb hb); have n1_ := zh (hbox); have n2_ := zh ((by rw [hg]; exact (below_size zb) : w.heap.size ≤ gb370)); have n3_ := zh ((by rw [hg]; exact (below_size zb) : w.heap.size ≤ gb370)); clear HB; have HB := n0_; have BK370 := n1_; have GW370 := n2_; have GE370 := n3_; clear n0_ n1_ n2_ n3_; clear hb hbox hg; have hcz7_0 : w6.cell? ⟨gb370, 0, none⟩ = some (.int .i64 a0_0) := vb BK370 0; have hcz7_1 : w6.cell? ⟨gb370, 1, none⟩ = some (.int .i64 a0_1) := vb BK370 1; have hcz7_2 : w6.cell? ⟨gb370, 2, none⟩ = some (.int .i64 a0_2) := vb BK370 2; have hcz7_3 : w6.cell? ⟨gb370, 3, none⟩ = some (.slice A0_3 l0_3.length c0_3) := vb BK370 3; have hfz7_0 := blk_frozen BK370.out 0; have hfz7_1 := blk_frozen BK370.out 1; have hfz7_2 := blk_frozen BK370.out 2; have hfz7_3 := blk_frozen BK370.out 3) | ((with_reducible refine gate_callee (f := 26) rfl ?_); refine goesL_ (some 16) rfl rfl Tryd.func26 zk rfl #[.agg #[.int .i64 a0_0, .int .i64 a0_1, .int .i64 a0_2, .slice A0_3 l0_3.length c0_3], .slice A1 l1.length c1] rfl zm ?_; (with_reducible refine (kernel_Won.calls a0_0 a0_1 a0_2 _ _ l0_3 _ _ l1 t371 t374 _ ?side1 ?side2 ?side3 ?side4 ?side5 A3.out).mono ?_); (case side1 => repeat (first | exact (Kd.C_below HR0_3.out HB.out) | (with_reducible refine Kd.C_alloc ?_ _) | (with_reducible refine Kd.C_drewN ?_ _) | (with_reducible refine Kd.C_drew ?_))); (case side2 => exact HC0_3.out); (case side3 => repeat (first | exact (Kd.C_below HR1.out HB.out) | (with_reducible refine Kd.C_alloc ?_ _) | (with_reducible refine Kd.C_drewN ?_ _) | (with_reducible refine Kd.C_drew ?_))); (case side4 => exact HC1.out); (case side5 => exact Glob.below HG.out zb); rintro e w8 ⟨v372, rfl, ho0, hb⟩; refine ⟨_, rfl, ?_⟩; have n0_ := zh (Kd.V_lower (Kd.V_mono (ok' := fun k_ => k_ ≠ gb370) ho0 (fun k_ hk_ => (Kd.freshB (g := gb370) (o := .cells #[.int .i64 a0_0, .int .i64 a0_1, .int .i64 a0_2, .slice A0_3 l0_3.length c0_3] 24 (0, 0)) (zc BK370) k_ hk_))) (below_size zb)); have n1_ := zh (blk_below (g := gb370) (o := .cells #[.int .i64 a0_0, .int .i64 a0_1, .int .i64 a0_2, .slice A0_3 l0_3.length c0_3] 24 (0, 0)) (zc BK370) hb); have n2_ := zh (below_step zb hb); clear BK370; clear HB; have HO373 := n0_; have BK370 := n1_; have HB := n2_; clear n0_ n1_ n2_; (try clear hb); (try clear hb2); (try clear hk); (try clear hi); (try clear ho0); have hcz9_0 : w8.cell? ⟨gb370, 0, none⟩ = some (.int .i64 a0_0) := vb BK370 0; have hcz9_1 : w8.cell? ⟨gb370, 1, none⟩ = some (.int .i64 a0_1) := vb BK370 1; have hcz9_2 : w8.cell? ⟨gb370, 2, none⟩ = some (.int .i64 a0_2) := vb BK370 2; have hcz9_3 : w8.cell? ⟨gb370, 3, none⟩ = some (.slice A0_3 l0_3.length c0_3) := vb BK370 3; have hfz9_0 := blk_frozen BK370.out 0; have hfz9_1 := blk_frozen BK370.out 1; have hfz9_2 := blk_frozen BK370.out 2; have hfz9_3 := blk_frozen BK370.out 3) | ((with_reducible refine gate_callee (f := 27) rfl ?_); refine goesL_ (some 22) rfl rfl Tryd.func27 zk rfl #[.agg #[.int .i64 a0_0, .int .i64 a0_1, .int .i64 a0_2, .slice A0_3 l0_3.length c0_3], .slice A1 l1.length c1] rfl zm ?_; (with_reducible refine (saronref06_Won.calls k a0_0 a0_1 a0_2 _ _ l0_3 _ _ l1 t375 t378 _ ?side1 ?side2 ?side3 ?side4 A4.out).mono ?_); (case side1 => repeat (first | exact (Kd.C_below HR0_3.out HB.out) | (with_reducible refine Kd.C_alloc ?_ _) | (with_reducible refine Kd.C_drewN ?_ _) | (with_reducible refine Kd.C_drew ?_))); (case side2 => exact HC0_3.out); (case side3 => repeat (first | exact (Kd.C_below HR1.out HB.out) | (with_reducible refine Kd.C_alloc ?_ _) | (with_reducible refine Kd.C_drewN ?_ _) | (with_reducible refine Kd.C_drew ?_))); (case side4 => exact HC1.out); rintro e w10 ⟨v376, rfl, ho0, hb⟩; refine ⟨_, rfl, ?_⟩; have n0_ := zh (Kd.V_elder' (zV HO373) (Kd.R_base ho0) hb); have n1_ := zh (Kd.R_lower ho0 (below_size zb)); have n2_ := zh (blk_below (g := gb370) (o := .cells #[.int .i64 a0_0, .int .i64 a0_1, .int .i64 a0_2, .slice A0_3 l0_3.length c0_3] 24 (0, 0)) (zc BK370) hb); have n3_ := zh (below_step zb hb); clear HO373; clear BK370; clear HB; have HO373 := n0_; have HO377 := n1_; have BK370 := n2_; have HB := n3_; clear n0_ n1_ n2_ n3_; (try clear hb); (try clear hb2); (try clear hk); (try clear hi); (try clear ho0)))
 (try simp only [Act.put, List.setIfInBounds_toArray, List.set_cons_zero, List.set_cons_succ])
 go_cut [33] (fun v33 wc => ∃ (kq : Nat) (x33_4 : Bool), v33 = .bool x33_4 ∧ Aside0 (saronlaw06_KernelWon.j0 kq l1 x33_4 a0_0 a0_1 a0_2 l0_3 = some r) ∧ Aside0 (kq ≤ k) ∧ Aside0 (wc.heap[gb370]? = some (.cells #[.int .i64 a0_0, .int .i64 a0_1, .int .i64 a0_2, (.slice A0_3 l0_3.length c0_3)] 24 (0, 0))) ∧ Aside0 (Below w.heap.size w wc))
 case first =>
  have H := HC5.out
  clear HC5
  replace H := Option.bind_eq_some_iff.mp H
  obtain ⟨t379, A110, H⟩ := H
  replace H : (if t379 = true then (saronlaw06_KernelWon.j0 k l1 (t374 != t378) a0_0 a0_1 a0_2 l0_3) else (saronlaw06_KernelWon.j0 k l1 true a0_0 a0_1 a0_2 l0_3)) = some r := H
  have A11 := zh A110
  clear A110
  by_cases c12 : t379 = true
  ·subst c12
   have H1 : (saronlaw06_KernelWon.j0 k l1 (t374 != t378) a0_0 a0_1 a0_2 l0_3) = some r := by rw [if_pos rfl] at H; exact H
   clear H
   have H := H1
   clear H1
   have H' := zh H
   clear H
   obtain ⟨Ao13, co13, eo13⟩ := Kd.V_slice HO373.out
   subst eo13
   obtain ⟨Ao14, co14, eo14⟩ := Kd.R_slice HO377.out
   subst eo14
   go_wp2_with (first | ((with_reducible refine gate_callee (f := 18) rfl ?_); refine goesL_ (some 27) rfl rfl Tryd.func18 zk rfl #[.slice Ao13 t371.length co13, .slice Ao14 t375.length co14] rfl zm ?_; (with_reducible refine (saronref00_Equal.calls k _ _ t371 _ _ t375 true _ ?side1 ?side2 ?side3 ?side4 A11.out).mono ?_); (case side1 => repeat (first | exact (Kd.V_reads' HO373.out).2.2 | (with_reducible refine Kd.C_alloc ?_ _) | (with_reducible refine Kd.C_drewN ?_ _) | (with_reducible refine Kd.C_drew ?_))); (case side2 => exact (Kd.V_reads' HO373.out).2.1); (case side3 => repeat (first | exact (Kd.R_reads' HO377.out).2.2 | (with_reducible refine Kd.C_alloc ?_ _) | (with_reducible refine Kd.C_drewN ?_ _) | (with_reducible refine Kd.C_drew ?_))); (case side4 => exact (Kd.R_reads' HO377.out).2.1); rintro e w' ⟨rfl, ⟨nd, rfl⟩⟩; refine ⟨_, rfl, ?_⟩))
   go_meet
   case rel => exact ⟨_, ((t374 != t378)), ze, H', ⟨zo1⟩, ⟨zc BK370⟩, ⟨zb⟩⟩
  ·replace c12 := Bool.eq_false_iff.mpr c12
   subst c12
   have H1 : (saronlaw06_KernelWon.j0 k l1 true a0_0 a0_1 a0_2 l0_3) = some r := by rw [if_neg (show ¬ (false = true) by decide)] at H; exact H
   clear H
   have H := H1
   clear H1
   have H' := zh H
   clear H
   obtain ⟨Ao15, co15, eo15⟩ := Kd.V_slice HO373.out
   subst eo15
   obtain ⟨Ao16, co16, eo16⟩ := Kd.R_slice HO377.out
   subst eo16
   go_wp2_with (first | ((with_reducible refine gate_callee (f := 18) rfl ?_); refine goesL_ (some 27) rfl rfl Tryd.func18 zk rfl #[.slice Ao15 t371.length co15, .slice Ao16 t375.length co16] rfl zm ?_; (with_reducible refine (saronref00_Equal.calls k _ _ t371 _ _ t375 false _ ?side1 ?side2 ?side3 ?side4 A11.out).mono ?_); (case side1 => repeat (first | exact (Kd.V_reads' HO373.out).2.2 | (with_reducible refine Kd.C_alloc ?_ _) | (with_reducible refine Kd.C_drewN ?_ _) | (with_reducible refine Kd.C_drew ?_))); (case side2 => exact (Kd.V_reads' HO373.out).2.1); (case side3 => repeat (first | exact (Kd.R_reads' HO377.out).2.2 | (with_reducible refine Kd.C_alloc ?_ _) | (with_reducible refine Kd.C_drewN ?_ _) | (with_reducible refine Kd.C_drew ?_))); (case side4 => exact (Kd.R_reads' HO377.out).2.1); rintro e w' ⟨rfl, ⟨nd, rfl⟩⟩; refine ⟨_, rfl, ?_⟩))
   go_meet
   case rel => exact ⟨_, (true), ze, H', ⟨zo1⟩, ⟨zc BK370⟩, ⟨zb⟩⟩
 case rest =>
  clear HC5
  try clear c1
  try clear c2
  try clear p2
  try clear c5
  try clear c12
  try clear hcz7_0
  try clear hcz7_1
  try clear hcz7_2
  try clear hcz7_3
  try clear hcz9_0
  try clear hcz9_1
  try clear hcz9_2
  try clear hcz9_3
  try clear hfz7_0
  try clear hfz7_1
  try clear hfz7_2
  try clear hfz7_3
  try clear hfz9_0
  try clear hfz9_1
  try clear hfz9_2
  try clear hfz9_3
  obtain ⟨kq, x33_4, rfl, HA, HJ4, BK370, HB⟩ := hcut
  cases kq with
  | zero => exact absurd HA.out (by simp [saronlaw06_KernelWon.j0])
  | succ kj4 =>
   have H := HA.out
   clear HA
   simp only [saronlaw06_KernelWon.j0] at H
   by_cases c17 : x33_4 = true
   ·subst c17
    have H1 : (some false) = some r := by rw [if_pos rfl] at H; exact H
    clear H
    have H := H1
    clear H1
    obtain rfl := Option.some.inj H
    go_wp2
    go_ret
    exact ⟨zf, zb⟩
   ·replace c17 := Bool.eq_false_iff.mpr c17
    subst c17
    have H1 : ((kernel_Filled.f a0_0 a0_1 a0_2 l0_3 l1).bind fun bt380 => ((saronref06_Filled.f kj4 a0_0 a0_1 a0_2 l0_3 l1).bind fun bt384 => ((saronref00_EqualRows.f kj4 bt380.1 bt384.1).bind fun t388 => (if t388 = true then (saronlaw06_KernelWon.j1 kj4 l1 (bt380.2 != bt384.2) a0_0 a0_1 a0_2 l0_3) else (saronlaw06_KernelWon.j1 kj4 l1 true a0_0 a0_1 a0_2 l0_3))))) = some r := by rw [if_neg (show ¬ (false = true) by decide)] at H; exact H
    clear H
    have H := H1
    clear H1
    replace H := Option.bind_eq_some_iff.mp H
    obtain ⟨⟨t380, t383⟩, A180, H⟩ := H
    replace H : ((saronref06_Filled.f kj4 a0_0 a0_1 a0_2 l0_3 l1).bind fun bt384 => ((saronref00_EqualRows.f kj4 t380 bt384.1).bind fun t388 => (if t388 = true then (saronlaw06_KernelWon.j1 kj4 l1 (t383 != bt384.2) a0_0 a0_1 a0_2 l0_3) else (saronlaw06_KernelWon.j1 kj4 l1 true a0_0 a0_1 a0_2 l0_3)))) = some r := H
    have A18 := zh A180
    clear A180
    replace H := Option.bind_eq_some_iff.mp H
    obtain ⟨⟨t384, t387⟩, A190, H⟩ := H
    replace H : ((saronref00_EqualRows.f kj4 t380 t384).bind fun t388 => (if t388 = true then (saronlaw06_KernelWon.j1 kj4 l1 (t383 != t387) a0_0 a0_1 a0_2 l0_3) else (saronlaw06_KernelWon.j1 kj4 l1 true a0_0 a0_1 a0_2 l0_3))) = some r := H
    have A19 := zh A190
    clear A190
    have HC20 := zh H
    clear H
    have hcz21_0 : wc.cell? ⟨gb370, 0, none⟩ = some (.int .i64 a0_0) := vb BK370 0
    have hcz21_1 : wc.cell? ⟨gb370, 1, none⟩ = some (.int .i64 a0_1) := vb BK370 1
    have hcz21_2 : wc.cell? ⟨gb370, 2, none⟩ = some (.int .i64 a0_2) := vb BK370 2
    have hcz21_3 : wc.cell? ⟨gb370, 3, none⟩ = some (.slice A0_3 l0_3.length c0_3) := vb BK370 3
    have hfz21_0 := blk_frozen BK370.out 0
    have hfz21_1 := blk_frozen BK370.out 1
    have hfz21_2 := blk_frozen BK370.out 2
    have hfz21_3 := blk_frozen BK370.out 3
    go_upto_region 7 with (first | ((with_reducible refine gate_callee (f := 28) rfl ?_); refine goesL_ (some 37) rfl rfl Tryd.func28 zk rfl #[.agg #[.int .i64 a0_0, .int .i64 a0_1, .int .i64 a0_2, .slice A0_3 l0_3.length c0_3], .slice A1 l1.length c1] rfl zm ?_; (with_reducible refine (kernel_Filled.calls a0_0 a0_1 a0_2 _ _ l0_3 _ _ l1 t380 t383 _ ?side1 ?side2 ?side3 ?side4 ?side5 A18.out).mono ?_); (case side1 => repeat (first | exact (Kd.C_below HR0_3.out HB.out) | (with_reducible refine Kd.C_alloc ?_ _) | (with_reducible refine Kd.C_drewN ?_ _) | (with_reducible refine Kd.C_drew ?_))); (case side2 => exact HC0_3.out); (case side3 => repeat (first | exact (Kd.C_below HR1.out HB.out) | (with_reducible refine Kd.C_alloc ?_ _) | (with_reducible refine Kd.C_drewN ?_ _) | (with_reducible refine Kd.C_drew ?_))); (case side4 => exact HC1.out); (case side5 => exact Glob.below HG.out zb); rintro e w22 ⟨v381, rfl, ho0, hb⟩; refine ⟨_, rfl, ?_⟩; have n0_ := zh (Kd.V_lower (Kd.V_mono (ok' := fun k_ => k_ ≠ gb370) ho0 (fun k_ hk_ => (Kd.freshB (g := gb370) (o := .cells #[.int .i64 a0_0, .int .i64 a0_1, .int .i64 a0_2, .slice A0_3 l0_3.length c0_3] 24 (0, 0)) (zc BK370) k_ hk_))) (below_size zb)); have n1_ := zh (blk_below (g := gb370) (o := .cells #[.int .i64 a0_0, .int .i64 a0_1, .int .i64 a0_2, .slice A0_3 l0_3.length c0_3] 24 (0, 0)) (zc BK370) hb); have n2_ := zh (below_step zb hb); clear BK370; clear HB; have HO382 := n0_; have BK370 := n1_; have HB := n2_; clear n0_ n1_ n2_; (try clear hb); (try clear hb2); (try clear hk); (try clear hi); (try clear ho0); have hcz23_0 : w22.cell? ⟨gb370, 0, none⟩ = some (.int .i64 a0_0) := vb BK370 0; have hcz23_1 : w22.cell? ⟨gb370, 1, none⟩ = some (.int .i64 a0_1) := vb BK370 1; have hcz23_2 : w22.cell? ⟨gb370, 2, none⟩ = some (.int .i64 a0_2) := vb BK370 2; have hcz23_3 : w22.cell? ⟨gb370, 3, none⟩ = some (.slice A0_3 l0_3.length c0_3) := vb BK370 3; have hfz23_0 := blk_frozen BK370.out 0; have hfz23_1 := blk_frozen BK370.out 1; have hfz23_2 := blk_frozen BK370.out 2; have hfz23_3 := blk_frozen BK370.out 3) | ((with_reducible refine gate_callee (f := 29) rfl ?_); refine goesL_ (some 43) rfl rfl Tryd.func29 zk rfl #[.agg #[.int .i64 a0_0, .int .i64 a0_1, .int .i64 a0_2, .slice A0_3 l0_3.length c0_3], .slice A1 l1.length c1] rfl zm ?_; (with_reducible refine (saronref06_Filled.calls kj4 a0_0 a0_1 a0_2 _ _ l0_3 _ _ l1 t384 t387 _ ?side1 ?side2 ?side3 ?side4 A19.out).mono ?_); (case side1 => repeat (first | exact (Kd.C_below HR0_3.out HB.out) | (with_reducible refine Kd.C_alloc ?_ _) | (with_reducible refine Kd.C_drewN ?_ _) | (with_reducible refine Kd.C_drew ?_))); (case side2 => exact HC0_3.out); (case side3 => repeat (first | exact (Kd.C_below HR1.out HB.out) | (with_reducible refine Kd.C_alloc ?_ _) | (with_reducible refine Kd.C_drewN ?_ _) | (with_reducible refine Kd.C_drew ?_))); (case side4 => exact HC1.out); rintro e w24 ⟨v385, rfl, ho0, hb⟩; refine ⟨_, rfl, ?_⟩; have n0_ := zh (Kd.V_elder' (zV HO382) (Kd.S_base ho0) hb); have n1_ := zh (Kd.S_lower ho0 (below_size zb)); have n2_ := zh (blk_below (g := gb370) (o := .cells #[.int .i64 a0_0, .int .i64 a0_1, .int .i64 a0_2, .slice A0_3 l0_3.length c0_3] 24 (0, 0)) (zc BK370) hb); have n3_ := zh (below_step zb hb); clear HO382; clear BK370; clear HB; have HO382 := n0_; have HO386 := n1_; have BK370 := n2_; have HB := n3_; clear n0_ n1_ n2_ n3_; (try clear hb); (try clear hb2); (try clear hk); (try clear hi); (try clear ho0)))
    (try simp only [Act.put, List.setIfInBounds_toArray, List.set_cons_zero, List.set_cons_succ])
    go_cut [54] (fun v54 wc => ∃ (kq : Nat) (x54_19 : Bool), v54 = .bool x54_19 ∧ Aside0 (saronlaw06_KernelWon.j1 kq l1 x54_19 a0_0 a0_1 a0_2 l0_3 = some r) ∧ Aside0 (kq ≤ kj4) ∧ Aside0 (wc.heap[gb370]? = some (.cells #[.int .i64 a0_0, .int .i64 a0_1, .int .i64 a0_2, (.slice A0_3 l0_3.length c0_3)] 24 (0, 0))) ∧ Aside0 (Below w.heap.size w wc))
    case first =>
     have H := HC20.out
     clear HC20
     replace H := Option.bind_eq_some_iff.mp H
     obtain ⟨t388, A250, H⟩ := H
     replace H : (if t388 = true then (saronlaw06_KernelWon.j1 kj4 l1 (t383 != t387) a0_0 a0_1 a0_2 l0_3) else (saronlaw06_KernelWon.j1 kj4 l1 true a0_0 a0_1 a0_2 l0_3)) = some r := H
     have A25 := zh A250
     clear A250
     by_cases c26 : t388 = true
     ·subst c26
      have H1 : (saronlaw06_KernelWon.j1 kj4 l1 (t383 != t387) a0_0 a0_1 a0_2 l0_3) = some r := by rw [if_pos rfl] at H; exact H
      clear H
      have H := H1
      clear H1
      have H' := zh H
      clear H
      obtain ⟨Ao27, co27, eo27⟩ := Kd.V_slice HO382.out
      subst eo27
      obtain ⟨Ao28, co28, eo28⟩ := Kd.S_slice HO386.out
      subst eo28
      go_wp2_with (first | ((with_reducible refine gate_callee (f := 30) rfl ?_); refine goesL_ (some 48) rfl rfl Tryd.func30 zk rfl #[.slice Ao27 t380.length co27, .slice Ao28 t384.length co28] rfl zm ?_; (with_reducible refine (saronref00_EqualRows.calls kj4 _ _ t380 _ _ t384 true _ ?side1 ?side2 ?side3 ?side4 A25.out).mono ?_); (case side1 => repeat (first | exact (Kd.V_reads' HO382.out).2.2 | (with_reducible refine Kd.C_alloc ?_ _) | (with_reducible refine Kd.C_drewN ?_ _) | (with_reducible refine Kd.C_drew ?_))); (case side2 => exact (Kd.V_reads' HO382.out).2.1); (case side3 => repeat (first | exact (Kd.S_reads' HO386.out).2.2 | (with_reducible refine Kd.C_alloc ?_ _) | (with_reducible refine Kd.C_drewN ?_ _) | (with_reducible refine Kd.C_drew ?_))); (case side4 => exact (Kd.S_reads' HO386.out).2.1); rintro e w' ⟨rfl, ⟨nd, rfl⟩⟩; refine ⟨_, rfl, ?_⟩))
      go_meet
      case rel => exact ⟨_, ((t383 != t387)), ze, H', ⟨by have := HJ4.out; first | omega | exact Nat.le_refl _⟩, ⟨zc BK370⟩, ⟨zb⟩⟩
     ·replace c26 := Bool.eq_false_iff.mpr c26
      subst c26
      have H1 : (saronlaw06_KernelWon.j1 kj4 l1 true a0_0 a0_1 a0_2 l0_3) = some r := by rw [if_neg (show ¬ (false = true) by decide)] at H; exact H
      clear H
      have H := H1
      clear H1
      have H' := zh H
      clear H
      obtain ⟨Ao29, co29, eo29⟩ := Kd.V_slice HO382.out
      subst eo29
      obtain ⟨Ao30, co30, eo30⟩ := Kd.S_slice HO386.out
      subst eo30
      go_wp2_with (first | ((with_reducible refine gate_callee (f := 30) rfl ?_); refine goesL_ (some 48) rfl rfl Tryd.func30 zk rfl #[.slice Ao29 t380.length co29, .slice Ao30 t384.length co30] rfl zm ?_; (with_reducible refine (saronref00_EqualRows.calls kj4 _ _ t380 _ _ t384 false _ ?side1 ?side2 ?side3 ?side4 A25.out).mono ?_); (case side1 => repeat (first | exact (Kd.V_reads' HO382.out).2.2 | (with_reducible refine Kd.C_alloc ?_ _) | (with_reducible refine Kd.C_drewN ?_ _) | (with_reducible refine Kd.C_drew ?_))); (case side2 => exact (Kd.V_reads' HO382.out).2.1); (case side3 => repeat (first | exact (Kd.S_reads' HO386.out).2.2 | (with_reducible refine Kd.C_alloc ?_ _) | (with_reducible refine Kd.C_drewN ?_ _) | (with_reducible refine Kd.C_drew ?_))); (case side4 => exact (Kd.S_reads' HO386.out).2.1); rintro e w' ⟨rfl, ⟨nd, rfl⟩⟩; refine ⟨_, rfl, ?_⟩))
      go_meet
      case rel => exact ⟨_, (true), ze, H', ⟨by have := HJ4.out; first | omega | exact Nat.le_refl _⟩, ⟨zc BK370⟩, ⟨zb⟩⟩
    case rest =>
     clear HC20
     try clear c1
     try clear c2
     try clear p2
     try clear c3
     try clear c5
     try clear c12
     try clear c17
     try clear c18
     try clear c26
     try clear c27
     try clear c28
     try clear c29
     try clear c30
     try clear hcz21_0
     try clear hcz21_1
     try clear hcz21_2
     try clear hcz21_3
     try clear hcz23_0
     try clear hcz23_1
     try clear hcz23_2
     try clear hcz23_3
     try clear hcz7_0
     try clear hcz7_1
     try clear hcz7_2
     try clear hcz7_3
     try clear hcz9_0
     try clear hcz9_1
     try clear hcz9_2
     try clear hcz9_3
     try clear hfz21_0
     try clear hfz21_1
     try clear hfz21_2
     try clear hfz21_3
     try clear hfz23_0
     try clear hfz23_1
     try clear hfz23_2
     try clear hfz23_3
     try clear hfz7_0
     try clear hfz7_1
     try clear hfz7_2
     try clear hfz7_3
     try clear hfz9_0
     try clear hfz9_1
     try clear hfz9_2
     try clear hfz9_3
     try clear p2
     obtain ⟨kq, x54_19, rfl, HA, HJ19, BK370, HB⟩ := hcut
     cases kq with
     | zero => exact absurd HA.out (by simp [saronlaw06_KernelWon.j1])
     | succ kj19 =>
      have H := HA.out
      clear HA
      simp only [saronlaw06_KernelWon.j1] at H
      by_cases c31 : x54_19 = true
      ·subst c31
       have H1 : (some false) = some r := by rw [if_pos rfl] at H; exact H
       clear H
       have H := H1
       clear H1
       obtain rfl := Option.some.inj H
       go_wp2
       go_ret
       exact ⟨zf, zb⟩
      ·replace c31 := Bool.eq_false_iff.mpr c31
       subst c31
       have H1 : ((kernel_Least.f a0_0 a0_1 a0_2 l0_3 l1).bind fun bt389 => ((saronref06_Least.f kj19 a0_0 a0_1 a0_2 l0_3 l1).bind fun bt391 => (if bt389.1 = bt391.1 then (if bt389.2 = bt391.2 then ((saronlaw06_works.f).bind fun t393 => (some t393)) else (some false)) else (some false)))) = some r := by rw [if_neg (show ¬ (false = true) by decide)] at H; exact H
       clear H
       have H := H1
       clear H1
       replace H := Option.bind_eq_some_iff.mp H
       obtain ⟨⟨t389, t390⟩, A320, H⟩ := H
       replace H : ((saronref06_Least.f kj19 a0_0 a0_1 a0_2 l0_3 l1).bind fun bt391 => (if t389 = bt391.1 then (if t390 = bt391.2 then ((saronlaw06_works.f).bind fun t393 => (some t393)) else (some false)) else (some false))) = some r := H
       have A32 := zh A320
       clear A320
       replace H := Option.bind_eq_some_iff.mp H
       obtain ⟨⟨t391, t392⟩, A330, H⟩ := H
       replace H : (if t389 = t391 then (if t390 = t392 then ((saronlaw06_works.f).bind fun t393 => (some t393)) else (some false)) else (some false)) = some r := H
       have A33 := zh A330
       clear A330
       by_cases c34 : t389 = t391
       ·rw [if_pos c34] at H
        have c34b0 : (t389 == t391) = true := beq_iff_eq.mpr c34
        have c34b1 : (t389 != t391) = false := bne_eq_false_iff_eq.mpr c34
        clear c34
        by_cases c35 : t390 = t392
        ·rw [if_pos c35] at H
         have c35b0 : (t390 == t392) = true := beq_iff_eq.mpr c35
         have c35b1 : (t390 != t392) = false := bne_eq_false_iff_eq.mpr c35
         clear c35
         replace H := Option.bind_eq_some_iff.mp H
         obtain ⟨t393, A360, H⟩ := H
         replace H : (some t393) = some r := H
         have A36 := zh A360
         clear A360
         obtain rfl := Option.some.inj H
         have hcz37_0 : wc.cell? ⟨gb370, 0, none⟩ = some (.int .i64 a0_0) := vb BK370 0
         have hcz37_1 : wc.cell? ⟨gb370, 1, none⟩ = some (.int .i64 a0_1) := vb BK370 1
         have hcz37_2 : wc.cell? ⟨gb370, 2, none⟩ = some (.int .i64 a0_2) := vb BK370 2
         have hcz37_3 : wc.cell? ⟨gb370, 3, none⟩ = some (.slice A0_3 l0_3.length c0_3) := vb BK370 3
         have hfz37_0 := blk_frozen BK370.out 0
         have hfz37_1 := blk_frozen BK370.out 1
         have hfz37_2 := blk_frozen BK370.out 2
         have hfz37_3 := blk_frozen BK370.out 3
         go_wp2_with (first | ((with_reducible refine gate_callee (f := 31) rfl ?_); refine goesL_ (some 58) rfl rfl Tryd.func31 zk rfl #[.agg #[.int .i64 a0_0, .int .i64 a0_1, .int .i64 a0_2, .slice A0_3 l0_3.length c0_3], .slice A1 l1.length c1] rfl zm ?_; (with_reducible refine (kernel_Least.calls a0_0 a0_1 a0_2 _ _ l0_3 _ _ l1 t389 t390 _ ?side1 ?side2 ?side3 ?side4 ?side5 A32.out).mono ?_); (case side1 => repeat (first | exact (Kd.C_below HR0_3.out HB.out) | (with_reducible refine Kd.C_alloc ?_ _) | (with_reducible refine Kd.C_drewN ?_ _) | (with_reducible refine Kd.C_drew ?_))); (case side2 => exact HC0_3.out); (case side3 => repeat (first | exact (Kd.C_below HR1.out HB.out) | (with_reducible refine Kd.C_alloc ?_ _) | (with_reducible refine Kd.C_drewN ?_ _) | (with_reducible refine Kd.C_drew ?_))); (case side4 => exact HC1.out); (case side5 => exact Glob.below HG.out zb); rintro e w38 ⟨rfl, hb⟩; refine ⟨_, rfl, ?_⟩; have n0_ := zh (blk_below (g := gb370) (o := .cells #[.int .i64 a0_0, .int .i64 a0_1, .int .i64 a0_2, .slice A0_3 l0_3.length c0_3] 24 (0, 0)) (zc BK370) hb); have n1_ := zh (below_step zb hb); clear BK370; clear HB; have BK370 := n0_; have HB := n1_; clear n0_ n1_; (try clear hb); (try clear hb2); (try clear hk); (try clear hi); have hcz39_0 : w38.cell? ⟨gb370, 0, none⟩ = some (.int .i64 a0_0) := vb BK370 0; have hcz39_1 : w38.cell? ⟨gb370, 1, none⟩ = some (.int .i64 a0_1) := vb BK370 1; have hcz39_2 : w38.cell? ⟨gb370, 2, none⟩ = some (.int .i64 a0_2) := vb BK370 2; have hcz39_3 : w38.cell? ⟨gb370, 3, none⟩ = some (.slice A0_3 l0_3.length c0_3) := vb BK370 3; have hfz39_0 := blk_frozen BK370.out 0; have hfz39_1 := blk_frozen BK370.out 1; have hfz39_2 := blk_frozen BK370.out 2; have hfz39_3 := blk_frozen BK370.out 3) | ((with_reducible refine gate_callee (f := 32) rfl ?_); refine goesL_ (some 64) rfl rfl Tryd.func32 zk rfl #[.agg #[.int .i64 a0_0, .int .i64 a0_1, .int .i64 a0_2, .slice A0_3 l0_3.length c0_3], .slice A1 l1.length c1] rfl zm ?_; (with_reducible refine (saronref06_Least.calls kj19 a0_0 a0_1 a0_2 _ _ l0_3 _ _ l1 t391 t392 _ ?side1 ?side2 ?side3 ?side4 A33.out).mono ?_); (case side1 => repeat (first | exact (Kd.C_below HR0_3.out HB.out) | (with_reducible refine Kd.C_alloc ?_ _) | (with_reducible refine Kd.C_drewN ?_ _) | (with_reducible refine Kd.C_drew ?_))); (case side2 => exact HC0_3.out); (case side3 => repeat (first | exact (Kd.C_below HR1.out HB.out) | (with_reducible refine Kd.C_alloc ?_ _) | (with_reducible refine Kd.C_drewN ?_ _) | (with_reducible refine Kd.C_drew ?_))); (case side4 => exact HC1.out); rintro e w40 ⟨rfl, hb⟩; refine ⟨_, rfl, ?_⟩; have n0_ := zh (blk_below (g := gb370) (o := .cells #[.int .i64 a0_0, .int .i64 a0_1, .int .i64 a0_2, .slice A0_3 l0_3.length c0_3] 24 (0, 0)) (zc BK370) hb); have n1_ := zh (below_step zb hb); clear BK370; clear HB; have BK370 := n0_; have HB := n1_; clear n0_ n1_; (try clear hb); (try clear hb2); (try clear hk); (try clear hi)) | (go_at_call 21; (with_reducible refine (saronlaw06_works.calls  t393 _ ?side1 A36.out).mono ?_); (case side1 => exact Glob.below HG.out zb); rintro e w41 ⟨rfl, hb⟩; have n0_ := zh (blk_below (g := gb370) (o := .cells #[.int .i64 a0_0, .int .i64 a0_1, .int .i64 a0_2, .slice A0_3 l0_3.length c0_3] 24 (0, 0)) (zc BK370) hb); have n1_ := zh (below_step zb hb); clear BK370; clear HB; have BK370 := n0_; have HB := n1_; clear n0_ n1_; (try clear hb); (try clear hb2); (try clear hk); (try clear hi)))
         go_ret
         exact ⟨zf, zb⟩
        ·rw [if_neg c35] at H
         have c35b0 : (t390 == t392) = false := beq_eq_false_iff_ne.mpr c35
         have c35b1 : (t390 != t392) = true := bne_iff_ne.mpr c35
         obtain rfl := Option.some.inj H
         have hcz42_0 : wc.cell? ⟨gb370, 0, none⟩ = some (.int .i64 a0_0) := vb BK370 0
         have hcz42_1 : wc.cell? ⟨gb370, 1, none⟩ = some (.int .i64 a0_1) := vb BK370 1
         have hcz42_2 : wc.cell? ⟨gb370, 2, none⟩ = some (.int .i64 a0_2) := vb BK370 2
         have hcz42_3 : wc.cell? ⟨gb370, 3, none⟩ = some (.slice A0_3 l0_3.length c0_3) := vb BK370 3
         have hfz42_0 := blk_frozen BK370.out 0
         have hfz42_1 := blk_frozen BK370.out 1
         have hfz42_2 := blk_frozen BK370.out 2
         have hfz42_3 := blk_frozen BK370.out 3
         go_wp2_with (first | ((with_reducible refine gate_callee (f := 31) rfl ?_); refine goesL_ (some 58) rfl rfl Tryd.func31 zk rfl #[.agg #[.int .i64 a0_0, .int .i64 a0_1, .int .i64 a0_2, .slice A0_3 l0_3.length c0_3], .slice A1 l1.length c1] rfl zm ?_; (with_reducible refine (kernel_Least.calls a0_0 a0_1 a0_2 _ _ l0_3 _ _ l1 t389 t390 _ ?side1 ?side2 ?side3 ?side4 ?side5 A32.out).mono ?_); (case side1 => repeat (first | exact (Kd.C_below HR0_3.out HB.out) | (with_reducible refine Kd.C_alloc ?_ _) | (with_reducible refine Kd.C_drewN ?_ _) | (with_reducible refine Kd.C_drew ?_))); (case side2 => exact HC0_3.out); (case side3 => repeat (first | exact (Kd.C_below HR1.out HB.out) | (with_reducible refine Kd.C_alloc ?_ _) | (with_reducible refine Kd.C_drewN ?_ _) | (with_reducible refine Kd.C_drew ?_))); (case side4 => exact HC1.out); (case side5 => exact Glob.below HG.out zb); rintro e w43 ⟨rfl, hb⟩; refine ⟨_, rfl, ?_⟩; have n0_ := zh (blk_below (g := gb370) (o := .cells #[.int .i64 a0_0, .int .i64 a0_1, .int .i64 a0_2, .slice A0_3 l0_3.length c0_3] 24 (0, 0)) (zc BK370) hb); have n1_ := zh (below_step zb hb); clear BK370; clear HB; have BK370 := n0_; have HB := n1_; clear n0_ n1_; (try clear hb); (try clear hb2); (try clear hk); (try clear hi); have hcz44_0 : w43.cell? ⟨gb370, 0, none⟩ = some (.int .i64 a0_0) := vb BK370 0; have hcz44_1 : w43.cell? ⟨gb370, 1, none⟩ = some (.int .i64 a0_1) := vb BK370 1; have hcz44_2 : w43.cell? ⟨gb370, 2, none⟩ = some (.int .i64 a0_2) := vb BK370 2; have hcz44_3 : w43.cell? ⟨gb370, 3, none⟩ = some (.slice A0_3 l0_3.length c0_3) := vb BK370 3; have hfz44_0 := blk_frozen BK370.out 0; have hfz44_1 := blk_frozen BK370.out 1; have hfz44_2 := blk_frozen BK370.out 2; have hfz44_3 := blk_frozen BK370.out 3) | ((with_reducible refine gate_callee (f := 32) rfl ?_); refine goesL_ (some 64) rfl rfl Tryd.func32 zk rfl #[.agg #[.int .i64 a0_0, .int .i64 a0_1, .int .i64 a0_2, .slice A0_3 l0_3.length c0_3], .slice A1 l1.length c1] rfl zm ?_; (with_reducible refine (saronref06_Least.calls kj19 a0_0 a0_1 a0_2 _ _ l0_3 _ _ l1 t391 t392 _ ?side1 ?side2 ?side3 ?side4 A33.out).mono ?_); (case side1 => repeat (first | exact (Kd.C_below HR0_3.out HB.out) | (with_reducible refine Kd.C_alloc ?_ _) | (with_reducible refine Kd.C_drewN ?_ _) | (with_reducible refine Kd.C_drew ?_))); (case side2 => exact HC0_3.out); (case side3 => repeat (first | exact (Kd.C_below HR1.out HB.out) | (with_reducible refine Kd.C_alloc ?_ _) | (with_reducible refine Kd.C_drewN ?_ _) | (with_reducible refine Kd.C_drew ?_))); (case side4 => exact HC1.out); rintro e w45 ⟨rfl, hb⟩; refine ⟨_, rfl, ?_⟩; have n0_ := zh (blk_below (g := gb370) (o := .cells #[.int .i64 a0_0, .int .i64 a0_1, .int .i64 a0_2, .slice A0_3 l0_3.length c0_3] 24 (0, 0)) (zc BK370) hb); have n1_ := zh (below_step zb hb); clear BK370; clear HB; have BK370 := n0_; have HB := n1_; clear n0_ n1_; (try clear hb); (try clear hb2); (try clear hk); (try clear hi)))
         go_ret
         exact ⟨zf, zb⟩
       ·rw [if_neg c34] at H
        have c34b0 : (t389 == t391) = false := beq_eq_false_iff_ne.mpr c34
        have c34b1 : (t389 != t391) = true := bne_iff_ne.mpr c34
        obtain rfl := Option.some.inj H
        have hcz46_0 : wc.cell? ⟨gb370, 0, none⟩ = some (.int .i64 a0_0) := vb BK370 0
        have hcz46_1 : wc.cell? ⟨gb370, 1, none⟩ = some (.int .i64 a0_1) := vb BK370 1
        have hcz46_2 : wc.cell? ⟨gb370, 2, none⟩ = some (.int .i64 a0_2) := vb BK370 2
        have hcz46_3 : wc.cell? ⟨gb370, 3, none⟩ = some (.slice A0_3 l0_3.length c0_3) := vb BK370 3
        have hfz46_0 := blk_frozen BK370.out 0
        have hfz46_1 := blk_frozen BK370.out 1
        have hfz46_2 := blk_frozen BK370.out 2
        have hfz46_3 := blk_frozen BK370.out 3
        go_wp2_with (first | ((with_reducible refine gate_callee (f := 31) rfl ?_); refine goesL_ (some 58) rfl rfl Tryd.func31 zk rfl #[.agg #[.int .i64 a0_0, .int .i64 a0_1, .int .i64 a0_2, .slice A0_3 l0_3.length c0_3], .slice A1 l1.length c1] rfl zm ?_; (with_reducible refine (kernel_Least.calls a0_0 a0_1 a0_2 _ _ l0_3 _ _ l1 t389 t390 _ ?side1 ?side2 ?side3 ?side4 ?side5 A32.out).mono ?_); (case side1 => repeat (first | exact (Kd.C_below HR0_3.out HB.out) | (with_reducible refine Kd.C_alloc ?_ _) | (with_reducible refine Kd.C_drewN ?_ _) | (with_reducible refine Kd.C_drew ?_))); (case side2 => exact HC0_3.out); (case side3 => repeat (first | exact (Kd.C_below HR1.out HB.out) | (with_reducible refine Kd.C_alloc ?_ _) | (with_reducible refine Kd.C_drewN ?_ _) | (with_reducible refine Kd.C_drew ?_))); (case side4 => exact HC1.out); (case side5 => exact Glob.below HG.out zb); rintro e w47 ⟨rfl, hb⟩; refine ⟨_, rfl, ?_⟩; have n0_ := zh (blk_below (g := gb370) (o := .cells #[.int .i64 a0_0, .int .i64 a0_1, .int .i64 a0_2, .slice A0_3 l0_3.length c0_3] 24 (0, 0)) (zc BK370) hb); have n1_ := zh (below_step zb hb); clear BK370; clear HB; have BK370 := n0_; have HB := n1_; clear n0_ n1_; (try clear hb); (try clear hb2); (try clear hk); (try clear hi); have hcz48_0 : w47.cell? ⟨gb370, 0, none⟩ = some (.int .i64 a0_0) := vb BK370 0; have hcz48_1 : w47.cell? ⟨gb370, 1, none⟩ = some (.int .i64 a0_1) := vb BK370 1; have hcz48_2 : w47.cell? ⟨gb370, 2, none⟩ = some (.int .i64 a0_2) := vb BK370 2; have hcz48_3 : w47.cell? ⟨gb370, 3, none⟩ = some (.slice A0_3 l0_3.length c0_3) := vb BK370 3; have hfz48_0 := blk_frozen BK370.out 0; have hfz48_1 := blk_frozen BK370.out 1; have hfz48_2 := blk_frozen BK370.out 2; have hfz48_3 := blk_frozen BK370.out 3) | ((with_reducible refine gate_callee (f := 32) rfl ?_); refine goesL_ (some 64) rfl rfl Tryd.func32 zk rfl #[.agg #[.int .i64 a0_0, .int .i64 a0_1, .int .i64 a0_2, .slice A0_3 l0_3.length c0_3], .slice A1 l1.length c1] rfl zm ?_; (with_reducible refine (saronref06_Least.calls kj19 a0_0 a0_1 a0_2 _ _ l0_3 _ _ l1 t391 t392 _ ?side1 ?side2 ?side3 ?side4 A33.out).mono ?_); (case side1 => repeat (first | exact (Kd.C_below HR0_3.out HB.out) | (with_reducible refine Kd.C_alloc ?_ _) | (with_reducible refine Kd.C_drewN ?_ _) | (with_reducible refine Kd.C_drew ?_))); (case side2 => exact HC0_3.out); (case side3 => repeat (first | exact (Kd.C_below HR1.out HB.out) | (with_reducible refine Kd.C_alloc ?_ _) | (with_reducible refine Kd.C_drewN ?_ _) | (with_reducible refine Kd.C_drew ?_))); (case side4 => exact HC1.out); rintro e w49 ⟨rfl, hb⟩; refine ⟨_, rfl, ?_⟩; have n0_ := zh (blk_below (g := gb370) (o := .cells #[.int .i64 a0_0, .int .i64 a0_1, .int .i64 a0_2, .slice A0_3 l0_3.length c0_3] 24 (0, 0)) (zc BK370) hb); have n1_ := zh (below_step zb hb); clear BK370; clear HB; have BK370 := n0_; have HB := n1_; clear n0_ n1_; (try clear hb); (try clear hb2); (try clear hk); (try clear hi)))
        go_ret
        exact ⟨zf, zb⟩
end Go.Proofs.YtagkfkdoibnhfaaDoor.H
end
section
namespace Go.Proofs.YtagkfkdoibnhfaaDoor.K
open Go.RowKit Go.Proofs.YtagkfkdoibnhfaaDoorW.PrintWords Go.Proofs.YtagkfkdoibnhfaaDoorW.PrintMore Go.Proofs.YtagkfkdoibnhfaaDoor.H
theorem min_mul (n l : Int) (hn : 1 ≤ n) (hl : 1 ≤ l) : 1 ≤ min 1000000 (n * l) ∧ (1 < min 1000000 (n * l) ↔ 1 < n ∨ 1 < l) := by
 by_cases h : l = 1
 ·subst h
  rw [Int.mul_one]
  omega
 ·have h1 : 1 * 2 ≤ n * l := Int.mul_le_mul hn (by omega) (by omega) (by omega)
  omega
theorem many_fold (f : Int → Nat) : ∀ (ps : List Int) (n : Int), 1 ≤ n → (∀ p ∈ ps, 1 ≤ f p) → 1 ≤ ps.foldl (fun n p => min 1000000 (n * (f p : Int))) n ∧ (1 < ps.foldl (fun n p => min 1000000 (n * (f p : Int))) n ↔ 1 < n ∨ (ps.any fun p => decide (1 < f p)) = true)
 | [], n, hn, h => by simp [hn]
 | p :: ps, n, hn, h => by
  have h1 := h p (by simp)
  obtain ⟨a, b⟩ := min_mul n (f p : Int) hn (by omega)
  obtain ⟨c, d⟩ := many_fold f ps _ a (fun q hq => h q (by simp [hq]))
  rw [List.foldl_cons]
  refine ⟨c, d.trans ?_⟩
  rw [b, List.any_cons, Bool.or_eq_true, decide_eq_true_eq, or_assoc]
  have : (1 : Int) < (f p : Int) ↔ 1 < f p := by omega
  rw [this]
theorem canAll_pos {T O L : Int} {R : List S66} {hs : List S60} (h : canAll T O L R hs = true) (p : Int) (hp : p ∈ irange 0 (L / 2 - 1)) : 1 ≤ (choices T O R hs p).length := by
 unfold canAll at h
 rw [List.all_eq_true] at h
 have := h p hp
 cases hc : choices T O R hs p
 ·rw [hc] at this; simp at this
 ·simp
theorem many_one {T O L : Int} {R : List S66} {hs : List S60} (h : canAll T O L R hs = true) : 1 ≤ manyOf T O L R hs ∧ (1 < manyOf T O L R hs ↔ (irange 0 (L / 2 - 1)).any (severalAt T O R hs) = true) := by
 obtain ⟨a, b⟩ := many_fold (fun p => (choices T O R hs p).length) (irange 0 (L / 2 - 1)) 1 (Int.le_refl _) (fun p hp => canAll_pos h p hp)
 refine ⟨a, b.trans ?_⟩
 rw [show ((1 : Int) < 1) = False from by simp, false_or]
 rfl
theorem won_l0 (l : List (List S61)) (hl : ∀ x ∈ l, 1 ≤ x.length) (hl' : l.length ≤ 1000) (d : Nat) : ∀ (k i : Nat) (acc : List Int), l.length - i = d → i ≤ l.length → acc.length ≤ 2 * i → d + 1 ≤ k →
  saronref06_Won.l0 k l acc (i : Int) = some (acc ++ (l.drop i).flatMap (fun x => [(rd_T61 x 0).f0, (rd_T61 x 0).f1]), 0) := by
 induction d with
 | zero =>
  intro k i acc hd hi ha hk
  obtain ⟨k, rfl⟩ : ∃ z, k = z + 1 := ⟨k - 1, by omega⟩
  obtain rfl : i = l.length := by omega
  simp only [saronref06_Won.l0]
  rw [if_neg (by omega), List.drop_length]
  simp
 | succ d ih =>
  intro k i acc hd hi ha hk
  obtain ⟨k, rfl⟩ : ∃ z, k = z + 1 := ⟨k - 1, by omega⟩
  have hlt : i < l.length := by omega
  have hx := hl l[i] (List.getElem_mem hlt)
  simp only [saronref06_Won.l0]
  rw [if_pos (by omega), if_pos (by omega), rdL9 l i hlt, if_pos (by omega), Option.bind_some, if_pos (by simp; omega), up1 i (by omega), ih k (i + 1) _ (by omega) (by omega) (by simp; omega) (by omega), List.drop_eq_getElem_cons hlt, List.flatMap_cons, List.append_assoc]
theorem rWon_f (T O L : Int) (R : List S66) (hs : List S60) (hR : R.length ≤ 9223372036854775807) (hl : Lens hs) (k : Nat) (hk : askFuel hs + 2 * R.length + 1200 ≤ k) : saronref06_Won.f k T O L R hs = some (Won T O L R hs) := by
 unfold saronref06_Won.f
 rw [rMany_f T O L R hs hR hl k hk, Option.bind_some]
 unfold Many Won askedErr
 cases hS : okScale T O L R
 ·rfl
 cases hH : okHeard L R hs
 ·rfl
 obtain ⟨t1, t2, t3, t4, t5, t6, t7, t8, t9, hok⟩ := okScale_regs hS
 have mr := mul_range t1 t2 t3 t4
 obtain ⟨m, hm⟩ : ∃ m : Nat, T * O = (m : Int) := Int.eq_ofNat_of_zero_le (by omega)
 cases hC : canAll T O L R hs
 ·rfl
 obtain ⟨m1, m2⟩ := many_one hC
 simp only [if_true]
 rw [if_neg (by omega)]
 by_cases h : 1 < manyOf T O L R hs
 ·rw [if_pos h, if_pos (m2.1 h)]
 rw [if_neg h, if_neg (fun e => h (m2.2 e)), all_f T O L m R hs hS hH hm (by omega) k (by omega), Option.bind_some]
 have hlen : (allFrom T O L R hs 0).length ≤ 10 := by unfold allFrom; rw [List.length_map, irange_length]; omega
 have hw := won_l0 (allFrom T O L R hs 0) (fun x hx => by
  unfold allFrom at hx
  rw [List.mem_map] at hx
  obtain ⟨y, hy, rfl⟩ := hx
  rw [List.length_map]
  exact canAll_pos hC y hy) (by omega) (allFrom T O L R hs 0).length k 0 [] (Nat.sub_zero _) (Nat.zero_le _) (Nat.le_refl _) (by omega)
 refine hw.trans ?_
 rw [List.drop_zero, List.nil_append]
 congr 2
 unfold allFrom wonOf
 rw [List.flatMap_map]
 congr 1
 funext x
 cases hx : choices T O R hs x
 ·rfl
 ·rfl
theorem pairs_mem {m : Int} {q : Int × Int} (h : q ∈ pairsOf m) : (0 ≤ q.1 ∧ q.1 ≤ m - 1) ∧ 0 ≤ q.2 ∧ q.2 ≤ m - 1 := by
 unfold pairsOf at h
 rw [List.mem_flatMap] at h
 obtain ⟨a, ha, h⟩ := h
 rw [List.mem_map] at h
 obtain ⟨b, hb, rfl⟩ := h
 exact ⟨irange_mem ha, irange_mem hb⟩
theorem choices_mem {T O : Int} {R : List S66} {hs : List S60} {p : Int} {q : Int × Int} (h : q ∈ choices T O R hs p) : (0 ≤ q.1 ∧ q.1 ≤ T * O - 1) ∧ 0 ≤ q.2 ∧ q.2 ≤ T * O - 1 := by
 unfold choices at h
 exact pairs_mem (List.mem_filter.1 h).1
theorem known_l0 (T O L r : Int) (R : List S66) (hT : 2 ≤ T) (hT' : T ≤ 7) (h0 : 0 ≤ r) (h1 : r < R.length) (hx : RegOk (regAt R r)) (s : Nat) (hs : s < width (regAt R r)) (first : Int) (C : List (Int × Int)) (hC : ∀ q ∈ C, (0 ≤ q.1 ∧ q.1 ≤ 100) ∧ 0 ≤ q.2 ∧ q.2 ≤ 100) (hlen : C.length ≤ 10000) (d : Nat) :
  ∀ (k i : Nat), C.length - i = d → i ≤ C.length → d + 141 ≤ k → saronref06_known.l0 k r (C.map mk61) (s : Int) first (i : Int) T O L R = some (if ((C.drop i).all fun q => decide ((strokes T R r q.1 q.2).getD s 0 = first)) = true then first else -2) := by
 induction d with
 | zero =>
  intro k i hd hi hk
  obtain ⟨k, rfl⟩ : ∃ z, k = z + 1 := ⟨k - 1, by omega⟩
  obtain rfl : i = C.length := by omega
  simp only [saronref06_known.l0]
  rw [if_neg (by simp), List.drop_length]
  rfl
 | succ d ih =>
  intro k i hd hi hk
  obtain ⟨k, rfl⟩ : ∃ z, k = z + 1 := ⟨k - 1, by omega⟩
  have hlt : i < C.length := by omega
  obtain ⟨⟨a1, a2⟩, a3, a4⟩ := hC C[i] (List.getElem_mem hlt)
  have eg : rd_T61 (C.map mk61) (i : Int) = mk61 C[i] := by
   rw [rd61 _ i (by simpa using hlt)]
   simp
  have hw := strokes_width T R r C[i].1 C[i].2
  simp only [saronref06_known.l0]
  rw [if_pos (by rw [List.length_map]; omega), if_pos (by omega), eg]
  show ((saronref06_bar.f k T O L R r C[i].1 C[i].2).bind _) = _
  rw [rbar_f T O L R r _ _ hT hT' h0 h1 hx a1 a2 a3 a4 k (by omega), Option.bind_some, if_pos (by omega), if_pos (by omega), up1 i (by omega), ih k (i + 1) (by omega) (by omega) (by omega), List.drop_eq_getElem_cons hlt, List.all_cons, rd_get]
  by_cases h : (strokes T R r C[i].1 C[i].2).getD s 0 = first
  ·rw [if_pos h, decide_eq_true h, Bool.true_and]
  ·rw [if_neg h, decide_eq_false h, Bool.false_and]
   rfl
theorem rknown_f (T O L r : Int) (R : List S66) (hT : 2 ≤ T) (hT' : T ≤ 7) (h0 : 0 ≤ r) (h1 : r < R.length) (hx : RegOk (regAt R r)) (s : Nat) (hs : s < width (regAt R r)) (C : List (Int × Int)) (hne : 1 ≤ C.length) (hC : ∀ q ∈ C, (0 ≤ q.1 ∧ q.1 ≤ 100) ∧ 0 ≤ q.2 ∧ q.2 ≤ 100) (hlen : C.length ≤ 10000) (k : Nat) (hk : C.length + 150 ≤ k) :
  saronref06_known.f k T O L R r (C.map mk61) (s : Int) = some ((known T R r C s).getD (-2)) := by
 match C, hne with
 | p :: rest, _ =>
  obtain ⟨⟨a1, a2⟩, a3, a4⟩ := hC p (by simp)
  have hw := strokes_width T R r p.1 p.2
  have hk2 : rest.length + 151 ≤ k := by simp at hk; omega
  have h := known_l0 T O L r R hT hT' h0 h1 hx s hs ((strokes T R r p.1 p.2).getD s 0) (p :: rest) hC hlen rest.length k 1 (by simp) (by simp) (by omega)
  unfold saronref06_known.f
  rw [if_pos (by simp)]
  show ((saronref06_bar.f k T O L R r p.1 p.2).bind _) = _
  rw [rbar_f T O L R r _ _ hT hT' h0 h1 hx a1 a2 a3 a4 k (by omega), Option.bind_some, if_pos (by omega), if_pos (by omega), rd_get]
  refine h.trans ?_
  show _ = some ((if (rest.all fun q => decide ((strokes T R r q.1 q.2).getD s 0 = (strokes T R r p.1 p.2).getD s 0)) = true then some ((strokes T R r p.1 p.2).getD s 0) else none).getD (-2))
  rw [List.drop_succ_cons, List.drop_zero]
  split <;> rfl
def fillAt (T O : Int) (R : List S66) (hs : List S60) (h : S60) (at_ : Nat) : Int :=
 if h.f1.getD at_ 0 = -2 then (known T R h.f0 (choices T O R hs ((at_ / width (regAt R h.f0) : Nat) : Int)) (at_ % width (regAt R h.f0))).getD (-2) else h.f1.getD at_ 0
theorem fillOf_eq (T O : Int) (R : List S66) (hs : List S60) (h : S60) : fillOf T O R hs h = (List.range h.f1.length).map (fillAt T O R hs h) := rfl
section
variable (T O L : Int) (R : List S66) (hs : List S60) (hS : okScale T O L R = true) (hH : okHeard L R hs = true) (hCan : canAll T O L R hs = true)
include hS hH hCan
theorem fill_l1 (i : Nat) (hi : i < hs.length) (out : List (List Int)) (hout : out.length ≤ 10) (K0 : Nat) (h0 : 10200 ≤ K0) (Fc : List (List Int) → List (List Int)) (hc : ∀ k row, K0 ≤ k → saronref06_Filled.l0 k hs (allFrom T O L R hs 0) (out ++ [row]) ((i + 1 : Nat) : Int) T O L R = some (Fc (out ++ [row]), 0)) (d : Nat) :
  ∀ (k j : Nat) (row : List Int), hs[i].f1.length - j = d → j ≤ hs[i].f1.length → row.length ≤ j → K0 + d + 1 ≤ k →
   saronref06_Filled.l1 k hs (allFrom T O L R hs 0) out (i : Int) (width (regAt R hs[i].f0) : Int) row (j : Int) T O L R = some (Fc (out ++ [row ++ ((List.range hs[i].f1.length).drop j).map (fillAt T O R hs hs[i])]), 0) := by
 obtain ⟨t1, t2, t3, t4, t5, t6, t7, t8, t9, hok⟩ := okScale_regs hS
 have mr := mul_range t1 t2 t3 t4
 obtain ⟨m, hm⟩ : ∃ m : Nat, T * O = (m : Int) := Int.eq_ofNat_of_zero_le (by omega)
 obtain ⟨hh5, hh⟩ := okHeard_get hH
 obtain ⟨g1, g2, g3, g4⟩ := hh i hi
 have hwp := width_pos (regAt R hs[i].f0)
 have hwl := width_le (regAt R hs[i].f0)
 have hlen32 : hs[i].f1.length ≤ 32 := by
  have : L / 2 * (width (regAt R hs[i].f0) : Int) ≤ 8 * 4 := Int.mul_le_mul (by omega) (by omega) (by omega) (by omega)
  omega
 have hal : (allFrom T O L R hs 0).length = (L / 2).toNat := by unfold allFrom; rw [List.length_map, irange_length]; omega
 induction d with
 | zero =>
  intro k j row hd hj hl hk
  obtain ⟨k, rfl⟩ : ∃ z, k = z + 1 := ⟨k - 1, by omega⟩
  obtain rfl : j = hs[i].f1.length := by omega
  have e0 : (List.range hs[i].f1.length).drop hs[i].f1.length = [] := List.drop_eq_nil_of_le (by rw [List.length_range]; exact Nat.le_refl _)
  simp only [saronref06_Filled.l1]
  rw [if_pos (by omega), if_pos (by omega), rd60 hs i hi, if_neg (by omega), if_pos (by omega), up1 i (by omega), hc k row (by omega), e0]
  simp
 | succ d ih =>
  intro k j row hd hj hl hk
  obtain ⟨k, rfl⟩ : ∃ z, k = z + 1 := ⟨k - 1, by omega⟩
  have hjl : j < hs[i].f1.length := by omega
  have ih' := fun x => ih k (j + 1) (row ++ [x]) (by omega) (by omega) (by simp; omega) (by omega)
  have ex : ∀ x, x = fillAt T O R hs hs[i] j → some (Fc (out ++ [row ++ [x] ++ ((List.range hs[i].f1.length).drop (j + 1)).map (fillAt T O R hs hs[i])]), (0 : Int)) = some (Fc (out ++ [row ++ ((List.range hs[i].f1.length).drop j).map (fillAt T O R hs hs[i])]), 0) := fun x hx => by
   rw [drop_range_cons _ _ hjl, List.map_cons, ← hx, List.append_assoc]
   rfl
  simp only [saronref06_Filled.l1]
  rw [if_pos (by omega), if_pos (by omega), rd60 hs i hi, if_pos (by omega), if_pos (by omega), rd_get, up1 j (by omega)]
  by_cases h2 : hs[i].f1.getD j 0 = -2
  ·rw [if_pos h2, if_neg (by omega)]
   generalize hW : width (regAt R hs[i].f0) = W at *
   have hdv : wrap64 (Int.tdiv (j : Int) (W : Int)) = ((j / W : Nat) : Int) := by
    have hq := Nat.div_le_self j W
    rw [Int.tdiv_eq_ediv_of_nonneg (by omega), ← Int.natCast_ediv]
    generalize j / W = q at *
    exact w64 (by omega) (by omega)
   have hmd : Int.tmod (j : Int) (W : Int) = ((j % W : Nat) : Int) := by
    rw [Int.tmod_eq_emod_of_nonneg (by omega), ← Int.natCast_emod]
   have hjW : j / W < (L / 2).toNat := by
    rw [Nat.div_lt_iff_lt_mul (by omega)]
    have h3 : (hs[i].f1.length : Int) = (((L / 2).toNat * W : Nat) : Int) := by
     rw [g3, Int.natCast_mul, Int.toNat_of_nonneg (by omega)]
    have h4 := Int.ofNat.inj h3
    rw [← h4]
    exact hjl
   have hget : rd_L9 (allFrom T O L R hs 0) ((j / W : Nat) : Int) = (choices T O R hs ((j / W : Nat) : Int)).map mk61 := by
    rw [rdL9 _ _ (by omega)]
    unfold allFrom irange
    simp
   have hcl := choices_len T O R hs (j / W) m hm (by omega)
   have hpos := canAll_pos hCan ((j / W : Nat) : Int) (by
    unfold irange
    rw [List.mem_map]
    exact ⟨j / W, by rw [List.mem_range]; omega, by simp⟩)
   rw [hdv, hmd, hget]
   clear hdv hmd
   rw [if_pos (Int.natCast_nonneg _), if_pos (Int.ofNat_lt.2 (by rw [hal]; exact hjW)), rknown_f T O L hs[i].f0 R t1 t2 g1 g2 (hok _ g1 g2) (j % W) (by rw [hW]; exact Nat.mod_lt _ (by omega)) _ hpos (fun q hq => by have := choices_mem hq; omega) hcl k (by omega), Option.bind_some, if_pos (by omega), ih']
   exact ex _ (by unfold fillAt; rw [if_pos h2, hW])
  ·rw [if_neg h2, if_pos (by omega), ih']
   exact ex _ (by unfold fillAt; rw [if_neg h2])
theorem fill_l0 (d : Nat) : ∀ (k i : Nat) (out : List (List Int)), hs.length - i = d → i ≤ hs.length → out.length ≤ i → 10300 + 40 * d ≤ k →
  saronref06_Filled.l0 k hs (allFrom T O L R hs 0) out (i : Int) T O L R = some (out ++ (hs.drop i).map (fillOf T O R hs), 0) := by
 obtain ⟨t1, t2, t3, t4, t5, t6, t7, t8, t9, hok⟩ := okScale_regs hS
 obtain ⟨hh5, hh⟩ := okHeard_get hH
 induction d with
 | zero =>
  intro k i out hd hi hl hk
  obtain ⟨k, rfl⟩ : ∃ z, k = z + 1 := ⟨k - 1, by omega⟩
  obtain rfl : i = hs.length := by omega
  simp only [saronref06_Filled.l0]
  rw [if_neg (by omega), List.drop_length]
  simp
 | succ d ih =>
  intro k i out hd hi hl hk
  obtain ⟨k, rfl⟩ : ∃ z, k = z + 1 := ⟨k - 1, by omega⟩
  have hlt : i < hs.length := by omega
  obtain ⟨g1, g2, g3, g4⟩ := hh i hlt
  have hwl := width_le (regAt R hs[i].f0)
  have hlen32 : hs[i].f1.length ≤ 32 := by
   have : L / 2 * (width (regAt R hs[i].f0) : Int) ≤ 8 * 4 := Int.mul_le_mul (by omega) (by omega) (by omega) (by omega)
   omega
  have h1 := fill_l1 T O L R hs hS hH hCan i hlt out (by omega) (10300 + 40 * d) (by omega) (fun o => o ++ (hs.drop (i + 1)).map (fillOf T O R hs)) (fun k row hk => ih k (i + 1) (out ++ [row]) (by omega) (by omega) (by simp; omega) hk) hs[i].f1.length k 0 [] (Nat.sub_zero _) (Nat.zero_le _) (Nat.le_refl _) (by omega)
  simp only [saronref06_Filled.l0]
  rw [if_pos (by omega), if_pos (by omega), rd60 hs i hlt, rsize_f T O L hs[i].f0 R t1 t2 g1 g2 (hok _ g1 g2) k (by omega), Option.bind_some]
  refine h1.trans ?_
  rw [List.drop_zero, List.nil_append, ← fillOf_eq, List.drop_eq_getElem_cons hlt, List.map_cons, List.append_assoc]
  rfl
end
theorem rFilled_f (T O L : Int) (R : List S66) (hs : List S60) (hR : R.length ≤ 9223372036854775807) (hl : Lens hs) (k : Nat) (hk : askFuel hs + 2 * R.length + 11000 ≤ k) : saronref06_Filled.f k T O L R hs = some (Filled T O L R hs) := by
 unfold saronref06_Filled.f Filled askedErr
 rw [asked_f T O L R hs hR hl k (by omega), Option.bind_some]
 cases hS : okScale T O L R
 ·rfl
 cases hH : okHeard L R hs
 ·rfl
 obtain ⟨t1, t2, t3, t4, t5, t6, t7, t8, t9, hok⟩ := okScale_regs hS
 have mr := mul_range t1 t2 t3 t4
 obtain ⟨m, hm⟩ : ∃ m : Nat, T * O = (m : Int) := Int.eq_ofNat_of_zero_le (by omega)
 obtain ⟨hh5, hh⟩ := okHeard_get hH
 rw [if_pos rfl, if_pos rfl, if_pos rfl, all_f T O L m R hs hS hH hm (by omega) k (by omega), Option.bind_some]
 cases hC : canAll T O L R hs
 ·rfl
 rw [if_pos rfl]
 have h := fill_l0 T O L R hs hS hH hC hs.length k 0 [] (Nat.sub_zero _) (Nat.zero_le _) (Nat.le_refl _) (by omega)
 refine h.trans ?_
 rw [List.drop_zero, List.nil_append]
 rfl
end Go.Proofs.YtagkfkdoibnhfaaDoor.K
end
section
namespace Go.Proofs.YtagkfkdoibnhfaaDoor.K
open Go.RowKit Go.Proofs.YtagkfkdoibnhfaaDoorW.PrintWords Go.Proofs.YtagkfkdoibnhfaaDoorW.PrintMore Go.Proofs.YtagkfkdoibnhfaaDoor.H
theorem missOf_le (was l : List Int) : missOf was l ≤ l.length := by
 unfold missOf
 refine Nat.le_trans List.countP_le_length ?_
 simp
theorem miss_le (T : Int) (R : List S66) (place a b : Int) : ∀ hs : List S60, miss T R hs place a b ≤ 4 * hs.length
 | [] => by simp [miss]
 | h :: r => by
  rw [miss_cons]
  have h1 := missOf_le (h.f1.drop (place.toNat * width (regAt R h.f0))) (strokes T R h.f0 a b)
  have h2 := strokes_len T R h.f0 a b
  have h3 := miss_le T R place a b r
  simp only [List.length_cons]
  omega
theorem miss20 (T : Int) (R : List S66) (place a b : Int) (hs : List S60) (h : hs.length ≤ 5) : (miss T R hs place a b : Int) ≤ 20 := by
 have := miss_le T R place a b hs
 generalize miss T R hs place a b = M at *
 omega
def lsStep (T : Int) (R : List S66) (hs : List S60) (p : Nat) (n : Int) (q : Int × Int) : Int := min n (miss T R hs (p : Int) q.1 q.2 : Int)
def lsRow (T : Int) (R : List S66) (hs : List S60) (p m a b : Nat) (n : Int) : Int := ((irange (b : Int) ((m : Int) - 1)).map fun y => ((a : Int), y)).foldl (lsStep T R hs p) n
def lsFrom (T : Int) (R : List S66) (hs : List S60) (p m a : Nat) (n : Int) : Int := ((irange (a : Int) ((m : Int) - 1)).flatMap fun x => (irange 0 ((m : Int) - 1)).map fun y => (x, y)).foldl (lsStep T R hs p) n
theorem lsRow_cons (T : Int) (R : List S66) (hs : List S60) (p m a b : Nat) (n : Int) (h : b < m) : lsRow T R hs p m a b n = lsRow T R hs p m a (b + 1) (min n (miss T R hs (p : Int) (a : Int) (b : Int) : Int)) := by
 unfold lsRow
 rw [irange_cons (lo := (b : Int)) (hi := (m : Int) - 1) (by omega)]
 rfl
theorem lsRow_end (T : Int) (R : List S66) (hs : List S60) (p m a : Nat) (n : Int) : lsRow T R hs p m a m n = n := by
 unfold lsRow
 rw [irange_nil (lo := (m : Int)) (hi := (m : Int) - 1) (by omega)]
 rfl
theorem lsFrom_cons (T : Int) (R : List S66) (hs : List S60) (p m a : Nat) (n : Int) (h : a < m) : lsFrom T R hs p m a n = lsFrom T R hs p m (a + 1) (lsRow T R hs p m a 0 n) := by
 unfold lsFrom lsRow
 rw [irange_cons (lo := (a : Int)) (hi := (m : Int) - 1) (by omega), List.flatMap_cons, List.foldl_append]
 rfl
theorem lsFrom_end (T : Int) (R : List S66) (hs : List S60) (p m : Nat) (n : Int) : lsFrom T R hs p m m n = n := by
 unfold lsFrom
 rw [irange_nil (lo := (m : Int)) (hi := (m : Int) - 1) (by omega)]
 rfl
theorem mn_min (a : Int) (b : Nat) : mn a (b : Int) = min a (b : Int) := by unfold mn; omega
section
variable (T O L : Int) (m : Nat) (R : List S66) (hs : List S60) (hS : okScale T O L R = true) (hH : okHeard L R hs = true) (hm : T * O = (m : Int)) (hm' : m ≤ 21)
include hS hH hm hm'
theorem least_l2 (p : Nat) (hp : (p : Int) < L / 2) (all : Int) (a : Nat) (ha : a < m) (K0 : Nat) (h300 : 300 ≤ K0) (Fc : Int → Int) (hc : ∀ (k : Nat) (n : Int), K0 ≤ k → 0 ≤ n → n ≤ 20 → saronref06_Least.l1 k hs all (p : Int) n ((a + 1 : Nat) : Int) T O L R = some (Fc n, 0)) (d : Nat) :
  ∀ (k b : Nat) (n : Int), m - b = d → b ≤ m → 0 ≤ n → n ≤ 20 → K0 + d + 1 ≤ k → saronref06_Least.l2 k hs all (p : Int) n (a : Int) (b : Int) T O L R = some (Fc (lsRow T R hs p m a b n), 0) := by
 induction d with
 | zero =>
  intro k b n hd hb h0 h1 hk
  obtain ⟨k, rfl⟩ : ∃ z, k = z + 1 := ⟨k - 1, by omega⟩
  obtain rfl : b = m := by omega
  simp only [saronref06_Least.l2]
  rw [tones_f T O L R b hm hm', Option.bind_some, if_neg (by omega), up1 a (by omega), hc k n (by omega) h0 h1, lsRow_end]
 | succ d ih =>
  intro k b n hd hb h0 h1 hk
  obtain ⟨k, rfl⟩ : ∃ z, k = z + 1 := ⟨k - 1, by omega⟩
  simp only [saronref06_Least.l2]
  rw [tones_f T O L R m hm hm', Option.bind_some, if_pos (by omega), otherwise_f T O L a b p R hs hS hH hp (by omega) (by omega) (by omega) (by omega) k (by omega), Option.bind_some, up1 b (by omega), mn_min, ih k (b + 1) _ (by omega) (by omega) (by omega) (by omega) (by omega), lsRow_cons T R hs p m a b n (by omega)]
theorem least_l1 (p : Nat) (hp : (p : Int) < L / 2) (all : Int) (K0 : Nat) (h300 : 300 ≤ K0) (Fc : Int → Int) (hc : ∀ (k : Nat) (n : Int), K0 ≤ k → 0 ≤ n → n ≤ 20 → saronref06_Least.l0 k hs (wrap64 (all + n)) ((p + 1 : Nat) : Int) T O L R = some (Fc n, 0)) (d : Nat) :
  ∀ (k a : Nat) (n : Int), m - a = d → a ≤ m → 0 ≤ n → n ≤ 20 → K0 + 30 * d + 1 ≤ k → saronref06_Least.l1 k hs all (p : Int) n (a : Int) T O L R = some (Fc (lsFrom T R hs p m a n), 0) := by
 obtain ⟨t1, t2, t3, t4, t5, t6, t7, t8, t9, hok⟩ := okScale_regs hS
 induction d with
 | zero =>
  intro k a n hd ha h0 h1 hk
  obtain ⟨k, rfl⟩ : ∃ z, k = z + 1 := ⟨k - 1, by omega⟩
  obtain rfl : a = m := by omega
  simp only [saronref06_Least.l1]
  rw [tones_f T O L R a hm hm', Option.bind_some, if_neg (by omega), up1 p (by omega), hc k n (by omega) h0 h1, lsFrom_end]
 | succ d ih =>
  intro k a n hd ha h0 h1 hk
  obtain ⟨k, rfl⟩ : ∃ z, k = z + 1 := ⟨k - 1, by omega⟩
  have h2 := least_l2 T O L m R hs hS hH hm hm' p hp all a (by omega) (K0 + 30 * d + 1) (by omega) (fun n => Fc (lsFrom T R hs p m (a + 1) n)) (fun k n hk h0 h1 => ih k (a + 1) n (by omega) (by omega) h0 h1 hk) m k 0 n (Nat.sub_zero _) (Nat.zero_le _) h0 h1 (by omega)
  simp only [saronref06_Least.l1]
  rw [tones_f T O L R m hm hm', Option.bind_some, if_pos (by omega), lsFrom_cons T R hs p m a n (by omega)]
  exact h2
theorem leastAt_eq (p : Nat) : leastAt T O R hs (p : Int) = lsFrom T R hs p m 0 (miss T R hs (p : Int) 0 0 : Int) := by
 unfold leastAt lsFrom pairsOf
 rw [hm]
 rfl
set_option maxRecDepth 20000 in
theorem least_l0 (d : Nat) : ∀ (k p : Nat) (all : Int), (L / 2).toNat - p = d → (p : Int) ≤ L / 2 → 0 ≤ all → all ≤ 20 * (p : Int) → 300 + 700 * d + 1 ≤ k →
  saronref06_Least.l0 k hs all (p : Int) T O L R = some (all + ((irange (p : Int) (L / 2 - 1)).map (leastAt T O R hs)).sum, 0) := by
 obtain ⟨t1, t2, t3, t4, t5, t6, t7, t8, t9, hok⟩ := okScale_regs hS
 obtain ⟨hh5, hh⟩ := okHeard_get hH
 have hdv : wrap64 (Int.tdiv L 2) = L / 2 := by rw [Int.tdiv_eq_ediv_of_nonneg (by omega)]; exact w64 (by omega) (by omega)
 induction d with
 | zero =>
  intro k p all hd hp h0 h1 hk
  obtain ⟨k, rfl⟩ : ∃ z, k = z + 1 := ⟨k - 1, by omega⟩
  simp only [saronref06_Least.l0]
  rw [hdv]
  clear hdv
  rw [if_neg (by omega), irange_nil (by omega)]
  simp
 | succ d ih =>
  intro k p all hd hp h0 h1 hk
  obtain ⟨k, rfl⟩ : ∃ z, k = z + 1 := ⟨k - 1, by omega⟩
  simp only [saronref06_Least.l0]
  rw [hdv]
  clear hdv
  have h2 := least_l1 T O L m R hs hS hH hm hm' p (by omega) all (300 + 700 * d + 1) (by omega) (fun n => all + n + ((irange ((p + 1 : Nat) : Int) (L / 2 - 1)).map (leastAt T O R hs)).sum) (fun k n hk h0 h1 => by
   rw [w64 (by omega) (by omega)]
   exact ih k (p + 1) (all + n) (by omega) (by omega) (by omega) (by omega) hk) m k 0 (miss T R hs (p : Int) 0 0 : Int) (Nat.sub_zero _) (Nat.zero_le _) (Int.natCast_nonneg _) (miss20 T R (p : Int) 0 0 hs hh5) (by omega)
  rw [if_pos (by omega), otherwise_f T O L 0 0 p R hs hS hH (by omega) (by omega) (by omega) (by omega) (by omega) k (by omega), Option.bind_some]
  refine h2.trans ?_
  rw [irange_cons (lo := (p : Int)) (hi := L / 2 - 1) (by omega), List.map_cons, List.sum_cons, leastAt_eq T O L m R hs hS hH hm hm' p, Int.add_assoc]
  rfl
end
theorem rLeast_f (T O L : Int) (R : List S66) (hs : List S60) (hR : R.length ≤ 9223372036854775807) (hl : Lens hs) (k : Nat) (hk : askFuel hs + 2 * R.length + 11000 ≤ k) : saronref06_Least.f k T O L R hs = some (Least T O L R hs) := by
 unfold saronref06_Least.f Least
 rw [asked_f T O L R hs hR hl k (by omega), Option.bind_some]
 cases hS : okScale T O L R
 ·rfl
 cases hH : okHeard L R hs
 ·rfl
 obtain ⟨t1, t2, t3, t4, t5, t6, t7, t8, t9, hok⟩ := okScale_regs hS
 have mr := mul_range t1 t2 t3 t4
 obtain ⟨m, hm⟩ : ∃ m : Nat, T * O = (m : Int) := Int.eq_ofNat_of_zero_le (by omega)
 have h := least_l0 T O L m R hs hS hH hm (by omega) (L / 2).toNat k 0 0 (Nat.sub_zero _) (by omega) (by omega) (by omega) (by omega)
 rw [if_pos rfl, if_pos rfl, if_pos rfl]
 refine h.trans ?_
 rw [Int.zero_add]
 rfl
theorem rdL4 (l : List (List Int)) (i : Nat) (h : i < l.length) : rd_L4 l (i : Int) = l[i] := by
 unfold rd_L4
 simp [h]
theorem equalRows_l0 (l : List (List Int)) (hl : l.length ≤ 1000) (hs : ∀ x ∈ l, x.length ≤ 1000) (d : Nat) : ∀ (k i : Nat), l.length - i = d → i ≤ l.length → d + 1100 ≤ k → saronref00_EqualRows.l0 k l l true (i : Int) = some true := by
 induction d with
 | zero =>
  intro k i hd hi hk
  obtain ⟨k, rfl⟩ : ∃ z, k = z + 1 := ⟨k - 1, by omega⟩
  simp only [saronref00_EqualRows.l0, if_true]
  rw [if_neg (by omega)]
 | succ d ih =>
  intro k i hd hi hk
  obtain ⟨k, rfl⟩ : ∃ z, k = z + 1 := ⟨k - 1, by omega⟩
  have hlt : i < l.length := by omega
  have hx := hs l[i] (List.getElem_mem hlt)
  simp only [saronref00_EqualRows.l0, if_true]
  rw [if_pos (by omega), if_pos (by omega), if_pos (by omega), rdL4 l i hlt, equal_self _ (by omega) k (by omega), Option.bind_some, up1 i (by omega)]
  exact ih k (i + 1) (by omega) (by omega) (by omega)
theorem equalRows_self (l : List (List Int)) (hl : l.length ≤ 1000) (hs : ∀ x ∈ l, x.length ≤ 1000) (k : Nat) (hk : 2200 ≤ k) : saronref00_EqualRows.f k l l = some true := by
 unfold saronref00_EqualRows.f
 rw [beq_self_eq_true]
 exact equalRows_l0 l hl hs l.length k 0 (Nat.sub_zero _) (Nat.zero_le _) (by omega)
theorem askedErr_zero {T O L : Int} {R : List S66} {hs : List S60} {right : Bool} (h : askedErr T O L R hs right = 0) : okScale T O L R = true ∧ okHeard L R hs = true ∧ right = true ∧ canAll T O L R hs = true := by
 unfold askedErr at h
 split at h
 ·split at h
  ·split at h
   ·split at h
    ·exact ⟨by assumption, by assumption, by assumption, by assumption⟩
    ·omega
   ·omega
  ·omega
 ·omega
theorem Won_len (T O L : Int) (R : List S66) (hs : List S60) : (Won T O L R hs).1.length ≤ 100 := by
 unfold Won
 split
 ·rename_i h
  obtain ⟨t1, t2, t3, t4, t5, t6, t7, t8, t9, hok⟩ := okScale_regs (askedErr_zero h).1
  split
  ·simp
  ·show (wonOf T O L R hs).length ≤ 100
   unfold wonOf
   rw [List.length_flatMap]
   have two : ∀ (f : Int → Nat) (l : List Int), (∀ x, f x = 2) → (l.map f).sum = 2 * l.length := fun f l hf => by
    induction l with
    | nil => rfl
    | cons x l ih =>
     rw [List.map_cons, List.sum_cons, ih, List.length_cons, hf]
     omega
   rw [two _ _ (fun x => by split <;> rfl), irange_length]
   omega
 ·simp
theorem Filled_len (T O L : Int) (R : List S66) (hs : List S60) : (Filled T O L R hs).1.length ≤ 1000 ∧ ∀ x ∈ (Filled T O L R hs).1, x.length ≤ 1000 := by
 unfold Filled
 split
 ·rename_i h
  obtain ⟨hS, hH, _, _⟩ := askedErr_zero h
  obtain ⟨t1, t2, t3, t4, t5, t6, t7, t8, t9, hok⟩ := okScale_regs hS
  obtain ⟨hh5, hh⟩ := okHeard_get hH
  refine ⟨by show (hs.map _).length ≤ 1000; rw [List.length_map]; omega, fun x hx => ?_⟩
  have hx' : x ∈ hs.map (fillOf T O R hs) := hx
  rw [List.mem_map] at hx'
  obtain ⟨y, hy, rfl⟩ := hx'
  obtain ⟨i, hi, rfl⟩ := List.getElem_of_mem hy
  obtain ⟨g1, g2, g3, g4⟩ := hh i hi
  have hwl := width_le (regAt R hs[i].f0)
  have : L / 2 * (width (regAt R hs[i].f0) : Int) ≤ 8 * 4 := Int.mul_le_mul (by omega) (by omega) (by omega) (by omega)
  rw [fillOf_eq, List.length_map, List.length_range]
  omega
 ·simp
theorem won_law (T O L : Int) (R : List S66) (hs : List S60) (hR : R.length ≤ 9223372036854775807) (hl : Lens hs) (k : Nat) (hk : askFuel hs + 2 * R.length + 11010 ≤ k) :
  saronlaw06_KernelWon.f k T O L R hs = some true := by
 have hcl := Won_len T O L R hs
 obtain ⟨hf1, hf2⟩ := Filled_len T O L R hs
 obtain ⟨k, rfl⟩ : ∃ z, k = z + 2 := ⟨k - 2, by omega⟩
 unfold saronlaw06_KernelWon.f kernel_Won.f
 rw [Option.bind_some, rWon_f T O L R hs hR hl (k + 2) (by omega), Option.bind_some, equal_self _ (by omega) (k + 2) (by omega), Option.bind_some, if_pos rfl, bne_self_eq_false]
 simp only [saronlaw06_KernelWon.j0, kernel_Filled.f, Option.bind_some]
 rw [if_neg (by simp), rFilled_f T O L R hs hR hl (k + 1) (by omega), Option.bind_some, equalRows_self _ hf1 hf2 (k + 1) (by omega), Option.bind_some, if_pos rfl, bne_self_eq_false]
 simp only [saronlaw06_KernelWon.j1, kernel_Least.f, Option.bind_some]
 rw [if_neg (by simp), rLeast_f T O L R hs hR hl k (by omega), Option.bind_some, if_pos rfl, if_pos rfl]
 rfl
end Go.Proofs.YtagkfkdoibnhfaaDoor.K
end
section
namespace Go.Proofs.YtagkfkdoibnhfaaDoor.kernelWon
open Go.ChangeShapes Go.WideShapes Go.ChangeAt Go.RowKit Go.Proofs.YtagkfkdoibnhfaaDoorW.PrintWords Go.Proofs.YtagkfkdoibnhfaaDoor.H Go.Proofs.YtagkfkdoibnhfaaDoor.K
set_option linter.unusedVariables false
theorem own : ownKnob Tryd.prog.godebug = none := by kernel_rfl
theorem laidOut : laidOutB Tryd.prog = true := by kernel_rfl
theorem door_met (os : Os) (args : Array Value) : laidMetH Tryd.prog laid1 ((World.doorLaid Tryd.prog 600 os).forCall (fun _ _ => 0) ⟨#[], args, []⟩).memory :=
 laidMetH_of_parts3 (fuel := 8) (laidMet_of_run' 8 zk zk) zk zk
set_option maxRecDepth 100000 in
set_option maxHeartbeats 2000000 in
theorem lifted (os : Os) (started : os.Started) (H : Type) (enc : TypeId × Value → H) :
  ReturnsInHanded {} Tryd.checked os 5 .any (fun w args => (Rows.kernelWonSpec.pre enc Tryd.prog Tryd.f5 [] false w args ∧ laidMetH Tryd.prog laid1 w) ∧ sizedMet enc Tryd.prog Tryd.f5 (OpenSpec.ofChange Rows.kernelWonSpec) false w args)
   (Rows.kernelWonSpec.post enc Tryd.prog Tryd.f5 false true false false) := by
 refine returnsInHanded_of_change_and (C := Tryd.checked) (X := fun w _ => laidMetH Tryd.prog laid1 w) (fun _ _ _ hh h => h.of_heap hh) own started zk Tryd.func5
  (ChangeSpec.witness_shaped (enc := enc) (C := Tryd.checked) (os := os) (X := fun w _ => laidMetH Tryd.prog laid1 w) false (World.doorLaid Tryd.prog 600 os) #[.agg #[.int .i64 0, .int .i64 0, .int .i64 0, .slice none 0 0], .slice none 0 0] 8 rfl (World.shaped_of_RefB zk zk) zk zk zk (door_met os _)) ?_
 intro W base args ds gs before hval0 hW _ _ hL _
 have hval : ∀ (j : Nat) t v, Tryd.f5.params[j]? = some t → args[j]? = some v → Value.okWide Tryd.prog W .any base t v := hval0
 have hW' := hW
 obtain ⟨p, q, hA0, hV, rfl, hfz, hnd⟩ := hW
 have hA : DataW.TrodAll enc Tryd.prog W 0 (fun _ => true) true Tryd.f5.params.toList args.toList ds p := hA0
 rw [Tryd.params5] at hA hval
 obtain ⟨v0, vs0, d0, ds0, p0, q0, hargs, rfl, rfl, h0, r0⟩ := trodAll_cons hA
 obtain ⟨v1, vs1, d1, ds1, p1, q1, rfl, rfl, rfl, h1, r1⟩ := trodAll_cons r0
 obtain ⟨rfl, rfl, rfl⟩ := trodAll_nil r1
 obtain rfl : args = #[v0, v1] := by cases args; simp_all
 obtain ⟨rfl, rfl⟩ := trodVars_none hV
 have k0 := h0
 have lt0 : ∀ x ∈ p0, x.block < W.heap.size := by obtain ⟨m, hm⟩ := k0; exact DataW.trod_lt m _ _ _ hm
 obtain ⟨T0, O0, L0, A0, R0, c0, rfl, hc0, hC0, iT0, iO0, iL0, sR0, iR0⟩ := arg_scale (hval 0 24 v0 rfl rfl) h0
 have k1 := h1
 have lt1 : ∀ x ∈ p1, x.block < W.heap.size := by obtain ⟨m, hm⟩ := k1; exact DataW.trod_lt m _ _ _ hm
 obtain ⟨A1, l1, c1, rfl, hc1, hC1, s1, i1⟩ := arg_heard (hval 1 33 v1 rfl rfl) h1
 clear hA0 hval0
 have hG := glob_of_laid hL
 refine (saronlaw06_KernelWon.calls (askFuel l1 + 2 * R0.length + 11010) T0 O0 L0 A0 c0 R0 A1 c1 l1 true W hC0 hc0 hC1 hc1 hG (won_law T0 O0 L0 R0 l1 sR0 ⟨s1, fun h hh => (i1 h hh).2.1⟩ _ (Nat.le_refl _))).mono fun e W' ⟨he, bel⟩ => ?_
 subst he
 exact ⟨_, rfl, _, _, _, [], _, [], hW', trodAll_mk1 (shut_bool Tryd.underlying4 _), (trodAll_cons_mk (Below.trod laidOut zk (of_decide_eq_true zk) k0 bel lt0) (trodAll_cons_mk (Below.trod laidOut zk (of_decide_eq_true zk) k1 bel lt1) trodAll_mk0)), rfl, bel.frame _, fun h => by cases h⟩
theorem over : Rows.kernelWonRow.holds Tryd.pinned (OpenSpec.ofChange Rows.kernelWonSpec) :=
 OpenClaim.holds_of_wide 5 Tryd.f5 rfl rfl rfl rfl rfl rfl rfl ⟨rfl, rfl, rfl, rfl, rfl⟩ rfl rfl rfl rfl rfl zk Tryd.func5 zk
  (of_decide_eq_true zk) (by unfold Func.isWrapper; first | (rw [if_pos (by decide +kernel)]; kernel_rfl) | (rw [if_neg (by decide +kernel)]; exact ⟨rfl, rfl⟩))
  (fun os started H enc _ => lifted os started H enc)
theorem proved : Rows.KernelWonCardSaid :=
 Claim7.holds_tied_plain_at .later [] [.funcs] true (true, "1546f209dbcbef264cbb20aea537f6d5569935ba401e115858a8843598e79524") false
  over (fun _ h => by cases h) zk (fun _ h => by cases h) kernelWon_row_tie rfl ⟨rfl, rfl⟩ zk rfl
  (fun f fn hf hfn => by
   obtain rfl : f = 5 := Option.some.inj ((show Tryd.prog.funcNamed "saron/saronlaw06.KernelWon" = some 5 by kernel_rfl).symm.trans hf) |>.symm
   obtain rfl : fn = Tryd.f5 := (Option.some.inj (Tryd.func5.symm.trans hfn)).symm
   exact ⟨by kernel_rfl, fun j t ht => by
    rw [Tryd.params5] at ht
    have hm : t ∈ [24, 33] := by simpa using Array.mem_of_getElem? ht
    have hall : ([24, 33].all fun u => !Tryd.prog.wantsStandIn u) = true := by kernel_rfl
    exact (show Tryd.prog.wantsStandIn t = false by simpa using List.all_eq_true.1 hall t hm)⟩)
  zk
end Go.Proofs.YtagkfkdoibnhfaaDoor.kernelWon
namespace Go.Proofs.YtagkfkdoibnhfaaDoor
theorem kernelWon_card : Rows.KernelWonCardSaid := kernelWon.proved
end Go.Proofs.YtagkfkdoibnhfaaDoor
end
