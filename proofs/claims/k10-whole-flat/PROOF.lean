import PyProof.Rows.All
import Wide.All
import OpenK.AllK
import Wide.FinOn
import Lean
import KE.KIsAll
import HandS.ForMost
import HandS.ForExc
import HandS.Evl
import HandS.Wide
import HandS.IsInst
import HandS.ExcIs
import HandS.Zip
import HandS.Conv
import HandS.Defaults
import HandS.HotCalls
import HandS.SuiteRaise
import HandS.Head0
import HandS.Head1
import HandS.Head2
import HandS.HeadEnd
import HandS.HeadHook1
import HandS.HeadHook2
import PySem.Challenge.RW_signsums_k10_whole_flat
set_option Elab.async false
set_option linter.all false
set_option maxRecDepth 100000
set_option maxHeartbeats 4000000
namespace Sg
open PySem PySem.Spec PyProof.Rows L2 Evl
/-! ### the readings' short names -/
abbrev rAddI : R2 := rI0 fun i j => .int (i + j)
abbrev rSubI : R2 := rI0 fun i j => .int (i - j)
abbrev rMulI : R2 := rI CMulW fun i j => .int (i * j)
abbrev rModI : R2 := rI (fun _ j => 0 < j) fun i j => .int (i % j)
abbrev rDivI : R2 := rI CDiv fun i j => .int (i / j)
abbrev rPowI : R2 := rI CPow fun i j => .int (i ^ j.toNat)
abbrev rNegI : V → Hp → VK → Prop := rU fun i => .int (-i)
abbrev rLtI : R2 := rI0 fun i j => .bl (decide (i < j))
abbrev rLeI : R2 := rI0 fun i j => .bl (decide (i ≤ j))
abbrev rGtI : R2 := rI0 fun i j => .bl (decide (j < i))
abbrev rGeI : R2 := rI0 fun i j => .bl (decide (j ≤ i))
abbrev rIsNo : R2 := fun x y H Q => y = .non ∧ Q (.bl (decide (x = .non))) H
abbrev rAddStr : R2 := fun x y H Q => ∃ i j, x = .str i ∧ y = .str j ∧ i.length + j.length ≤ sizeLine ∧ Q (.str (i ++ j)) H
abbrev rAbs : List V → Hp → VK → Prop := fun xs H Q => ∃ i, xs = [.int i] ∧ Q (.int (if i < 0 then -i else i)) H
abbrev rInt1 : List V → Hp → VK → Prop := fun xs H Q => (∃ i, xs = [.int i] ∧ Q (.int i) H) ∨ ∃ k, xs = [.bl k] ∧ Q (.int (if k then 1 else 0)) H
abbrev rIntStr : List V → Hp → VK → Prop := fun xs H Q => ∃ a n, xs = [.str a] ∧ PySem.intText? a = some n ∧ a.length ≤ 640 ∧ Q (.int n) H
abbrev rStrInt : List V → Hp → VK → Prop := fun xs H Q => ∃ i, xs = [.int i] ∧ i.natAbs.log2 < 1920 ∧ Q (.str (toString i)) H
abbrev rLenStr : List V → Hp → VK → Prop := fun xs H Q => ∃ z, xs = [.str z] ∧ z.length ≤ sizeLine ∧ Q (.int z.length) H
/-- raise of an own class -/
def tRz (E : XK) (C : Addr) : TS := fun _ _ H => E (.ref C) none H
/-! ### an own class of errors, as the head tells it -/
structure XOk (K : PySem.W.Frag) (C : Addr) : Prop where
  ok : PySem.W.excIn K C [.type "ValueError", .type "Exception", .type "BaseException", .type "object"] "ValueError.__new__" = true
  kp : PySem.W.keepIn K (.ref C) = true
  sb : PySem.W.subIn K (.ref C) (.type "BaseException") = some true
  ty : PySem.W.typeIn K (.ref C) = some (.type "type")
end Sg
namespace Sg
open PySem PySem.Spec PyProof.Rows L2 Evl
/-! ### rows -/
def IsRow (ns : List Int) : Prop := ns.length ∈ [1, 2, 4, 8, 16, 32] ∧ ∀ x ∈ ns, -100000000000000000000 ≤ x ∧ x ≤ 100000000000000000000
/-- the sum of the first n values -/
def sm (n : Nat) (f : Nat → Int) : Int := ((List.range n).map f).sum
/-- the sign of a place by a choice, as the law reckons it -/
def sgStep (p c : Int) (f w : Int) : Int := if p / w % 2 = 1 ∧ c / w % 2 = 1 then 0 - f else f
def sg (p c : Int) : Int := [1, 2, 4, 8, 16].foldl (sgStep p c) 1
def sumAt (ns : List Int) (c : Nat) : Int := sm ns.length fun p => sg p c * ns.getD p 0
def sumsL (ns : List Int) : List Int := (List.range ns.length).map (sumAt ns)
/-! ### the law's draws -/
def cellAt (ns : List Int) (k : Nat) : Int := ns.getD k 0
def lawNext (s : Int) : Int := ((s + 7919) % 2147483647 * ((s + 7919) % 2147483647) + 48271 * ((s + 7919) % 2147483647) + 12345) % 2147483629
def num1 (cell way great : Int) : Int := if way / 4 % 2 = 1 then (cell / 7 % 2000001 - 1000000) * great + (1 - 2 * (if cell / 7 % 2000001 - 1000000 < 0 then 1 else 0)) * (cell / 64 % great) else cell / 7 % 2000001 - 1000000
def num2 (cell way x : Int) : Int := if way % 4 = 0 then 1 - 2 * (cell / 7 % 2) else x
def num3 (cell way x : Int) : Int := if way % 4 = 1 then cell / 7 % 9 - 4 else x
def num4 (cell way x : Int) : Int := if way % 4 = 3 ∧ 0 < cell / 14000007 % 3 then 0 else x
def lawNum (cell way great : Int) : Int := num4 cell way (num3 cell way (num2 cell way (num1 cell way great)))
/-- the cell behind i turns -/
def lawCell (cell : Int) : Nat → Int
  | 0 => cell
  | i + 1 => lawNext (lawCell cell i % 1000003 + 31 * (i : Int))
def lawRow (cell : Int) (n : Nat) (way great : Int) : List Int := (List.range n).map fun i => lawNum (lawCell cell (i + 1)) way great
end Sg
namespace Sg
theorem sg_abs_aux (p c : Int) : ∀ (l : List Int) (f : Int), f.natAbs = 1 → (l.foldl (sgStep p c) f).natAbs = 1
  | [], _, h => h
  | w :: l, f, h => by
    refine sg_abs_aux p c l _ ?_
    unfold sgStep
    split <;> omega
theorem sg_abs1 (p c : Int) : (sg p c).natAbs = 1 := sg_abs_aux p c _ 1 rfl
theorem sg_abs (p c : Int) : (sg p c).natAbs < 2 ^ 2 := by rw [sg_abs1]; decide
end Sg
namespace Sg
theorem lawNext_bd (s : Int) : 0 ≤ lawNext s ∧ lawNext s < 2147483629 := by
  unfold lawNext
  omega
theorem lawCell_bd (c : Int) (i : Nat) : 0 ≤ lawCell c (i + 1) ∧ lawCell c (i + 1) < 2147483629 := lawNext_bd _
theorem lawRow_length (c : Int) (n : Nat) (w g : Int) : (lawRow c n w g).length = n := by
  unfold lawRow
  rw [List.length_map, List.length_range]
theorem pow_cases {s : Nat} (h : s ≤ 5) : s = 0 ∨ s = 1 ∨ s = 2 ∨ s = 3 ∨ s = 4 ∨ s = 5 := by omega
end Sg
namespace Sg
/-! ### how great the law's numbers are -/
theorem num1_bd {cell way g : Int} (hc : 0 ≤ cell) (hg : 0 < g) : -(1000001 * g) ≤ num1 cell way g ∧ num1 cell way g ≤ 1000001 * g := by
  unfold num1
  have z0 : -1000000 ≤ cell / 7 % 2000001 - 1000000 ∧ cell / 7 % 2000001 - 1000000 ≤ 1000000 := by omega
  generalize cell / 7 % 2000001 - 1000000 = n at z0
  have z1 := Int.emod_nonneg (cell / 64) (show g ≠ 0 by omega)
  have z2 := Int.emod_lt_of_pos (cell / 64) hg
  generalize cell / 64 % g = r at z1 z2
  have h1 : n * g ≤ 1000000 * g := Int.mul_le_mul_of_nonneg_right z0.2 (by omega)
  have h2 : (-1000000) * g ≤ n * g := Int.mul_le_mul_of_nonneg_right z0.1 (by omega)
  generalize n * g = m at h1 h2
  split
  · split
    · rw [show (1 - 2 * 1 : Int) = -1 from rfl]
      omega
    · omega
  · omega
theorem lawNum_bd {cell way g : Int} (hc : 0 ≤ cell) (hg : 0 < g) : -(1000001 * g) ≤ lawNum cell way g ∧ lawNum cell way g ≤ 1000001 * g := by
  have h1 := num1_bd (way := way) hc hg
  unfold lawNum num4 num3 num2
  generalize num1 cell way g = n at h1
  have a1 : 0 ≤ cell / 7 % 2 ∧ cell / 7 % 2 ≤ 1 := by omega
  have a2 : 0 ≤ cell / 7 % 9 ∧ cell / 7 % 9 ≤ 8 := by omega
  repeat' split
  all_goals omega
theorem lawRow_bd {c way g : Int} {n : Nat} (hg : 0 < g) : ∀ x ∈ lawRow c n way g, -(1000001 * g) ≤ x ∧ x ≤ 1000001 * g := by
  intro x hx
  unfold lawRow at hx
  obtain ⟨i, _, rfl⟩ := List.mem_map.mp hx
  exact lawNum_bd (lawCell_bd c i).1 hg
theorem pow_mem {s : Nat} (h : s ≤ 5) : 2 ^ s ∈ [1, 2, 4, 8, 16, 32] := by
  rcases pow_cases h with rfl | rfl | rfl | rfl | rfl | rfl <;> decide
theorem lawRow_isRow {c way g : Int} {s : Nat} (hs : s ≤ 5) (hg : 0 < g) (hb : 1000001 * g ≤ 100000000000000000000) : IsRow (lawRow c (2 ^ s) way g) := by
  refine ⟨by rw [lawRow_length]; exact pow_mem hs, fun x hx => ?_⟩
  have := lawRow_bd hg x hx
  omega
/-- sums are as long as the row -/
theorem sumsL_length (ns : List Int) : (sumsL ns).length = ns.length := by
  unfold sumsL
  rw [List.length_map, List.length_range]
/-- the law's steps: a rest by n, and one more -/
theorem steps_at (i j : Int) (n : Nat) (hn : 0 < n) : ∃ s : Nat, s ≤ n ∧ i % (n : Int) + (if decide (j % 6 = 1) = true then 1 else 0) = (s : Int) := by
  have h1 := Int.emod_nonneg i (show (n : Int) ≠ 0 by omega)
  have h2 := Int.emod_lt_of_pos i (show (0 : Int) < n by omega)
  refine ⟨(i % (n : Int) + (if decide (j % 6 = 1) = true then 1 else 0)).toNat, ?_, ?_⟩ <;> split <;> omega
end Sg
namespace Sg
/-! ### sums -/
theorem sm_zero (f : Nat → Int) : sm 0 f = 0 := rfl
theorem sum_append1 (l : List Int) (x : Int) : (l ++ [x]).sum = l.sum + x := by
  induction l with
  | nil => simp
  | cons a l ih => rw [List.cons_append, List.sum_cons, List.sum_cons, ih]; omega
theorem sm_succ (n : Nat) (f : Nat → Int) : sm (n + 1) f = sm n f + f n := by
  unfold sm
  rw [List.range_succ, List.map_append]
  exact sum_append1 _ _
theorem sm_congr {n : Nat} {f g : Nat → Int} (h : ∀ i, i < n → f i = g i) : sm n f = sm n g := by
  induction n with
  | zero => rfl
  | succ n ih => rw [sm_succ, sm_succ, ih fun i hi => h i (by omega), h n (by omega)]
theorem sm_add (n : Nat) (f g : Nat → Int) : sm n (fun i => f i + g i) = sm n f + sm n g := by
  induction n with
  | zero => rfl
  | succ n ih => rw [sm_succ, sm_succ, sm_succ, ih]; omega
theorem sm_sub (n : Nat) (f g : Nat → Int) : sm n (fun i => f i - g i) = sm n f - sm n g := by
  induction n with
  | zero => rfl
  | succ n ih => rw [sm_succ, sm_succ, sm_succ, ih]; omega
theorem sm_mulL (n : Nat) (a : Int) (f : Nat → Int) : sm n (fun i => a * f i) = a * sm n f := by
  induction n with
  | zero => rw [sm_zero, sm_zero, Int.mul_zero]
  | succ n ih => rw [sm_succ, sm_succ, ih, Int.mul_add]
theorem sm_mulR (n : Nat) (a : Int) (f : Nat → Int) : sm n (fun i => f i * a) = sm n f * a := by
  rw [Int.mul_comm, ← sm_mulL]
  exact sm_congr fun i _ => Int.mul_comm _ _
theorem sm_const0 (n : Nat) : sm n (fun _ => 0) = 0 := by
  induction n with
  | zero => rfl
  | succ n ih => rw [sm_succ, ih] <;> rfl
theorem sm_swap (n m : Nat) (f : Nat → Nat → Int) : sm n (fun i => sm m (fun j => f i j)) = sm m (fun j => sm n (fun i => f i j)) := by
  induction n with
  | zero => rw [sm_zero, show sm m (fun j => sm 0 fun i => f i j) = sm m (fun _ => 0) from rfl, sm_const0]
  | succ n ih =>
    rw [sm_succ, ih, ← sm_add]
    exact sm_congr fun j _ => (sm_succ n fun i => f i j).symm
theorem sm_delta (n : Nat) (f : Nat → Int) (j : Nat) : sm n (fun p => f p * (if p = j then 1 else 0)) = if j < n then f j else 0 := by
  induction n with
  | zero => rw [sm_zero, if_neg (by omega)]
  | succ n ih =>
    rw [sm_succ, ih]
    by_cases h : n = j
    · rw [if_pos h, h, if_neg (by omega), if_pos (by omega)]; omega
    · rw [if_neg h]
      by_cases h2 : j < n
      · rw [if_pos h2, if_pos (by omega)]; omega
      · rw [if_neg h2, if_neg (by omega)]; omega
theorem sm_split (n m : Nat) (f : Nat → Int) : sm (n + m) f = sm n f + sm m (fun i => f (n + i)) := by
  induction m with
  | zero => rw [sm_zero, Nat.add_zero]; omega
  | succ m ih => rw [← Nat.add_assoc, sm_succ, ih, sm_succ]; omega
/-! ### the program's steps -/
def stepAt (w : Nat) (f : Nat → Int) (j : Nat) : Int := if j / w % 2 = 0 then f j + f (j + w) else f (j - w) - f j
def fast : Nat → (Nat → Int) → Nat → Int
  | 0, f => f
  | k + 1, f => stepAt (2 ^ k) (fast k f)
theorem fast_lin (n : Nat) (a : Nat → Int) (d : Nat → Nat → Int) : ∀ k c, fast k (fun j => sm n fun p => a p * d p j) c = sm n fun p => a p * fast k (d p) c
  | 0, _ => rfl
  | k + 1, c => by
    have ih := fast_lin n a d k
    show stepAt (2 ^ k) (fast k (fun j => sm n fun p => a p * d p j)) c = _
    unfold stepAt
    by_cases h : c / 2 ^ k % 2 = 0
    · rw [if_pos h, ih, ih, ← sm_add]
      refine sm_congr fun p _ => ?_
      show _ = a p * stepAt (2 ^ k) (fast k (d p)) c
      unfold stepAt
      rw [if_pos h, Int.mul_add]
    · rw [if_neg h, ih, ih, ← sm_sub]
      refine sm_congr fun p _ => ?_
      show _ = a p * stepAt (2 ^ k) (fast k (d p)) c
      unfold stepAt
      rw [if_neg h, Int.mul_sub]
theorem fast_basis : ∀ s, s < 6 → ∀ p, p < 2 ^ s → ∀ c, c < 2 ^ s → fast s (fun j => if p = j then 1 else 0) c = sg p c := by decide +kernel
theorem fast_eq {s : Nat} (hs : s < 6) {f : Nat → Int} (hf : ∀ j, 2 ^ s ≤ j → f j = 0) {c : Nat} (hc : c < 2 ^ s) : fast s f c = sm (2 ^ s) fun p => sg p c * f p := by
  have e : f = fun j => sm (2 ^ s) fun p => f p * (if p = j then 1 else 0) := by
    funext j
    rw [sm_delta]
    by_cases h : j < 2 ^ s
    · rw [if_pos h]
    · rw [if_neg h, hf j (by omega)]
  have e2 := fast_lin (2 ^ s) f (fun p j => if p = j then 1 else 0) s c
  rw [← e] at e2
  rw [e2]
  exact sm_congr fun p hp => by rw [fast_basis s hs p hp c hc, Int.mul_comm]
theorem half_lt {s k j : Nat} (hs : s < 6) (hk : k < s) (hj : j < 2 ^ s) (h : j / 2 ^ k % 2 = 0) : j + 2 ^ k < 2 ^ s := by
  have z : ∀ s, s < 6 → ∀ k, k < s → ∀ j, j < 2 ^ s → j / 2 ^ k % 2 = 0 → j + 2 ^ k < 2 ^ s := by decide +kernel
  exact z s hs k hk j hj h
theorem odd_ge {k j : Nat} (h : ¬ j / 2 ^ k % 2 = 0) : 2 ^ k ≤ j := by
  refine Nat.le_of_not_lt fun q => h ?_
  rw [Nat.div_eq_of_lt q]
end Sg
namespace Sg
theorem pow_le' {s : Nat} (h : s < 6) : 2 ^ s ≤ 32 := by
  have z : ∀ s, s < 6 → 2 ^ s ≤ 32 := by decide
  exact z s h
end Sg
namespace Sg
theorem row_pos {ns : List Int} (h : IsRow ns) : 0 < ns.length ∧ ns.length ≤ 32 := by
  have := h.1
  simp only [List.mem_cons, List.not_mem_nil, or_false] at this
  omega
theorem row_len {ns : List Int} (h : IsRow ns) : ns.length ∈ [1, 2, 4, 8, 16, 32] := h.1
theorem pow_of_mem {n : Nat} (h : n ∈ [1, 2, 4, 8, 16, 32]) : ∃ s, s < 6 ∧ n = 2 ^ s := by
  simp only [List.mem_cons, List.not_mem_nil, or_false] at h
  rcases h with rfl | rfl | rfl | rfl | rfl | rfl
  · exact ⟨0, by decide, rfl⟩
  · exact ⟨1, by decide, rfl⟩
  · exact ⟨2, by decide, rfl⟩
  · exact ⟨3, by decide, rfl⟩
  · exact ⟨4, by decide, rfl⟩
  · exact ⟨5, by decide, rfl⟩
theorem pow_le32 {s : Nat} (h : s < 6) : 2 ^ s ≤ 32 ∧ 1 ≤ 2 ^ s := by
  have z : ∀ s, s < 6 → 2 ^ s ≤ 32 ∧ 1 ≤ 2 ^ s := by decide
  exact z s h
theorem ints_ext {L : List Int} {n : Nat} {f : Nat → Int} (hl : L.length = n) (h : ∀ j, j < n → L.getD j 0 = f j) : L = (List.range n).map f := by
  refine List.ext_getElem (by rw [List.length_map, List.length_range, hl]) fun k h1 h2 => ?_
  have z := h k (by omega)
  rw [List.getD_eq_getElem?_getD, List.getElem?_eq_getElem h1] at z
  rw [List.getElem_map, List.getElem_range]
  exact z
theorem getD_set {L : List Int} {k j : Nat} {v : Int} (hk : k < L.length) : (L.set k v).getD j 0 = if j = k then v else L.getD j 0 := by
  rw [List.getD_eq_getElem?_getD, List.getElem?_set, List.getD_eq_getElem?_getD]
  by_cases h : k = j
  · rw [if_pos h, if_pos (by omega), if_pos h.symm] <;> rfl
  · rw [if_neg h, if_neg (fun e => h e.symm)]
end Sg
namespace Sg
open PySem PySem.Spec PyProof.Rows L2 Evl
/-! ### promises -/
def sp_ask_row (K : PySem.W.Frag) : Sp := fun vs H Q E => ∃ (a : Addr) (ns : List Int), vs = [.ref a] ∧ SqL K H a (ns.map V.int) ∧
  (IsRow ns → ∀ H', Ex H H' → Q .non H') ∧ (¬ IsRow ns → ∀ H', Ex H H' → E (.ref (He.ga K "NoRow")) none H')
def sp_summed (K : PySem.W.Frag) : Sp := fun vs H Q _ => ∃ (a : Addr) (ns : List Int), vs = [.ref a] ∧ SqL K H a (ns.map V.int) ∧ ns.length ∈ [1, 2, 4, 8, 16, 32] ∧ RetL ((sumsL ns).map V.int) H Q
def sp_sums (K : PySem.W.Frag) : Sp := fun vs H Q E => ∃ (a : Addr) (ns : List Int), vs = [.ref a] ∧ SqL K H a (ns.map V.int) ∧
  (IsRow ns → RetL ((sumsL ns).map V.int) H Q) ∧ (¬ IsRow ns → ∀ H', Ex H H' → E (.ref (He.ga K "NoRow")) none H')
def sp_law_cell_at (K : PySem.W.Frag) : Sp := fun vs H Q _ => ∃ (a : Addr) (ns : List Int) (k : Nat), vs = [.ref a, .int k] ∧ SqL K H a (ns.map V.int) ∧ RetV (.int (cellAt ns k)) H Q
def sp_law_whole (K : PySem.W.Frag) : Sp := fun vs H Q _ => ∃ i : Int, vs = [.int i] ∧ RetV (.bl true) H Q
def sp_law_next (K : PySem.W.Frag) : Sp := fun vs H Q _ => ∃ i : Int, vs = [.int i] ∧ RetV (.int (lawNext i)) H Q
def sp_law_row (K : PySem.W.Frag) : Sp := fun vs H Q _ => ∃ (c : Int) (s : Nat) (w g : Int), vs = [.int c, .int s, .int w, .int g] ∧ s ≤ 5 ∧ 0 < g ∧ g < 1073741824 * 1073741824 ∧ RetL ((lawRow c (2 ^ s) w g).map V.int) H Q
def sp_law_sign (K : PySem.W.Frag) : Sp := fun vs H Q _ => ∃ (p c : Int), vs = [.int p, .int c] ∧ RetV (.int (sg p c)) H Q
def sp_law_sums (K : PySem.W.Frag) : Sp := fun vs H Q _ => ∃ (a : Addr) (ns : List Int), vs = [.ref a] ∧ SqL K H a (ns.map V.int) ∧ ns.length ≤ 32 ∧ (∀ x ∈ ns, x.natAbs < 2 ^ 100) ∧ RetL ((sumsL ns).map V.int) H Q
def sp_law_alike (K : PySem.W.Frag) : Sp := fun vs H Q _ => ∃ (a b : Addr) (ns ms : List Int), vs = [.ref a, .ref b] ∧ SqL K H a (ns.map V.int) ∧ SqL K H b (ms.map V.int) ∧ ns.length ≤ 1000 ∧ RetV (.bl (decide (ns = ms))) H Q
def sp_law (K : PySem.W.Frag) : Sp := fun vs H Q _ => ∃ (a : Addr) (ns : List Int), vs = [.ref a] ∧ SqL K H a (ns.map V.int) ∧ ns.length ≤ 63 ∧ ∀ H', Q (.bl true) H'
/-! ### how many arguments -/
theorem len_ask_row {K : PySem.W.Frag} : ∀ vs H Q E, sp_ask_row K vs H Q E → vs.length = 1 := fun _ _ _ _ h => by
  obtain ⟨_, _, rfl, _⟩ := h; rfl
theorem len_summed {K : PySem.W.Frag} : ∀ vs H Q E, sp_summed K vs H Q E → vs.length = 1 := fun _ _ _ _ h => by
  obtain ⟨_, _, rfl, _⟩ := h; rfl
theorem len_sums {K : PySem.W.Frag} : ∀ vs H Q E, sp_sums K vs H Q E → vs.length = 1 := fun _ _ _ _ h => by
  obtain ⟨_, _, rfl, _⟩ := h; rfl
theorem len_law_cell_at {K : PySem.W.Frag} : ∀ vs H Q E, sp_law_cell_at K vs H Q E → vs.length = 2 := fun _ _ _ _ h => by
  obtain ⟨_, _, _, rfl, _⟩ := h; rfl
theorem len_law_whole {K : PySem.W.Frag} : ∀ vs H Q E, sp_law_whole K vs H Q E → vs.length = 1 := fun _ _ _ _ h => by
  obtain ⟨_, rfl, _⟩ := h; rfl
theorem len_law_next {K : PySem.W.Frag} : ∀ vs H Q E, sp_law_next K vs H Q E → vs.length = 1 := fun _ _ _ _ h => by
  obtain ⟨_, rfl, _⟩ := h; rfl
theorem len_law_row {K : PySem.W.Frag} : ∀ vs H Q E, sp_law_row K vs H Q E → vs.length = 4 := fun _ _ _ _ h => by
  obtain ⟨_, _, _, _, rfl, _⟩ := h; rfl
theorem len_law_sign {K : PySem.W.Frag} : ∀ vs H Q E, sp_law_sign K vs H Q E → vs.length = 2 := fun _ _ _ _ h => by
  obtain ⟨_, _, rfl, _⟩ := h; rfl
theorem len_law_sums {K : PySem.W.Frag} : ∀ vs H Q E, sp_law_sums K vs H Q E → vs.length = 1 := fun _ _ _ _ h => by
  obtain ⟨_, _, rfl, _⟩ := h; rfl
theorem len_law_alike {K : PySem.W.Frag} : ∀ vs H Q E, sp_law_alike K vs H Q E → vs.length = 2 := fun _ _ _ _ h => by
  obtain ⟨_, _, _, _, rfl, _⟩ := h; rfl
theorem len_law {K : PySem.W.Frag} : ∀ vs H Q E, sp_law K vs H Q E → vs.length = 1 := fun _ _ _ _ h => by
  obtain ⟨_, _, rfl, _⟩ := h; rfl
end Sg
namespace Sg
open PySem PySem.Spec PyProof.Rows L2 Evl
/-! ### readings: more words over Evl -/
section
variable {K : PySem.W.Frag} {σ : L2.St} {H : Hp} {ta tb te : TE} {x y z v : V}
theorem map_at {ns : List Int} {k : Nat} (h : k < ns.length) : (ns.map V.int)[k]? = some (.int (ns.getD k 0)) := by
  rw [List.getElem?_map, List.getElem?_eq_getElem h, List.getD_eq_getElem?_getD, List.getElem?_eq_getElem h] <;> rfl
theorem at_map {ns : List Int} {k : Nat} {i : Int} (e : i = (k : Int)) (h : k < ns.length) : atI (ns.map V.int) i = some (.int (ns.getD k 0)) := by
  rw [e]; exact atI_nat (map_at h)
theorem rv_ixN {p : Addr} {ns : List Int} {k : Nat} {i : Int} (h : SqL K H p (ns.map V.int)) (e : i = (k : Int)) (hk : k < ns.length) : RV (rIxL K) (.ref p) (.int i) H (.int (ns.getD k 0)) := rv_ixL h (at_map e hk)
theorem ev_lenM {p : Addr} {ns : List Int} (ha : Ev ta σ H (.ref p)) (h : SqL K H p (ns.map V.int)) : Ev (tCB (rLenS K) (tCons ta tNil)) σ H (.int (ns.length : Int)) := by
  have e := ev_len ha h
  rw [List.length_map] at e
  exact e
theorem rv_mul {i j : Int} {a b : Nat} (ha : i.natAbs < 2 ^ a) (hb : j.natAbs < 2 ^ b) (h0 : 0 < a) (h1 : 0 < b) (h : a + b ≤ 1000000) : RV rMulI (.int i) (.int j) H (.int (i * j)) := rv_I (C := CMulW) (g := fun i j => .int (i * j)) (wide_mul ha hb h0 h1 h)
theorem rv_mod {i j : Int} (h : 0 < j) : RV rModI (.int i) (.int j) H (.int (i % j)) := rv_I (C := fun _ j => 0 < j) (g := fun i j => .int (i % j)) h
theorem rv_div {i j : Int} (h : 0 < j) (h2 : j < 1073741824) : RV rDivI (.int i) (.int j) H (.int (i / j)) := rv_I (C := CDiv) (g := fun i j => .int (i / j)) ⟨h, h2⟩
theorem rv_add {i j : Int} : RV rAddI (.int i) (.int j) H (.int (i + j)) := rv_I0 (g := fun i j => .int (i + j))
theorem rv_sub {i j : Int} : RV rSubI (.int i) (.int j) H (.int (i - j)) := rv_I0 (g := fun i j => .int (i - j))
theorem rv_lt {i j : Int} : RV rLtI (.int i) (.int j) H (.bl (decide (i < j))) := rv_I0 (g := fun i j => .bl (decide (i < j)))
theorem rv_le {i j : Int} : RV rLeI (.int i) (.int j) H (.bl (decide (i ≤ j))) := rv_I0 (g := fun i j => .bl (decide (i ≤ j)))
theorem rv_gt {i j : Int} : RV rGtI (.int i) (.int j) H (.bl (decide (j < i))) := rv_I0 (g := fun i j => .bl (decide (j < i)))
theorem rv_ge {i j : Int} : RV rGeI (.int i) (.int j) H (.bl (decide (j ≤ i))) := rv_I0 (g := fun i j => .bl (decide (j ≤ i)))
theorem dec_V {i j : Int} : decide (V.int i = V.int j) = decide (i = j) := by
  by_cases e : i = j
  · rw [e, decide_eq_true rfl, decide_eq_true rfl]
  · rw [decide_eq_false e, decide_eq_false fun q => e (V.int.inj q)]
theorem rv_eqI {i j : Int} : RV rEq (.int i) (.int j) H (.bl (decide (i = j))) := by
  have h := rv_eq (H := H) (x := .int i) (y := .int j) rfl
  rw [dec_V] at h
  exact h
theorem rv_neI {i j : Int} : RV rNe (.int i) (.int j) H (.bl (!decide (i = j))) := by
  have h := rv_ne (H := H) (x := .int i) (y := .int j) rfl
  rw [dec_V] at h
  exact h
theorem ev_int1 {i : Int} (h : Ev te σ H (.int i)) : Ev (tCB rInt1 (tCons te tNil)) σ H (.int i) := fun H1 e Q q => h H1 e _ fun H2 e2 => .inl ⟨i, rfl, q H2 e2⟩
theorem ev_int1b {k : Bool} (h : Ev te σ H (.bl k)) : Ev (tCB rInt1 (tCons te tNil)) σ H (.int (if k then 1 else 0)) := fun H1 e Q q => h H1 e _ fun H2 e2 => .inr ⟨k, rfl, q H2 e2⟩
theorem ev_neg {i : Int} (h : Ev te σ H (.int i)) : Ev (tUn rNegI te) σ H (.int (-i)) := ev_un h ru_neg
theorem ev_chain {r r' : R2} {tc : TE} {a b c : V} {k k' : Bool} (ha : Ev ta σ H a) (hb : Ev tb σ H b) (hr : RV r a b H (.bl k)) (hc : Ev tc σ H c) (hr' : RV r' b c H (.bl k')) : Ev (tChain r r' ta tb tc) σ H (.bl (k && k')) := fun H1 e Q q =>
  ha H1 e _ fun H2 e2 => hb H2 (e.trans e2) _ fun H3 e3 => hr H3 ((e.trans e2).trans e3) _ fun H4 e4 => ⟨k, rfl, by
    cases k with
    | false => exact q H4 ((e2.trans e3).trans e4)
    | true => exact hc H4 (((e.trans e2).trans e3).trans e4) _ fun H5 e5 => hr' H5 ((((e.trans e2).trans e3).trans e4).trans e5) _ fun H6 e6 => q H6 ((((e2.trans e3).trans e4).trans e5).trans e6)⟩
/-- a slot's word after a turn -/
theorem take_fold {α β : Type} (f : β → α → β) (b : β) {l : List α} {i : Nat} {x : α} (h : l[i]? = some x) : (l.take (i + 1)).foldl f b = f ((l.take i).foldl f b) x := by
  rw [List.take_add_one, h, List.foldl_append] <;> rfl
theorem given_yes_all (n : Nat) (v : Nat → V) : given n (fun _ => true) v = (List.range n).map v := by
  unfold given
  rw [List.filter_eq_self.mpr fun _ _ => rfl]
theorem et_yes : EvT tYes σ H true := fun H1 _ _ q => q H1 (Ex.refl H1)
theorem ev_sum {p : Addr} {ns : List Int} (h : Ev te σ H (.ref p)) (hS : SqL K H p (ns.map V.int)) : Ev (tCB (rSum K) (tCons te tNil)) σ H (.int ns.sum) := fun H1 e Q q => h H1 e _ fun H2 e2 => ⟨p, ns, rfl, ex_l (e.trans e2) hS, q H2 e2⟩
theorem ev_sumL {ns : List Int} (h : EvL te σ H (ns.map V.int)) : Ev (tCB (rSum K) (tCons te tNil)) σ H (.int ns.sum) := fun H1 e Q q => h H1 e _ fun p H2 _ e2 hp => ⟨p, ns, rfl, sq_of hp, q H2 e2⟩
/-- calls -/
theorem spv {sp : Sp} {vs : List V} (h : ∀ H1, Ex H H1 → ∀ (Q : VK) (E : XK), RetV z H1 Q → sp vs H1 Q E) : SpV sp vs H z := fun H1 e Q q E => h H1 e Q E q
theorem spl {sp : Sp} {vs xs : List V} (h : ∀ H1, Ex H H1 → ∀ (Q : VK) (E : XK), RetL xs H1 Q → sp vs H1 Q E) : SpL sp vs H xs := fun H1 e Q q E => h H1 e Q E q
theorem ev_call1 {sp : Sp} {E : XK} (h : Ev te σ H x) (hs : SpV sp [x] H z) : Ev (tCall sp [] E (tCons te tNil)) σ H z := ev_call (dvs := []) (ea_cons h ea_nil) hs
theorem ev_call2 {sp : Sp} {E : XK} (h : Ev ta σ H x) (h2 : Ev tb σ H y) (hs : SpV sp [x, y] H z) : Ev (tCall sp [] E (tCons ta (tCons tb tNil))) σ H z := ev_call (dvs := []) (ea_cons h (ea_cons h2 ea_nil)) hs
theorem el_call1 {sp : Sp} {xs : List V} {E : XK} (h : Ev te σ H x) (hs : SpL sp [x] H xs) : EvL (tCall sp [] E (tCons te tNil)) σ H xs := el_call (dvs := []) (ea_cons h ea_nil) hs
end
end Sg
namespace Sg
open PySem PySem.Spec PyProof.Rows L2 Evl
section
variable {K : PySem.W.Frag} {σ : L2.St} {H : Hp} {ta tb te : TE} {x y z v : V}
theorem sql_ty {a : Addr} {xs : List V} (h : SqL K H a xs) : TyX K H (.ref a) (.type "list") := by
  rcases h with h | ⟨o, its, n, hk, hc, _⟩
  · rcases h with h | ⟨o, h⟩
    · exact .base (.lst h)
    · exact .base (.frz h)
  · exact .kList hk hc
theorem ev_isi {a b : String} {r : Bool} (h : Ev te σ H x) (ht : ∀ H1, Ex H H1 → TyX K H1 x (.type a)) (hk : kitB a b = some r) : Ev (tCB (rIsi K) (tCons te (tCons (tC (.ty b)) tNil))) σ H (.bl r) := fun H1 e Q q =>
  h H1 e _ fun H2 e2 => ⟨x, .ty b, .type a, .type b, r, rfl, .ty b, ht H2 (e.trans e2), kit_ty hk, q H2 e2⟩
theorem ev_isint {i : Int} (h : Ev te σ H (.int i)) : Ev (tCB (rIsi K) (tCons te (tCons (tC (.ty "int")) tNil))) σ H (.bl true) := ev_isi h (fun _ _ => .base (.int i)) (by decide +kernel)
theorem ev_isbool {i : Int} (h : Ev te σ H (.int i)) : Ev (tCB (rIsi K) (tCons te (tCons (tC (.ty "bool")) tNil))) σ H (.bl false) := ev_isi h (fun _ _ => .base (.int i)) (by decide +kernel)
theorem ev_islist {a : Addr} {xs : List V} (h : Ev te σ H (.ref a)) (hS : SqL K H a xs) : Ev (tCB (rIsi K) (tCons te (tCons (tC (.ty "list")) tNil))) σ H (.bl true) := ev_isi h (fun _ e => sql_ty (ex_l e hS)) (by decide +kernel)
end
end Sg
namespace Sg
open PySem PySem.Spec PyProof.Rows L2 Evl
section
variable {K : PySem.W.Frag} {σ : L2.St} {H : Hp} {ta tb te : TE} {x y z v : V}
/-- a written list's item -/
theorem ev_tab {xs : List V} {i : Int} (l : EvL ta σ H xs) (hi : Ev tb σ H (.int i)) (ha : atI xs i = some v) : Ev (tOp (rIxL K) ta tb) σ H v := ev_opL1 l (fun _ e => hi.mono e) fun p H1 hp _ => rv_ixL (sq_of hp) ha
theorem at_six {s : Nat} (h : s ≤ 5) : atI ([.int 1, .int 2, .int 4, .int 8, .int 16, .int 32] : List V) (s : Int) = some (.int ((2 ^ s : Nat) : Int)) := by
  rcases Sg.pow_cases h with rfl | rfl | rfl | rfl | rfl | rfl <;> rfl
theorem el_six : EvL (tLst (tCons (tC (.int 1)) (tCons (tC (.int 2)) (tCons (tC (.int 4)) (tCons (tC (.int 8)) (tCons (tC (.int 16)) (tCons (tC (.int 32)) tNil))))))) σ H [.int 1, .int 2, .int 4, .int 8, .int 16, .int 32] :=
  el_lst (ea_cons ev_c (ea_cons ev_c (ea_cons ev_c (ea_cons ev_c (ea_cons ev_c (ea_cons ev_c ea_nil)))))) (by decide)
theorem range_take {n i : Nat} (f : Nat → Int) (h : i < n) : (((List.range n).map f).take (i + 1)).map V.int = (((List.range n).map f).take i).map V.int ++ [.int (f i)] := by
  rw [List.take_add_one, List.getElem?_map, List.getElem?_range h, List.map_append]
  rfl
theorem range_take_all {n : Nat} (f : Nat → Int) : ((List.range n).map f).take n = (List.range n).map f := List.take_of_length_le (by rw [List.length_map, List.length_range]; exact Nat.le_refl _)
theorem range_take_len {n i : Nat} (f : Nat → Int) (h : i ≤ n) : ((((List.range n).map f).take i).map V.int).length = i := by
  rw [List.length_map, List.length_take, List.length_map, List.length_range]
  omega
end
end Sg
namespace Sg
theorem not_t {P : Prop} [Decidable P] (h : (!decide P) = true) : ¬ P := fun p => by
  rw [decide_eq_true p] at h
  cases h
theorem not_f {P : Prop} [Decidable P] (h : (!decide P) = false) : P := by
  by_cases p : P
  · exact p
  · rw [decide_eq_false p] at h
    cases h
end Sg
namespace Sg
open PySem PySem.Spec PyProof.Rows L2 Evl
/-! ### == of lists of numbers -/
section
variable {K : PySem.W.Frag} {σ : L2.St} {H : Hp} {ta tb te : TE} {x y z v : V}
def dI (ns : List Int) : PyData := .list (ns.map PyData.int)
theorem dpAllI : ∀ ns : List Int, DpAll K H (ns.map V.int) (ns.map PyData.int)
  | [] => .nil
  | n :: ns => .cons (.int n) (dpAllI ns)
theorem dpI {a : Addr} {ns : List Int} (h : SqL K H a (ns.map V.int)) : Dp K H (.ref a) (dI ns) := .lst h (dpAllI ns)
theorem depthAllI : ∀ ns : List Int, PyData.depthAll (ns.map PyData.int) = 0
  | [] => by rw [List.map_nil, PyData.depthAll]
  | n :: ns => by rw [List.map_cons, PyData.depthAll, depthAllI ns, PyData.depth]; rfl
theorem layAllI : ∀ ns : List Int, PyData.canLayAll0 (ns.map PyData.int) = true
  | [] => by rw [List.map_nil, PyData.canLayAll0]
  | n :: ns => by rw [List.map_cons, PyData.canLayAll0, layAllI ns, PyData.canLay0]; rfl
theorem depthI (ns : List Int) : (dI ns).depth = 1 := by
  unfold dI
  rw [PyData.depth, depthAllI]
theorem layI (ns : List Int) : (dI ns).canLay0 = true := by
  unfold dI
  rw [PyData.canLay0, layAllI]
theorem shapedI (ns : List Int) : SeqAt.shaped (dI ns) = true := by
  unfold SeqAt.shaped
  rw [layI, depthI]
  rfl
theorem eqvAllI : ∀ ns ms : List Int, PyData.eqvAll (ns.map PyData.int) (ms.map PyData.int) = decide (ns = ms)
  | [], [] => by rw [List.map_nil, PyData.eqvAll]; rfl
  | [], m :: ms => by rw [List.map_nil, List.map_cons, PyData.eqvAll, decide_eq_false (by simp)]
  | n :: ns, [] => by rw [List.map_nil, List.map_cons, PyData.eqvAll, decide_eq_false (by simp)]
  | n :: ns, m :: ms => by
    rw [List.map_cons, List.map_cons, PyData.eqvAll, eqvAllI ns ms, PyData.eqv]
    by_cases h1 : n = m
    · subst h1
      by_cases h2 : ns = ms
      · subst h2
        rw [decide_eq_true rfl, decide_eq_true rfl, beq_self_eq_true] <;> rfl
      · rw [decide_eq_false h2, decide_eq_false (by simp [h2]), Bool.and_false]
    · rw [decide_eq_false (show ¬ n :: ns = m :: ms by simp [h1]), beq_eq_false_iff_ne.mpr h1, Bool.false_and]
theorem eqvI (ns ms : List Int) : PyData.eqv (dI ns) (dI ms) = decide (ns = ms) := by
  unfold dI
  rw [PyData.eqv, eqvAllI]
theorem rv_eqD {d e : PyData} (hx : ∀ H1, Ex H H1 → Dp K H1 x d) (hy : ∀ H1, Ex H H1 → Dp K H1 y e) (s1 : SeqAt.shaped d = true) (s2 : SeqAt.shaped e = true) : RV (rEqD K) x y H (.bl (PyData.eqv d e)) := fun H1 e1 _ q => ⟨d, e, hx H1 e1, hy H1 e1, s1, s2, q H1 (Ex.refl H1)⟩
theorem rv_neD {d e : PyData} (hx : ∀ H1, Ex H H1 → Dp K H1 x d) (hy : ∀ H1, Ex H H1 → Dp K H1 y e) (s1 : SeqAt.shaped d = true) (s2 : SeqAt.shaped e = true) : RV (rNeD K) x y H (.bl (!PyData.eqv d e)) := fun H1 e1 _ q => ⟨d, e, hx H1 e1, hy H1 e1, s1, s2, q H1 (Ex.refl H1)⟩
theorem rv_eqL {p q : Addr} {ns ms : List Int} (h : SqL K H p (ns.map V.int)) (h2 : SqL K H q (ms.map V.int)) : RV (rEqD K) (.ref p) (.ref q) H (.bl (decide (ns = ms))) := by
  have r := rv_eqD (K := K) (H := H) (fun H1 e => dpI (ex_l e h)) (fun H1 e => dpI (ex_l e h2)) (shapedI ns) (shapedI ms)
  rw [eqvI] at r
  exact r
theorem rv_neL {p q : Addr} {ns ms : List Int} (h : SqL K H p (ns.map V.int)) (h2 : SqL K H q (ms.map V.int)) : RV (rNeD K) (.ref p) (.ref q) H (.bl (!decide (ns = ms))) := by
  have r := rv_neD (K := K) (H := H) (fun H1 e => dpI (ex_l e h)) (fun H1 e => dpI (ex_l e h2)) (shapedI ns) (shapedI ms)
  rw [eqvI] at r
  exact r
/-- two lists of two rows each -/
def dII (a b : List Int) : PyData := .list [dI a, dI b]
theorem shapedII (a b : List Int) : SeqAt.shaped (dII a b) = true := by
  unfold SeqAt.shaped dII
  rw [PyData.canLay0, PyData.canLayAll0, PyData.canLayAll0, PyData.canLayAll0, layI, layI, PyData.depth, PyData.depthAll, PyData.depthAll, PyData.depthAll, depthI, depthI]
  rfl
theorem eqvII (a b c d : List Int) : PyData.eqv (dII a b) (dII c d) = (decide (a = c) && decide (b = d)) := by
  unfold dII
  rw [PyData.eqv, PyData.eqvAll, PyData.eqvAll, PyData.eqvAll, eqvI, eqvI, Bool.and_true]
theorem dpII {p a b : Addr} {ns ms : List Int} (h : SqL K H p [.ref a, .ref b]) (h1 : SqL K H a (ns.map V.int)) (h2 : SqL K H b (ms.map V.int)) : Dp K H (.ref p) (dII ns ms) := .lst h (.cons (dpI h1) (.cons (dpI h2) .nil))
/-- the law's own row -/
theorem el_law_row {E : XK} {t1 t2 t3 t4 : TE} {c w g : Int} {s : Nat} (h1 : Ev t1 σ H (.int c)) (h2 : Ev t2 σ H (.int s)) (h3 : Ev t3 σ H (.int w)) (h4 : Ev t4 σ H (.int g)) (hs : s ≤ 5) (g1 : 0 < g) (g2 : g < 1073741824 * 1073741824) :
    EvL (tCall (sp_law_row K) [] E (tCons t1 (tCons t2 (tCons t3 (tCons t4 tNil))))) σ H ((lawRow c (2 ^ s) w g).map V.int) :=
  el_call (dvs := []) (ea_cons h1 (ea_cons h2 (ea_cons h3 (ea_cons h4 ea_nil)))) (spl fun H1 _ Q E q => ⟨c, s, w, g, rfl, hs, g1, g2, q⟩)
theorem ev_cell {E : XK} {a : Addr} {ns : List Int} {k : Nat} (h : Ev ta σ H (.ref a)) (h2 : Ev tb σ H (.int k)) (hS : SqL K H a (ns.map V.int)) : Ev (tCall (sp_law_cell_at K) [] E (tCons ta (tCons tb tNil))) σ H (.int (cellAt ns k)) :=
  ev_call2 h h2 (spv fun H1 e Q E q => ⟨a, ns, k, rfl, ex_l e hS, q⟩)
theorem ev_alike {E : XK} {a b : Addr} {ns ms : List Int} (h : Ev ta σ H (.ref a)) (h2 : Ev tb σ H (.ref b)) (hS : SqL K H a (ns.map V.int)) (hT : SqL K H b (ms.map V.int)) (hl : ns.length ≤ 1000) :
    Ev (tCall (sp_law_alike K) [] E (tCons ta (tCons tb tNil))) σ H (.bl (decide (ns = ms))) := ev_call2 h h2 (spv fun H1 e Q E q => ⟨a, b, ns, ms, rfl, ex_l e hS, ex_l e hT, hl, q⟩)
/-- the first argument a new list -/
theorem ev_alikeL {E : XK} {b : Addr} {ns ms : List Int} (h : EvL ta σ H (ns.map V.int)) (h2 : ∀ H1, Ex H H1 → Ev tb σ H1 (.ref b)) (hT : SqL K H b (ms.map V.int)) (hl : ns.length ≤ 1000) :
    Ev (tCall (sp_law_alike K) [] E (tCons ta (tCons tb tNil))) σ H (.bl (decide (ns = ms))) := fun H0 e0 Q q =>
  h H0 e0 _ fun p H1 _ e1 hp => h2 H1 (e0.trans e1) H1 (Ex.refl H1) _ fun H2 e2 => ⟨p, b, ns, ms, rfl, sq_of (e2 p _ hp), ex_l ((e0.trans e1).trans e2) hT, hl, fun H3 e3 => q H3 ((e1.trans e2).trans e3)⟩
theorem el_sums {E : XK} {a : Addr} {ns : List Int} (h : Ev te σ H (.ref a)) (hS : SqL K H a (ns.map V.int)) (hr : IsRow ns) : EvL (tCall (sp_sums K) [] E (tCons te tNil)) σ H ((sumsL ns).map V.int) :=
  el_call1 h (spl fun H1 e Q E q => ⟨a, ns, rfl, ex_l e hS, fun _ => q, fun n => absurd hr n⟩)
/-- sums of a new list -/
theorem el_sumsL {E : XK} {ns : List Int} (h : EvL te σ H (ns.map V.int)) (hr : IsRow ns) : EvL (tCall (sp_sums K) [] E (tCons te tNil)) σ H ((sumsL ns).map V.int) := fun H0 e0 Q q =>
  h H0 e0 _ fun p H1 _ e1 hp => ⟨p, ns, rfl, sq_of hp, fun _ => fun p2 H2 hp2 e2 h2 => q p2 H2 (fresh_back e1 hp2) (e1.trans e2) h2, fun n => absurd hr n⟩
theorem el_law_sums {E : XK} {a : Addr} {ns : List Int} (h : Ev te σ H (.ref a)) (hS : SqL K H a (ns.map V.int)) (hl : ns.length ≤ 32) (hb : ∀ x ∈ ns, x.natAbs < 2 ^ 100) : EvL (tCall (sp_law_sums K) [] E (tCons te tNil)) σ H ((sumsL ns).map V.int) :=
  el_call1 h (spl fun H1 e Q E q => ⟨a, ns, rfl, ex_l e hS, hl, hb, q⟩)
/-- 9 * 10 ** k -/
theorem ev_pow {b k : Int} {n : Nat} (h0 : 0 ≤ k ∧ k ≤ 1000) (hb : b.natAbs < 2 ^ 64) (ha : Ev ta σ H (.int b)) (hk : Ev tb σ H (.int k)) : Ev (tOp rPowI ta tb) σ H (.int (b ^ k.toNat)) := ev_op ha hk (rv_I (C := CPow) (g := fun i j => .int (i ^ j.toNat)) ⟨h0.1, by omega, hb⟩)
end
end Sg
namespace Sg
open PySem PySem.Spec PyProof.Rows L2 Evl
/-! ### what evaluates to some list of these numbers, old or new -/
section
variable {K : PySem.W.Frag} {σ : L2.St} {H H' : Hp} {ta tb te tl : TE} {x y z v : V}
def EvS (K : PySem.W.Frag) (te : TE) (σ : L2.St) (H : Hp) (ns : List Int) : Prop := ∀ H1, Ex H H1 → ∀ Q : VK, (∀ p H2, Ex H1 H2 → SqL K H2 p (ns.map V.int) → Q (.ref p) H2) → te σ H1 Q
theorem EvS.mono {ns : List Int} (e : Ex H H') (h : EvS K te σ H ns) : EvS K te σ H' ns := fun H1 a Q q => h H1 (e.trans a) Q q
theorem evs_of {a : Addr} {ns : List Int} (h : Ev te σ H (.ref a)) (hS : SqL K H a (ns.map V.int)) : EvS K te σ H ns := fun H1 e Q q => h H1 e _ fun H2 e2 => q a H2 e2 (ex_l (e.trans e2) hS)
theorem evs_new {ns : List Int} (h : EvL te σ H (ns.map V.int)) : EvS K te σ H ns := fun H1 e Q q => h H1 e _ fun p H2 _ e2 hp => q p H2 e2 (sq_of hp)
theorem evs_var {a : Addr} {ns : List Int} {i : Nat} (h : σ[i]? = some (some (.ref a))) (hS : SqL K H a (ns.map V.int)) : EvS K (tVar i) σ H ns := evs_of (ev_var h) hS
/-- a call of one such list -/
theorem ev_callS {sp : Sp} {E : XK} {ns : List Int} (h : EvS K te σ H ns) (hs : ∀ p H1, Ex H H1 → SqL K H1 p (ns.map V.int) → ∀ (Q : VK) (E : XK), RetV z H1 Q → sp [.ref p] H1 Q E) : Ev (tCall sp [] E (tCons te tNil)) σ H z := fun H0 e0 Q q =>
  h H0 e0 _ fun p H1 e1 hp => hs p H1 (e0.trans e1) hp Q E fun H2 e2 => q H2 (e1.trans e2)
theorem el_callS {sp : Sp} {E : XK} {ns : List Int} {xs : List V} (h : EvS K te σ H ns) (hs : ∀ p H1, Ex H H1 → SqL K H1 p (ns.map V.int) → ∀ (Q : VK) (E : XK), RetL xs H1 Q → sp [.ref p] H1 Q E) : EvL (tCall sp [] E (tCons te tNil)) σ H xs := fun H0 e0 Q q =>
  h H0 e0 _ fun p H1 e1 hp => hs p H1 (e0.trans e1) hp Q E fun p2 H2 n2 e2 h2 => q p2 H2 (fresh_back e1 n2) (e1.trans e2) h2
/-- a call of two such lists -/
theorem ev_callSS {sp : Sp} {E : XK} {ns ms : List Int} (h : EvS K ta σ H ns) (h2 : EvS K tb σ H ms) (hs : ∀ p q H1, Ex H H1 → SqL K H1 p (ns.map V.int) → SqL K H1 q (ms.map V.int) → ∀ (Q : VK) (E : XK), RetV z H1 Q → sp [.ref p, .ref q] H1 Q E) :
    Ev (tCall sp [] E (tCons ta (tCons tb tNil))) σ H z := fun H0 e0 Q q =>
  h H0 e0 _ fun p H1 e1 hp => h2 H1 (e0.trans e1) _ fun p2 H2 e2 hp2 => hs p p2 H2 ((e0.trans e1).trans e2) (ex_l e2 hp) hp2 Q E fun H3 e3 => q H3 ((e1.trans e2).trans e3)
theorem el_callSS {sp : Sp} {E : XK} {ns ms : List Int} {xs : List V} (h : EvS K ta σ H ns) (h2 : EvS K tb σ H ms) (hs : ∀ p q H1, Ex H H1 → SqL K H1 p (ns.map V.int) → SqL K H1 q (ms.map V.int) → ∀ (Q : VK) (E : XK), RetL xs H1 Q → sp [.ref p, .ref q] H1 Q E) :
    EvL (tCall sp [] E (tCons ta (tCons tb tNil))) σ H xs := fun H0 e0 Q q =>
  h H0 e0 _ fun p H1 e1 hp => h2 H1 (e0.trans e1) _ fun p2 H2 e2 hp2 => hs p p2 H2 ((e0.trans e1).trans e2) (ex_l e2 hp) hp2 Q E fun p3 H3 n3 e3 h3 => q p3 H3 (fresh_back (e1.trans e2) n3) ((e1.trans e2).trans e3) h3
theorem ev_alikeS {E : XK} {ns ms : List Int} (h : EvS K ta σ H ns) (h2 : EvS K tb σ H ms) (hl : ns.length ≤ 1000) : Ev (tCall (sp_law_alike K) [] E (tCons ta (tCons tb tNil))) σ H (.bl (decide (ns = ms))) :=
  ev_callSS h h2 fun p q H1 _ hp hq Q E r => ⟨p, q, ns, ms, rfl, hp, hq, hl, r⟩
theorem el_sumsS {E : XK} {ns : List Int} (h : EvS K te σ H ns) (hr : IsRow ns) : EvL (tCall (sp_sums K) [] E (tCons te tNil)) σ H ((sumsL ns).map V.int) :=
  el_callS h fun p H1 _ hp Q E r => ⟨p, ns, rfl, hp, fun _ => r, fun n => absurd hr n⟩
theorem el_listS {ns : List Int} (h : EvS K te σ H ns) : EvL (tCB (rListS K) (tCons te tNil)) σ H (ns.map V.int) := fun H0 e0 Q q =>
  h H0 e0 _ fun p H1 e1 hp => ⟨p, ns.map V.int, rfl, .inl hp, fun l hl => q l _ (fresh_back e1 hl) (e1.trans (Ex.new hl)) upd_same⟩
theorem ev_lenS {ns : List Int} (h : EvS K te σ H ns) : Ev (tCB (rLenS K) (tCons te tNil)) σ H (.int (ns.length : Int)) := fun H0 e0 Q q =>
  h H0 e0 _ fun p H1 e1 hp => ⟨p, ns.map V.int, rfl, .inl hp, by
    rw [List.length_map]
    exact q H1 e1⟩
theorem ev_sumS {ns : List Int} (h : EvS K te σ H ns) : Ev (tCB (rSum K) (tCons te tNil)) σ H (.int ns.sum) := fun H0 e0 Q q =>
  h H0 e0 _ fun p H1 e1 hp => ⟨p, ns, rfl, hp, q H1 e1⟩
theorem ev_eqS {ns ms : List Int} (h : EvS K ta σ H ns) (h2 : EvS K tb σ H ms) : Ev (tOp (rEqD K) ta tb) σ H (.bl (decide (ns = ms))) := fun H0 e0 Q q =>
  h H0 e0 _ fun p H1 e1 hp => h2 H1 (e0.trans e1) _ fun p2 H2 e2 hp2 => rv_eqL (ex_l e2 hp) hp2 H2 (Ex.refl H2) _ fun H3 e3 => q H3 ((e1.trans e2).trans e3)
theorem ev_neS {ns ms : List Int} (h : EvS K ta σ H ns) (h2 : EvS K tb σ H ms) : Ev (tOp (rNeD K) ta tb) σ H (.bl (!decide (ns = ms))) := fun H0 e0 Q q =>
  h H0 e0 _ fun p H1 e1 hp => h2 H1 (e0.trans e1) _ fun p2 H2 e2 hp2 => rv_neL (ex_l e2 hp) hp2 H2 (Ex.refl H2) _ fun H3 e3 => q H3 ((e1.trans e2).trans e3)
theorem el_law_sumsS {E : XK} {ns : List Int} (h : EvS K te σ H ns) (hl : ns.length ≤ 32) (hb : ∀ x ∈ ns, x.natAbs < 2 ^ 100) : EvL (tCall (sp_law_sums K) [] E (tCons te tNil)) σ H ((sumsL ns).map V.int) :=
  el_callS h fun p H1 _ hp Q E r => ⟨p, ns, rfl, hp, hl, hb, r⟩
theorem evs_ix {ns : List Int} {i : Int} {k : Nat} (h : EvS K ta σ H ns) (hi : Ev tb σ H (.int i)) (e : i = (k : Int)) (hk : k < ns.length) : Ev (tOp (rIxL K) ta tb) σ H (.int (ns.getD k 0)) := fun H0 e0 Q q =>
  h H0 e0 _ fun p H1 e1 hp => hi H1 (e0.trans e1) _ fun H2 e2 => rv_ixN (ex_l e2 hp) e hk H2 (Ex.refl H2) _ fun H3 e3 => q H3 ((e1.trans e2).trans e3)
/-! ### comprehensions -/
theorem int_of_map {ns : List Int} {i : Nat} {x : V} (h : (ns.map V.int)[i]? = some x) : ∃ n, ns[i]? = some n ∧ x = .int n := by
  rw [List.getElem?_map] at h
  cases e : ns[i]? with
  | none => rw [e] at h; cases h
  | some n => rw [e] at h; exact ⟨n, rfl, (Option.some.inj h).symm⟩
theorem given_map {ns : List Int} (g : Int → V) : given ns.length (fun _ => true) (fun i => g (ns.getD i 0)) = ns.map g := by
  rw [given_yes_all]
  refine List.ext_getElem (by rw [List.length_map, List.length_range, List.length_map]) fun k h1 h2 => ?_
  rw [List.length_map] at h2
  rw [List.getElem_map, List.getElem_range, List.getElem_map, List.getD_eq_getElem?_getD, List.getElem?_eq_getElem h2] <;> rfl
/-- [e for x in such a list] -/
theorem el_mapS {ns : List Int} {j : Nat} {vs : List Nat} (g : Int → V) (h : EvS K tl σ H ns) (hz : ns.length ≤ 40000) (hw : ∀ x, wipe ((wipe σ vs).set j (some x)) vs = wipe σ vs)
    (he : ∀ n ∈ ns, ∀ H1, Ex H H1 → Ev te ((wipe σ vs).set j (some (.int n))) H1 (g n)) : EvL (tLc (iList K tl) (gName j) tYes te vs) σ H (ns.map g) := fun H0 e0 Q q =>
  h H0 e0 _ fun a H1 e1 hx => ⟨a, rfl, ⟨ns.map V.int, hx⟩, fun Dl hD =>
    lc_list (xs := ns.map V.int) (Cw H1 (fun _ => true) (fun i => g (ns.getD i 0)) Dl) ⟨hD, Ex.new hD, upd_same⟩ (fun i H2 _ p => ex_l p.2.1 hx) (fun i x H2 hi p => by
      obtain ⟨n, hn, rfl⟩ := int_of_map hi
      have hl : i < ns.length := (List.getElem?_eq_some_iff.mp hn).1
      refine ⟨hw _, cw_turn p (by omega) et_yes fun _ => ?_⟩
      have e : ns.getD i 0 = n := by rw [List.getD_eq_getElem?_getD, hn] <;> rfl
      rw [e]
      exact he n (List.mem_of_getElem? hn) H1 (e0.trans e1)) (fun H2 p => by
      have p3 := p.2.2
      rw [List.length_map, given_map] at p3
      exact q Dl H2 (fresh_back e1 p.1) (e1.trans p.2.1) p3)⟩
/-- [e for i in range(n)] -/
theorem el_mapR {ta : TA} {j n : Nat} {vs : List Nat} (g : Nat → V) (h : EvA ta σ H [.int (n : Int)]) (hn : n ≤ 40000) (hw : ∀ x, wipe ((wipe σ vs).set j (some x)) vs = wipe σ vs)
    (he : ∀ i : Nat, i < n → ∀ H1, Ex H H1 → Ev te ((wipe σ vs).set j (some (.int (i : Int)))) H1 (g i)) : EvL (tLc (iRng1 ta) (gName j) tYes te vs) σ H ((List.range n).map g) := by
  have el := el_lcR1 (σ := σ) (H := H) (t := tYes) (te := te) (ta := ta) (j := j) (vs := vs) (n := (n : Int)) (fun _ => true) g h ⟨by omega, by omega⟩ hw (fun _ _ _ _ => et_yes) (fun i H1 e hi _ => he i (by omega) H1 e)
  rw [given_yes_all, Int.toNat_natCast] at el
  exact el
/-- [e for i in range(n) if t] -/
theorem el_filR {ta : TA} {t : TT} {j n : Nat} {vs : List Nat} (f : Nat → Bool) (g : Nat → V) (h : EvA ta σ H [.int (n : Int)]) (hn : n ≤ 40000) (hw : ∀ x, wipe ((wipe σ vs).set j (some x)) vs = wipe σ vs)
    (ht : ∀ i : Nat, i < n → ∀ H1, Ex H H1 → EvT t ((wipe σ vs).set j (some (.int (i : Int)))) H1 (f i)) (he : ∀ i : Nat, i < n → ∀ H1, Ex H H1 → Ev te ((wipe σ vs).set j (some (.int (i : Int)))) H1 (g i)) :
    EvL (tLc (iRng1 ta) (gName j) t te vs) σ H (((List.range n).filter f).map g) := by
  have el := el_lcR1 (σ := σ) (H := H) (t := t) (te := te) (ta := ta) (j := j) (vs := vs) (n := (n : Int)) f g h ⟨by omega, by omega⟩ hw (fun i H1 e hi => ht i (by omega) H1 e) (fun i H1 e hi _ => he i (by omega) H1 e)
  rw [Int.toNat_natCast] at el
  exact el
theorem ev_anyL {bs : List Bool} (h : EvL te σ H (bs.map V.bl)) : Ev (tCB (rAny K) (tCons te tNil)) σ H (.bl (bs.any id)) := fun H0 e0 Q q => h H0 e0 _ fun p H1 _ e1 hp => ⟨p, bs, rfl, sq_of hp, q H1 e1⟩
theorem ev_allL {bs : List Bool} (h : EvL te σ H (bs.map V.bl)) : Ev (tCB (rAll K) (tCons te tNil)) σ H (.bl (bs.all id)) := fun H0 e0 Q q => h H0 e0 _ fun p H1 _ e1 hp => ⟨p, bs, rfl, sq_of hp, q H1 e1⟩
end
end Sg
namespace Sg
open PySem PySem.Spec PyProof.Rows L2 Evl
theorem five_at {i : Nat} {x : V} (hx : ([.int 1, .int 2, .int 4, .int 8, .int 16] : List V)[i]? = some x) : ∃ w : Int, ([1, 2, 4, 8, 16] : List Int)[i]? = some w ∧ x = .int w ∧ 0 < w ∧ w < 1073741824 := by
  match i, hx with
  | 0, hx => cases hx; exact ⟨1, rfl, rfl, by decide, by decide⟩
  | 1, hx => cases hx; exact ⟨2, rfl, rfl, by decide, by decide⟩
  | 2, hx => cases hx; exact ⟨4, rfl, rfl, by decide, by decide⟩
  | 3, hx => cases hx; exact ⟨8, rfl, rfl, by decide, by decide⟩
  | 4, hx => cases hx; exact ⟨16, rfl, rfl, by decide, by decide⟩
  | n + 5, hx => cases hx
end Sg
namespace Sg
open PySem PySem.Spec PyProof.Rows L2 Evl
theorem inV_two' (i a b : Int) : inV (.int i) [.int a, .int b] = decide (i = a ∨ i = b) := by
  by_cases h : i = a ∨ i = b
  · rw [decide_eq_true h]
    rcases h with rfl | rfl <;> simp [inV, eqV]
  · rw [decide_eq_false h]
    simp only [not_or] at h
    simp [inV, eqV]
    omega
end Sg
namespace Sg
open PySem PySem.Spec PyProof.Rows L2 Evl
/-! ### a list of two lists -/
section
variable {K : PySem.W.Frag} {σ : L2.St} {H : Hp} {ta tb te tl : TE} {x y z v : V} {D : Ends} {tz : TS}
theorem q_asgLL {i : Nat} {xs ys : List V} (h1 : EvL ta σ H xs) (h2 : EvL tb σ H ys)
    (k : ∀ p q l H1, H p = none → H q = none → H l = none → Ex H H1 → H1 p = some (.lst xs) → H1 q = some (.lst ys) → H1 l = some (.lst [.ref p, .ref q]) → tz D (σ.set i (some (.ref l))) H1) :
    tSeq (tAsg (tLst (tCons ta (tCons tb tNil))) (gName i)) tz D σ H :=
  h1 H (Ex.refl H) _ fun p H1 np e1 hp => h2 H1 e1 _ fun q H2 nq e2 hq => ⟨by show 2 ≤ sizeLine; decide, fun l nl =>
    k p q l _ np (fresh_back e1 nq) (fresh_back (e1.trans e2) nl) ((e1.trans e2).trans (Ex.new nl)) (Ex.new nl p _ (e2 p _ hp)) (Ex.new nl q _ hq) upd_same⟩
theorem ev_at0 {l p q : Addr} (h : Ev ta σ H (.ref l)) (hL : SqL K H l [.ref p, .ref q]) : Ev (tOp (rIxL K) ta (tC (.int 0))) σ H (.ref p) := ev_op h ev_c (rv_ixL hL rfl)
theorem ev_at1 {l p q : Addr} (h : Ev ta σ H (.ref l)) (hL : SqL K H l [.ref p, .ref q]) : Ev (tOp (rIxL K) ta (tC (.int 1))) σ H (.ref q) := ev_op h ev_c (rv_ixL hL rfl)
theorem ev_pair {R : R2} {b : Bool} {l p q a c : Addr} (h : Ev ta σ H (.ref l)) (h1 : Ev tb σ H (.ref a)) (h2 : Ev te σ H (.ref c))
    (hr : ∀ m H1, Ex H H1 → SqL K H1 m [.ref a, .ref c] → RV R (.ref l) (.ref m) H1 (.bl b)) : Ev (tOp R ta (tLst (tCons tb (tCons te tNil)))) σ H (.bl b) :=
  ev_opL h (el_lst (ea_cons h1 (ea_cons h2 ea_nil)) (by show 2 ≤ 100000; decide)) fun m H1 hm e => hr m H1 e (sq_of hm)
theorem ev_neII {l p q a c : Addr} {ns ms as bs : List Int} (h : Ev ta σ H (.ref l)) (h1 : Ev tb σ H (.ref a)) (h2 : Ev te σ H (.ref c)) (hL : SqL K H l [.ref p, .ref q]) (hp : SqL K H p (ns.map V.int)) (hq : SqL K H q (ms.map V.int)) (ha : SqL K H a (as.map V.int)) (hc : SqL K H c (bs.map V.int)) :
    Ev (tOp (rNeD K) ta (tLst (tCons tb (tCons te tNil)))) σ H (.bl (!(decide (ns = as) && decide (ms = bs)))) := ev_pair (K := K) (p := p) (q := q) h h1 h2 fun m H1 e hm => by
  have r := rv_neD (K := K) (H := H1) (fun H2 e2 => dpII (ex_l (e.trans e2) hL) (ex_l (e.trans e2) hp) (ex_l (e.trans e2) hq)) (fun H2 e2 => dpII (ex_l e2 hm) (ex_l (e.trans e2) ha) (ex_l (e.trans e2) hc)) (shapedII ns ms) (shapedII as bs)
  rw [eqvII] at r
  exact r
theorem ev_eqII {l p q a c : Addr} {ns ms as bs : List Int} (h : Ev ta σ H (.ref l)) (h1 : Ev tb σ H (.ref a)) (h2 : Ev te σ H (.ref c)) (hL : SqL K H l [.ref p, .ref q]) (hp : SqL K H p (ns.map V.int)) (hq : SqL K H q (ms.map V.int)) (ha : SqL K H a (as.map V.int)) (hc : SqL K H c (bs.map V.int)) :
    Ev (tOp (rEqD K) ta (tLst (tCons tb (tCons te tNil)))) σ H (.bl (decide (ns = as) && decide (ms = bs))) := ev_pair (K := K) (p := p) (q := q) h h1 h2 fun m H1 e hm => by
  have r := rv_eqD (K := K) (H := H1) (fun H2 e2 => dpII (ex_l (e.trans e2) hL) (ex_l (e.trans e2) hp) (ex_l (e.trans e2) hq)) (fun H2 e2 => dpII (ex_l e2 hm) (ex_l (e.trans e2) ha) (ex_l (e.trans e2) hc)) (shapedII ns ms) (shapedII as bs)
  rw [eqvII] at r
  exact r
end
/-- what stands behind a change of a new list -/
theorem keep_new {H H1 H2 : Hp} {p : Addr} {o : HO} (e : Ex H H1) (n : H p = none) (e2 : Ex H1 H2) : Ex H (upd H2 p o) := Ex.mut (e.trans e2) n
end Sg
namespace Sg
open PySem PySem.Spec PyProof.Rows L2 Evl
/-! ### a list of new lists, made by a comprehension over a range -/
section
variable {K : PySem.W.Frag} {σ : L2.St} {H : Hp} {te : TE} {D : Ends} {tz : TS}
/-- the lists at ps are these, ps stand at l -/
structure Rows (H : Hp) (l : Addr) (n : Nat) (f : Nat → List Int) (ps : List Addr) : Prop where
  len : ps.length = n
  at_ : H l = some (.lst (ps.map V.ref))
  row : ∀ k, k < n → H (ps.getD k 0) = some (.lst ((f k).map V.int))
theorem Rows.mono {H H' : Hp} {l : Addr} {n : Nat} {f : Nat → List Int} {ps : List Addr} (e : Ex H H') (r : Rows H l n f ps) : Rows H' l n f ps := ⟨r.len, e l _ r.at_, fun k hk => e _ _ (r.row k hk)⟩
theorem ref_at {ps : List Addr} {k : Nat} (h : k < ps.length) : (ps.map V.ref)[k]? = some (.ref (ps.getD k 0)) := by
  rw [List.getElem?_map, List.getElem?_eq_getElem h, List.getD_eq_getElem?_getD, List.getElem?_eq_getElem h] <;> rfl
theorem Rows.evs {l : Addr} {n k : Nat} {i : Int} {f : Nat → List Int} {ps : List Addr} {ta tb : TE} (r : Rows H l n f ps) (ha : Ev ta σ H (.ref l)) (hb : Ev tb σ H (.int i)) (e : i = (k : Int)) (hk : k < n) : EvS K (tOp (rIxL K) ta tb) σ H (f k) :=
  evs_of (ev_op ha hb (rv_ixL (sq_of r.at_) (by rw [e]; exact atI_nat (ref_at (by rw [r.len]; exact hk))))) (sq_of (r.row k hk))
theorem q_asgRows {ta : TA} {i j n : Nat} {vs : List Nat} (f : Nat → List Int) (h : EvA ta σ H [.int (n : Int)]) (hn : n ≤ 40000) (hw : ∀ x, wipe ((wipe σ vs).set j (some x)) vs = wipe σ vs)
    (he : ∀ k : Nat, k < n → ∀ H1, Ex H H1 → EvL te ((wipe σ vs).set j (some (.int (k : Int)))) H1 ((f k).map V.int))
    (k : ∀ l ps H1, H l = none → Ex H H1 → Rows H1 l n f ps → tz D (σ.set i (some (.ref l))) H1) : tSeq (tAsg (tLc (iRng1 ta) (gName j) tYes te vs) (gName i)) tz D σ H :=
  h H (Ex.refl H) _ fun H1 e1 => ⟨(n : Int), rfl, by omega, by omega, fun Dl hD => by
    have hn1 : (n : Int).toNat = n := Int.toNat_natCast n
    rw [hn1]
    refine lc_range (lo := 0) (n := n) (fun m H' => Ex H1 H' ∧ ∃ ps : List Addr, Rows H' Dl m f ps ∧ Dl ∉ ps) ⟨Ex.new hD, [], ⟨rfl, upd_same, fun k hk => absurd hk (Nat.not_lt_zero _)⟩, by simp⟩ (fun m H' hm p => ?_) (fun H' p => ?_)
    · obtain ⟨ex, ps, r, nd⟩ := p
      have e0 : (0 : Int) + (m : Int) = (m : Int) := Int.zero_add _
      show wipe ((wipe σ vs).set j (some (.int ((0 : Int) + (m : Int))))) vs = wipe σ vs ∧ te ((wipe σ vs).set j (some (.int ((0 : Int) + (m : Int))))) H' _
      rw [e0]
      refine ⟨hw _, he m hm H' (e1.trans ex) H' (Ex.refl H') _ fun q H2 nq e2 hq => ⟨ps.map V.ref, e2 Dl _ r.at_, by rw [List.length_map, r.len]; exact sz_lt (by omega), ?_⟩⟩
      have nqD : q ≠ Dl := fun e => by
        rw [e, r.at_] at nq
        cases nq
      refine ⟨Ex.mut (ex.trans e2) (by exact fresh_back (Ex.refl H1) hD), ps ++ [q], ⟨by rw [List.length_append, r.len]; rfl, ?_, fun k hk => ?_⟩, by simp [nd, Ne.symm nqD]⟩
      · rw [upd_same, List.map_append]
        rfl
      · by_cases hkm : k < m
        · have hg : (ps ++ [q]).getD k 0 = ps.getD k 0 := by
            rw [List.getD_eq_getElem?_getD, List.getD_eq_getElem?_getD, List.getElem?_append_left (by rw [r.len]; exact hkm)]
          have hne : ps.getD k 0 ≠ Dl := fun e => nd (by
            rw [← e, List.getD_eq_getElem?_getD, List.getElem?_eq_getElem (by rw [r.len]; exact hkm)]
            exact List.getElem_mem _)
          rw [hg, upd_ne hne]
          exact e2 _ _ (r.row k hkm)
        · have hk2 : k = m := by omega
          have hg : (ps ++ [q]).getD k 0 = q := by
            rw [List.getD_eq_getElem?_getD, List.getElem?_append_right (by rw [r.len]; omega), r.len, hk2, Nat.sub_self]
            rfl
          rw [hg, upd_ne nqD, hk2]
          exact hq
    · obtain ⟨ex, ps, r, nd⟩ := p
      exact k Dl ps H' (fresh_back e1 hD) (e1.trans ex) r⟩
end
end Sg
namespace Sg
open PySem PySem.Spec PyProof.Rows L2 Evl
/-! ### a list of pairs of numbers -/
section
variable {K : PySem.W.Frag} {σ : L2.St} {H : Hp} {ta tb : TE}
structure Marks (H : Hp) (l : Addr) (n : Nat) (f : Nat → List V) (ps : List Addr) : Prop where
  len : ps.length = n
  at_ : H l = some (.lst (ps.map V.ref))
  row : ∀ k, k < n → H (ps.getD k 0) = some (.tup (f k))
theorem Marks.mono {H H' : Hp} {l : Addr} {n : Nat} {f : Nat → List V} {ps : List Addr} (e : Ex H H') (r : Marks H l n f ps) : Marks H' l n f ps := ⟨r.len, e l _ r.at_, fun k hk => e _ _ (r.row k hk)⟩
theorem Marks.ev {l : Addr} {n k : Nat} {i j : Int} {f : Nat → List V} {ps : List Addr} {v : V} (r : Marks H l n f ps) (ha : Ev ta σ H (.ref l)) (e : i = (k : Int)) (hk : k < n) (hj : atI (f k) j = some v) :
    Ev (tOp (rIxT K) (tOp (rIxL K) ta (tC (.int i))) (tC (.int j))) σ H v :=
  ev_op (ev_op ha ev_c (rv_ixL (sq_of r.at_) (by rw [e]; exact atI_nat (ref_at (by rw [r.len]; exact hk))))) ev_c (rv_ixT (st_of (r.row k hk)) hj)
theorem getD_app_lt {ps : List Addr} {q : Addr} {k n : Nat} (hl : ps.length = n) (h : k < n) : (ps ++ [q]).getD k 0 = ps.getD k 0 := by
  rw [List.getD_eq_getElem?_getD, List.getD_eq_getElem?_getD, List.getElem?_append_left (by rw [hl]; exact h)]
theorem getD_app_eq {ps : List Addr} {q : Addr} {n : Nat} (hl : ps.length = n) : (ps ++ [q]).getD n 0 = q := by
  rw [List.getD_eq_getElem?_getD, List.getElem?_append_right (by rw [hl]; exact Nat.le_refl n), hl, Nat.sub_self]
  rfl
theorem getD_ne {ps : List Addr} {q : Addr} {k n : Nat} (hl : ps.length = n) (h : k < n) (nd : q ∉ ps) : ps.getD k 0 ≠ q := fun e => nd (by
  rw [← e, List.getD_eq_getElem?_getD, List.getElem?_eq_getElem (by rw [hl]; exact h)]
  exact List.getElem_mem _)
end
end Sg
namespace Sg
/-! ### sums of sums -/
theorem getD_map_range {n c : Nat} (f : Nat → Int) (h : c < n) : ((List.range n).map f).getD c 0 = f c := by
  rw [List.getD_eq_getElem?_getD, List.getElem?_map, List.getElem?_range h] <;> rfl
theorem getD_sumsL {ns : List Int} {c : Nat} (h : c < ns.length) : (sumsL ns).getD c 0 = sumAt ns c := getD_map_range _ h
theorem list_eq_range (ns : List Int) : ns = (List.range ns.length).map fun i => ns.getD i 0 := by
  refine List.ext_getElem (by rw [List.length_map, List.length_range]) fun k h1 _ => ?_
  rw [List.getElem_map, List.getElem_range, List.getD_eq_getElem?_getD, List.getElem?_eq_getElem h1] <;> rfl
theorem sg_symm : ∀ p, p < 32 → ∀ c, c < 32 → sg (p : Nat) (c : Nat) = sg (c : Nat) (p : Nat) := by decide +kernel
theorem sg_ortho : ∀ s, s < 6 → ∀ p, p < 2 ^ s → ∀ q, q < 2 ^ s → sm (2 ^ s) (fun c => sg (p : Nat) (c : Nat) * sg (c : Nat) (q : Nat)) = if p = q then ((2 ^ s : Nat) : Int) else 0 := by decide +kernel
theorem sumAt_twice {ns : List Int} {s : Nat} (hs : s < 6) (hn : ns.length = 2 ^ s) {q : Nat} (hq : q < 2 ^ s) : sumAt (sumsL ns) q = (ns.length : Int) * ns.getD q 0 := by
  unfold sumAt
  rw [sumsL_length]
  have h32 := (Sg.pow_le' hs)
  have e1 : sm ns.length (fun c => sg (c : Nat) (q : Nat) * (sumsL ns).getD c 0) = sm ns.length fun c => sm ns.length fun p => ns.getD p 0 * (sg (p : Nat) (c : Nat) * sg (c : Nat) (q : Nat)) := by
    refine sm_congr fun c hc => ?_
    rw [getD_sumsL hc]
    unfold sumAt
    rw [← sm_mulL]
    refine sm_congr fun p _ => ?_
    rw [← Int.mul_assoc, Int.mul_comm, Int.mul_comm (sg (c : Nat) (q : Nat))]
  rw [e1, sm_swap]
  have e2 : sm ns.length (fun p => sm ns.length fun c => ns.getD p 0 * (sg (p : Nat) (c : Nat) * sg (c : Nat) (q : Nat))) = sm ns.length fun p => (ns.length : Int) * (ns.getD p 0 * (if p = q then 1 else 0)) := by
    refine sm_congr fun p hp => ?_
    rw [sm_mulL, hn, sg_ortho s hs p (by omega) q hq]
    by_cases h : p = q
    · rw [if_pos h, if_pos h, Int.mul_one, Int.mul_comm]
    · rw [if_neg h, if_neg h, Int.mul_zero, Int.mul_zero]
  rw [e2, sm_mulL, sm_delta, if_pos (by omega)]
theorem map_eq_range (ns : List Int) (g : Int → Int) : ns.map g = (List.range ns.length).map fun i => g (ns.getD i 0) := by
  refine List.ext_getElem (by rw [List.length_map, List.length_map, List.length_range]) fun k h1 h2 => ?_
  rw [List.length_map] at h1
  rw [List.getElem_map, List.getElem_map, List.getElem_range, List.getD_eq_getElem?_getD, List.getElem?_eq_getElem h1] <;> rfl
/-- the sums of the sums -/
theorem sums_twice {ns : List Int} {s : Nat} (hs : s < 6) (hn : ns.length = 2 ^ s) : sumsL (sumsL ns) = ns.map fun x => x * (ns.length : Int) := by
  rw [map_eq_range]
  show (List.range (sumsL ns).length).map (sumAt (sumsL ns)) = _
  rw [sumsL_length]
  refine List.map_congr_left fun q hq => ?_
  rw [List.mem_range] at hq
  rw [sumAt_twice hs hn (by omega), Int.mul_comm]
/-- the row whose sums these are -/
def backL (ns : List Int) : List Int := (sumsL ns).map fun x => x / (ns.length : Int)
theorem back_sums {ns : List Int} {s : Nat} (hs : s < 6) (hn : ns.length = 2 ^ s) : backL (sumsL ns) = ns := by
  unfold backL
  rw [sums_twice hs hn, sumsL_length, List.map_map]
  refine (List.map_congr_left fun x _ => ?_).trans (List.map_id ns)
  have h0 : (ns.length : Int) ≠ 0 := by have := Nat.two_pow_pos s; omega
  exact Int.mul_ediv_cancel _ h0
theorem sums_twice_mod {ns : List Int} {s : Nat} (hs : s < 6) (hn : ns.length = 2 ^ s) : ∀ x ∈ sumsL (sumsL ns), x % (ns.length : Int) = 0 := by
  intro x hx
  rw [sums_twice hs hn] at hx
  obtain ⟨y, _, rfl⟩ := List.mem_map.mp hx
  exact Int.mul_emod_left _ _
/-! ### how great sums are -/
theorem sm_bd {n : Nat} {f : Nat → Int} {B : Int} (h : ∀ i, i < n → -B ≤ f i ∧ f i ≤ B) : -((n : Int) * B) ≤ sm n f ∧ sm n f ≤ (n : Int) * B := by
  induction n with
  | zero => rw [sm_zero]; simp
  | succ n ih =>
    have h1 := ih fun i hi => h i (by omega)
    have h2 := h n (by omega)
    rw [sm_succ, Int.natCast_succ, Int.add_mul, Int.one_mul]
    generalize (n : Int) * B = z at h1
    omega
theorem sg_bd (p c : Int) (x B : Int) (h : -B ≤ x ∧ x ≤ B) : -B ≤ sg p c * x ∧ sg p c * x ≤ B := by
  have z := sg_abs1 p c
  have z2 : sg p c = 1 ∨ sg p c = -1 := by omega
  rcases z2 with e | e <;> rw [e] <;> omega
theorem getD_bd {ns : List Int} {B : Int} (hB : 0 ≤ B) (h : ∀ x ∈ ns, -B ≤ x ∧ x ≤ B) (p : Nat) : -B ≤ ns.getD p 0 ∧ ns.getD p 0 ≤ B := by
  rw [List.getD_eq_getElem?_getD]
  cases e : ns[p]? with
  | none => show -B ≤ 0 ∧ 0 ≤ B; omega
  | some x => exact h x (List.mem_of_getElem? e)
theorem sumsL_bd {ns : List Int} {B : Int} (hB : 0 ≤ B) (h : ∀ x ∈ ns, -B ≤ x ∧ x ≤ B) : ∀ y ∈ sumsL ns, -((ns.length : Int) * B) ≤ y ∧ y ≤ (ns.length : Int) * B := by
  intro y hy
  obtain ⟨c, _, rfl⟩ := List.mem_map.mp hy
  exact sm_bd fun p _ => sg_bd _ _ _ _ (getD_bd hB h p)
theorem sums_isRow {ns : List Int} {B : Int} (hB : 0 ≤ B) (hn : ns.length ∈ [1, 2, 4, 8, 16, 32]) (h : ∀ x ∈ ns, -B ≤ x ∧ x ≤ B) (hb : (ns.length : Int) * B ≤ 100000000000000000000) : IsRow (sumsL ns) := by
  refine ⟨by rw [sumsL_length]; exact hn, fun y hy => ?_⟩
  have := sumsL_bd hB h y hy
  omega
/-! ### the squares; two rows together -/
def sq (ns : List Int) : Int := (ns.map fun x => x * x).sum
theorem sum_range (n : Nat) (f : Nat → Int) : ((List.range n).map f).sum = sm n f := rfl
theorem sq_sm (ns : List Int) : sq ns = sm ns.length fun i => ns.getD i 0 * ns.getD i 0 := by
  unfold sq
  rw [map_eq_range]
  exact sum_range _ _
theorem parseval {ns : List Int} {s : Nat} (hs : s < 6) (hn : ns.length = 2 ^ s) : sq (sumsL ns) = (ns.length : Int) * sq ns := by
  rw [sq_sm, sumsL_length, sq_sm]
  have h32 := pow_le' hs
  have e1 : sm ns.length (fun c => (sumsL ns).getD c 0 * (sumsL ns).getD c 0) = sm ns.length fun c => sm ns.length fun p => ns.getD p 0 * (sg (p : Nat) (c : Nat) * (sumsL ns).getD c 0) := by
    refine sm_congr fun c hc => ?_
    have e : (sumsL ns).getD c 0 * (sumsL ns).getD c 0 = (sumsL ns).getD c 0 * sumAt ns c := by rw [getD_sumsL hc]
    rw [e]
    unfold sumAt
    rw [← sm_mulL]
    refine sm_congr fun p _ => ?_
    rw [Int.mul_comm, Int.mul_comm (sg _ _) (ns.getD p 0), Int.mul_assoc]
  rw [e1, sm_swap, ← sm_mulL]
  refine sm_congr fun p hp => ?_
  rw [sm_mulL]
  have e2 : sm ns.length (fun c => sg (p : Nat) (c : Nat) * (sumsL ns).getD c 0) = sumAt (sumsL ns) p := by
    unfold sumAt
    rw [sumsL_length]
    exact sm_congr fun c hc => by rw [sg_symm p (by omega) c (by omega)]
  rw [e2, sumAt_twice hs hn (by omega), ← Int.mul_assoc, Int.mul_comm (ns.getD p 0), Int.mul_assoc]
def addL (ns ms : List Int) : List Int := (List.range ns.length).map fun i => ns.getD i 0 + ms.getD i 0
theorem addL_length (ns ms : List Int) : (addL ns ms).length = ns.length := by
  unfold addL
  rw [List.length_map, List.length_range]
theorem sums_add {ns ms : List Int} (h : ms.length = ns.length) : sumsL (addL ns ms) = addL (sumsL ns) (sumsL ms) := by
  show (List.range (addL ns ms).length).map (sumAt (addL ns ms)) = (List.range (sumsL ns).length).map fun i => (sumsL ns).getD i 0 + (sumsL ms).getD i 0
  rw [addL_length, sumsL_length]
  refine List.map_congr_left fun c hc => ?_
  rw [List.mem_range] at hc
  rw [getD_sumsL hc, getD_sumsL (by omega)]
  unfold sumAt
  rw [addL_length, h, ← sm_add]
  refine sm_congr fun p hp => ?_
  unfold addL
  rw [getD_map_range _ hp, Int.mul_add]
end Sg
namespace Sg
/-! ### woven -/
def par (m : Nat) : Nat := (m % 2 + m / 2 % 2 + m / 4 % 2 + m / 8 % 2 + m / 16 % 2) % 2
theorem sg_par : ∀ p, p < 32 → ∀ c, c < 32 → sg (p : Nat) (c : Nat) = if par (p &&& c) = 0 then 1 else -1 := by decide +kernel
theorem par_xor : ∀ x, x < 32 → ∀ y, y < 32 → ∀ c, c < 32 → par ((x ^^^ y) &&& c) = (par (x &&& c) + par (y &&& c)) % 2 := by decide +kernel
theorem par_lt (m : Nat) : par m < 2 := Nat.mod_lt _ (by decide)
theorem xor_lt : ∀ s, s < 6 → ∀ x, x < 2 ^ s → ∀ y, y < 2 ^ s → x ^^^ y < 2 ^ s := by decide +kernel
theorem sg_mul {x y c : Nat} (hx : x < 32) (hy : y < 32) (hc : c < 32) : sg (x : Nat) (c : Nat) * sg (y : Nat) (c : Nat) = sg ((x ^^^ y : Nat) : Int) (c : Nat) := by
  have hxy : x ^^^ y < 32 := xor_lt 5 (by decide) x hx y hy
  rw [sg_par x hx c hc, sg_par y hy c hc, sg_par _ hxy c hc, par_xor x hx y hy c hc]
  have h1 := par_lt (x &&& c)
  have h2 := par_lt (y &&& c)
  generalize par (x &&& c) = a at h1
  generalize par (y &&& c) = b at h2
  have e : (a = 0 ∨ a = 1) ∧ (b = 0 ∨ b = 1) := ⟨by omega, by omega⟩
  obtain ⟨rfl | rfl, rfl | rfl⟩ := e <;> rfl
/-- the exclusive, as the law reckons it -/
def exStep (x y : Int) (f w : Int) : Int := if x / w % 2 = y / w % 2 then f else f + w
def exI (x y : Int) : Int := [1, 2, 4, 8, 16].foldl (exStep x y) 0
theorem exI_xor : ∀ x, x < 32 → ∀ y, y < 32 → exI (x : Nat) (y : Nat) = ((x ^^^ y : Nat) : Int) := by decide +kernel
def mulL (ns ms : List Int) : List Int := (List.range ns.length).map fun i => ns.getD i 0 * ms.getD i 0
theorem mulL_length (ns ms : List Int) : (mulL ns ms).length = ns.length := by
  unfold mulL
  rw [List.length_map, List.length_range]
/-- the program's woven row -/
def weave (ns ms : List Int) : List Int := (sumsL (mulL (sumsL ns) (sumsL ms))).map fun x => x / (ns.length : Int)
/-- the law's -/
def conv (ns ms : List Int) (z : Nat) : Int := sm ns.length fun x => sm ms.length fun y => if x ^^^ y = z then ns.getD x 0 * ms.getD y 0 else 0
def convL (ns ms : List Int) : List Int := (List.range ns.length).map (conv ns ms)
theorem sm_prod (n m : Nat) (f g : Nat → Int) : sm n f * sm m g = sm n fun x => sm m fun y => f x * g y := by
  rw [← sm_mulR]
  exact sm_congr fun x _ => (sm_mulL m (f x) g).symm
theorem sumAt_mul {ns ms : List Int} {s : Nat} (hs : s < 6) (hn : ns.length = 2 ^ s) (hm : ms.length = 2 ^ s) {z : Nat} (hz : z < 2 ^ s) :
    sumAt (mulL (sumsL ns) (sumsL ms)) z = (ns.length : Int) * conv ns ms z := by
  have h32 := pow_le' hs
  unfold sumAt
  rw [mulL_length, sumsL_length]
  have e1 : sm ns.length (fun c => sg (c : Nat) (z : Nat) * (mulL (sumsL ns) (sumsL ms)).getD c 0) = sm ns.length fun c => sm ns.length fun x => sm ms.length fun y => (ns.getD x 0 * ms.getD y 0) * (sg ((x ^^^ y : Nat) : Int) (c : Nat) * sg (c : Nat) (z : Nat)) := by
    refine sm_congr fun c hc => ?_
    have e : (mulL (sumsL ns) (sumsL ms)).getD c 0 = sumAt ns c * sumAt ms c := by
      unfold mulL
      rw [getD_map_range _ (by rw [sumsL_length]; exact hc), getD_sumsL hc, getD_sumsL (by omega)]
    rw [e]
    unfold sumAt
    rw [sm_prod, ← sm_mulL]
    refine sm_congr fun x hx => ?_
    rw [← sm_mulL]
    refine sm_congr fun y hy => ?_
    rw [← sg_mul (x := x) (y := y) (c := c) (by omega) (by omega) (by omega)]
    generalize sg (c : Nat) (z : Nat) = u
    generalize sg (x : Nat) (c : Nat) = v
    generalize sg (y : Nat) (c : Nat) = w
    generalize ns.getD x 0 = a
    generalize ms.getD y 0 = b
    simp only [Int.mul_assoc, Int.mul_comm, Int.mul_left_comm]
  rw [e1, sm_swap]
  unfold conv
  rw [← sm_mulL]
  refine sm_congr fun x hx => ?_
  rw [sm_swap, ← sm_mulL]
  refine sm_congr fun y hy => ?_
  have hxy : x ^^^ y < 2 ^ s := xor_lt s hs x (by omega) y (by omega)
  rw [sm_mulL, hn, sg_ortho s hs _ hxy z hz]
  by_cases h : x ^^^ y = z
  · rw [if_pos h, if_pos h, Int.mul_comm]
  · rw [if_neg h, if_neg h, Int.mul_zero, Int.mul_zero]
theorem weave_eq {ns ms : List Int} {s : Nat} (hs : s < 6) (hn : ns.length = 2 ^ s) (hm : ms.length = 2 ^ s) : weave ns ms = convL ns ms := by
  unfold weave convL
  show ((List.range (mulL (sumsL ns) (sumsL ms)).length).map (sumAt (mulL (sumsL ns) (sumsL ms)))).map _ = _
  rw [List.map_map, mulL_length, sumsL_length]
  refine List.map_congr_left fun z hz => ?_
  rw [List.mem_range] at hz
  show sumAt (mulL (sumsL ns) (sumsL ms)) z / (ns.length : Int) = _
  rw [sumAt_mul hs hn hm (by omega)]
  have h0 : (ns.length : Int) ≠ 0 := by have := Nat.two_pow_pos s; omega
  exact Int.mul_ediv_cancel_left _ h0
theorem mulL_comm {ns ms : List Int} (h : ns.length = ms.length) : mulL ns ms = mulL ms ns := by
  unfold mulL
  rw [h]
  exact List.map_congr_left fun i _ => Int.mul_comm _ _
theorem weave_comm {ns ms : List Int} (h : ns.length = ms.length) : weave ns ms = weave ms ns := by
  unfold weave
  rw [mulL_comm (by rw [sumsL_length, sumsL_length]; exact h), h]
theorem weave_length (ns ms : List Int) : (weave ns ms).length = ns.length := by
  unfold weave
  rw [List.length_map, sumsL_length, mulL_length, sumsL_length]
/-- the sums of the woven row are the products of the sums -/
theorem sums_weave {ns ms : List Int} {s : Nat} (hs : s < 6) (hn : ns.length = 2 ^ s) (hm : ms.length = 2 ^ s) : sumsL (weave ns ms) = mulL (sumsL ns) (sumsL ms) := by
  have hp : (mulL (sumsL ns) (sumsL ms)).length = 2 ^ s := by rw [mulL_length, sumsL_length, hn]
  have e : sumsL (mulL (sumsL ns) (sumsL ms)) = (weave ns ms).map fun x => (ns.length : Int) * x := by
    rw [weave_eq hs hn hm]
    unfold convL
    rw [List.map_map]
    show (List.range (mulL (sumsL ns) (sumsL ms)).length).map (sumAt (mulL (sumsL ns) (sumsL ms))) = _
    rw [mulL_length, sumsL_length]
    refine List.map_congr_left fun z hz => ?_
    rw [List.mem_range] at hz
    exact sumAt_mul hs hn hm (by omega)
  have e2 := sums_twice hs hp
  rw [e] at e2
  -- the sums of n times a row are n times its sums
  have e3 : sumsL ((weave ns ms).map fun x => (ns.length : Int) * x) = (sumsL (weave ns ms)).map fun x => (ns.length : Int) * x := by
    show (List.range ((weave ns ms).map fun x => (ns.length : Int) * x).length).map (sumAt ((weave ns ms).map fun x => (ns.length : Int) * x)) = ((List.range (weave ns ms).length).map (sumAt (weave ns ms))).map _
    rw [List.length_map, List.map_map]
    refine List.map_congr_left fun c _ => ?_
    show sumAt ((weave ns ms).map fun x => (ns.length : Int) * x) c = (ns.length : Int) * sumAt (weave ns ms) c
    unfold sumAt
    rw [List.length_map, ← sm_mulL]
    refine sm_congr fun p hp => ?_
    rw [map_eq_range, getD_map_range _ hp, Int.mul_left_comm]
  rw [e3, hp, ← hn] at e2
  have h0 : (ns.length : Int) ≠ 0 := by have := Nat.two_pow_pos s; omega
  have e4 : (sumsL (weave ns ms)).map (fun x => (ns.length : Int) * x) = (mulL (sumsL ns) (sumsL ms)).map (fun x => (ns.length : Int) * x) := by
    rw [e2]
    exact List.map_congr_left fun x _ => Int.mul_comm _ _
  have e5 := congrArg (List.map fun x => x / (ns.length : Int)) e4
  rw [List.map_map, List.map_map] at e5
  have idm : ∀ l : List Int, l.map ((fun x => x / (ns.length : Int)) ∘ fun x => (ns.length : Int) * x) = l := fun l => by
    refine (List.map_congr_left fun x _ => ?_).trans (List.map_id l)
    exact Int.mul_ediv_cancel_left _ h0
  rw [idm, idm] at e5
  exact e5
end Sg
namespace Sg
open PySem PySem.Spec PyProof.Rows L2 Evl
def sp_ask_match (K : PySem.W.Frag) : Sp := fun vs H Q E => ∃ (a b : Addr) (ns ms : List Int), vs = [.ref a, .ref b] ∧ SqL K H a (ns.map V.int) ∧ SqL K H b (ms.map V.int) ∧
  (IsRow ns → IsRow ms → ns.length = ms.length → ∀ H', Ex H H' → Q .non H') ∧ (IsRow ns → IsRow ms → ¬ ns.length = ms.length → ∀ H', Ex H H' → E (.ref (He.ga K "NoMatch")) none H') ∧
  (¬ (IsRow ns ∧ IsRow ms) → ∀ H', Ex H H' → E (.ref (He.ga K "NoRow")) none H')
def sp_woven (K : PySem.W.Frag) : Sp := fun vs H Q E => ∃ (a b : Addr) (ns ms : List Int), vs = [.ref a, .ref b] ∧ SqL K H a (ns.map V.int) ∧ SqL K H b (ms.map V.int) ∧
  (IsRow ns → IsRow ms → ns.length = ms.length → RetL ((weave ns ms).map V.int) H Q) ∧ (IsRow ns → IsRow ms → ¬ ns.length = ms.length → ∀ H', Ex H H' → E (.ref (He.ga K "NoMatch")) none H') ∧
  (¬ (IsRow ns ∧ IsRow ms) → ∀ H', Ex H H' → E (.ref (He.ga K "NoRow")) none H')
theorem len_ask_match {K : PySem.W.Frag} : ∀ vs H Q E, sp_ask_match K vs H Q E → vs.length = 2 := fun _ _ _ _ h => by
  obtain ⟨_, _, _, _, rfl, _⟩ := h; rfl
theorem len_woven {K : PySem.W.Frag} : ∀ vs H Q E, sp_woven K vs H Q E → vs.length = 2 := fun _ _ _ _ h => by
  obtain ⟨_, _, _, _, rfl, _⟩ := h; rfl
section
variable {K : PySem.W.Frag} {σ : L2.St} {H : Hp} {ta tb te : TE}
theorem el_wovenS {E : XK} {ns ms : List Int} (h : EvS K ta σ H ns) (h2 : EvS K tb σ H ms) (r1 : IsRow ns) (r2 : IsRow ms) (hl : ns.length = ms.length) : EvL (tCall (sp_woven K) [] E (tCons ta (tCons tb tNil))) σ H ((weave ns ms).map V.int) :=
  el_callSS h h2 fun p q H1 _ hp hq Q E r => ⟨p, q, ns, ms, rfl, hp, hq, fun _ _ _ => r, fun _ _ n => absurd hl n, fun n => absurd ⟨r1, r2⟩ n⟩
/-- [e for x, y in zip(..)] over two lists as long as one another -/
theorem el_zip {ta : TA} {i j n : Nat} {vs : List Nat} {xs ys : List Int} (g : Int → Int → V) (h : ∀ H1, Ex H H1 → ∀ Q : List V → Hp → Prop, (∀ p q H2, Ex H1 H2 → SqL K H2 p (xs.map V.int) → SqL K H2 q (ys.map V.int) → Q [.ref p, .ref q] H2) → ta σ H1 Q)
    (hx : xs.length = n) (hy : ys.length = n) (hn : n ≤ 40000) (hw : ∀ x y, wipe (((wipe σ vs).set i (some x)).set j (some y)) vs = wipe σ vs)
    (he : ∀ k, k < n → ∀ H1, Ex H H1 → Ev te (((wipe σ vs).set i (some (.int (xs.getD k 0)))).set j (some (.int (ys.getD k 0)))) H1 (g (xs.getD k 0) (ys.getD k 0))) :
    EvL (tLc (iZip K ta) (gTup K 2 (gCons (gName i) (gCons (gName j) gNil))) tYes te vs) σ H ((List.range n).map fun k => g (xs.getD k 0) (ys.getD k 0)) := fun H0 e0 Q q =>
  h H0 e0 _ fun a b H1 e1 hA hB => ⟨a, b, _, _, rfl, hA, hB, fun Dl hD => by
    refine ⟨fun k m H' => m = n - k ∧ k ≤ n ∧ Cw H1 (fun _ => true) (fun k => g (xs.getD k 0) (ys.getD k 0)) Dl k H', ⟨n, rfl, Nat.zero_le _, hD, Ex.new hD, upd_same⟩, ?_⟩
    rintro k m H' ⟨rfl, hk, p⟩
    have qA := ex_l p.2.1 hA
    have qB := ex_l p.2.1 hB
    by_cases hlt : k < n
    · have gx : (xs.map V.int)[k]? = some (.int (xs.getD k 0)) := map_at (by omega)
      have gy : (ys.map V.int)[k]? = some (.int (ys.getD k 0)) := map_at (by omega)
      refine .inr ⟨⟨_, _, _, _, qA, qB, gx, gy⟩, fun H' => Cw H1 (fun _ => true) (fun k => g (xs.getD k 0) (ys.getD k 0)) Dl (k + 1) H', fun H2 p2 => ⟨n - (k + 1), by omega, rfl, hlt, p2⟩, fun v H2 hv => ?_⟩
      obtain ⟨T, x', y', rfl, hT, rfl, f1, f2⟩ := hv
      have ex := Option.some.inj ((f1 _ qA).symm.trans gx)
      have ey := Option.some.inj ((f2 _ qB).symm.trans gy)
      subst ex ey
      refine ⟨T, _, rfl, st_of upd_same, rfl, _, _, rfl, _, _, rfl, rfl, hw _ _, ?_⟩
      have p2 : Cw H1 (fun _ => true) (fun k => g (xs.getD k 0) (ys.getD k 0)) Dl k (upd H' T (.tup [.int (xs.getD k 0), .int (ys.getD k 0)])) := ⟨p.1, p.2.1.trans (Ex.new hT), Ex.new hT Dl _ p.2.2⟩
      exact cw_turn (v := fun k => g (xs.getD k 0) (ys.getD k 0)) p2 (by omega) et_yes fun _ => he k hlt H1 (e0.trans e1)
    · have ek : k = n := by omega
      subst ek
      refine .inl ⟨⟨_, _, qA, qB, .inl (by rw [List.length_map]; omega)⟩, q Dl H' (fresh_back e1 p.1) (e1.trans p.2.1) ?_⟩
      have p3 := p.2.2
      rw [given_yes_all] at p3
      exact p3⟩
theorem row_bd {ns : List Int} (h : IsRow ns) : ∀ x ∈ ns, -100000000000000000000 ≤ x ∧ x ≤ 100000000000000000000 := h.2
theorem sums_nat {ns : List Int} (h : IsRow ns) (i : Nat) : ((sumsL ns).getD i 0).natAbs < 2 ^ 80 := by
  have h1 := sumsL_bd (ns := ns) (B := 100000000000000000000) (by decide) h.2
  have h2 := row_pos h
  have h3 := getD_bd (ns := sumsL ns) (B := 32 * 100000000000000000000) (by decide) (fun x hx => by have := h1 x hx; omega) i
  omega
end
end Sg
namespace Sg
/-! ### sign rows -/
def Signs (ns : List Int) : Prop := ∀ x ∈ ns, x = 1 ∨ x = -1
instance (ns : List Int) : Decidable (Signs ns) := by
  unfold Signs
  infer_instance
def strL (n c : Nat) (f : Int) : List Int := (List.range n).map fun p => sg (p : Nat) (c : Nat) * f
theorem strL_length (n c : Nat) (f : Int) : (strL n c f).length = n := by
  unfold strL
  rw [List.length_map, List.length_range]
theorem sg_pm (p c : Int) : sg p c = 1 ∨ sg p c = -1 := by
  have z := sg_abs1 p c
  omega
theorem strL_signs {n c : Nat} {f : Int} (hf : f = 1 ∨ f = -1) : Signs (strL n c f) := by
  intro x hx
  obtain ⟨p, _, rfl⟩ := List.mem_map.mp hx
  rcases sg_pm (p : Nat) (c : Nat) with e | e <;> rcases hf with rfl | rfl <;> rw [e] <;> decide
theorem signs_isRow {ns : List Int} (h : ns.length ∈ [1, 2, 4, 8, 16, 32]) (s : Signs ns) : IsRow ns := by
  refine ⟨h, fun x hx => ?_⟩
  rcases s x hx with rfl | rfl <;> decide
theorem sumAt_str {s c q : Nat} {f : Int} (hs : s < 6) (hc : c < 2 ^ s) (hq : q < 2 ^ s) : sumAt (strL (2 ^ s) c f) q = if c = q then ((2 ^ s : Nat) : Int) * f else 0 := by
  have h32 := pow_le' hs
  unfold sumAt
  rw [strL_length]
  have e : sm (2 ^ s) (fun p => sg (p : Nat) (q : Nat) * (strL (2 ^ s) c f).getD p 0) = sm (2 ^ s) fun p => f * (sg (c : Nat) (p : Nat) * sg (p : Nat) (q : Nat)) := by
    refine sm_congr fun p hp => ?_
    unfold strL
    rw [getD_map_range _ hp, sg_symm p (by omega) c (by omega)]
    rw [← Int.mul_assoc, Int.mul_comm, Int.mul_comm (sg (p : Nat) (q : Nat))]
  rw [e, sm_mulL, sg_ortho s hs c hc q hq]
  by_cases h : c = q
  · rw [if_pos h, if_pos h, Int.mul_comm]
  · rw [if_neg h, if_neg h, Int.mul_zero]
theorem sums_str {s c : Nat} {f : Int} (hs : s < 6) (hc : c < 2 ^ s) : sumsL (strL (2 ^ s) c f) = (List.range (2 ^ s)).map fun p => ((2 ^ s : Nat) : Int) * f * (if p = c then 1 else 0) := by
  unfold sumsL
  rw [strL_length]
  refine List.map_congr_left fun q hq => ?_
  rw [List.mem_range] at hq
  rw [sumAt_str hs hc hq]
  by_cases h : c = q
  · rw [if_pos h, if_pos h.symm, Int.mul_one]
  · rw [if_neg h, if_neg (fun e => h e.symm), Int.mul_zero]
/-- at how many places two rows differ -/
def distL (ns ms : List Int) : Nat := ((List.range ns.length).filter fun p => !decide (ns.getD p 0 = ms.getD p 0)).length
theorem count_inner (f g : Nat → Int) : ∀ n, (∀ i, i < n → (f i = 1 ∨ f i = -1) ∧ (g i = 1 ∨ g i = -1)) → sm n (fun i => f i * g i) = (n : Int) - 2 * (((List.range n).filter fun p => !decide (f p = g p)).length : Int)
  | 0, _ => rfl
  | n + 1, h => by
    have ih := count_inner f g n fun i hi => h i (by omega)
    rw [sm_succ, ih, List.range_succ, List.filter_append, List.length_append]
    obtain ⟨h1, h2⟩ := h n (by omega)
    by_cases e : f n = g n
    · have e1 : f n * g n = 1 := by
        rw [← e]
        rcases h1 with a | a <;> rw [a] <;> rfl
      have e2 : [n].filter (fun p => !decide (f p = g p)) = [] := by simp [e]
      rw [e1, e2, List.length_nil]
      omega
    · have e1 : f n * g n = -1 := by
        rcases h1 with a | a <;> rcases h2 with b | b <;> rw [a, b]
        · exact absurd (a.trans b.symm) e
        · rfl
        · rfl
        · exact absurd (a.trans b.symm) e
      have e2 : [n].filter (fun p => !decide (f p = g p)) = [n] := by simp [e]
      rw [e1, e2, List.length_singleton]
      omega
theorem getD_sign {ns : List Int} (s : Signs ns) {i : Nat} (h : i < ns.length) : ns.getD i 0 = 1 ∨ ns.getD i 0 = -1 := by
  rw [List.getD_eq_getElem?_getD, List.getElem?_eq_getElem h]
  exact s _ (List.getElem_mem h)
theorem dist_inner {ns ms : List Int} (h : ns.length = ms.length) (s1 : Signs ns) (s2 : Signs ms) : sm ns.length (fun i => ns.getD i 0 * ms.getD i 0) = (ns.length : Int) - 2 * (distL ns ms : Int) :=
  count_inner _ _ _ fun i hi => ⟨getD_sign s1 hi, getD_sign s2 (by omega)⟩
/-- how far two straight rows are apart -/
theorem dist_str {s c d : Nat} {f g : Int} (hs : s < 6) (hc : c < 2 ^ s) (hd : d < 2 ^ s) (hf : f = 1 ∨ f = -1) (hg : g = 1 ∨ g = -1) :
    ((2 ^ s : Nat) : Int) - 2 * (distL (strL (2 ^ s) c f) (strL (2 ^ s) d g) : Int) = if c = d then ((2 ^ s : Nat) : Int) * (f * g) else 0 := by
  have h32 := pow_le' hs
  have e := dist_inner (ns := strL (2 ^ s) c f) (ms := strL (2 ^ s) d g) (by rw [strL_length, strL_length]) (strL_signs hf) (strL_signs hg)
  rw [strL_length] at e
  rw [← e]
  have e2 : sm (2 ^ s) (fun i => (strL (2 ^ s) c f).getD i 0 * (strL (2 ^ s) d g).getD i 0) = sm (2 ^ s) fun i => (f * g) * (sg (c : Nat) (i : Nat) * sg (i : Nat) (d : Nat)) := by
    refine sm_congr fun i hi => ?_
    unfold strL
    rw [getD_map_range _ hi, getD_map_range _ hi, sg_symm i (by omega) c (by omega)]
    simp only [Int.mul_assoc, Int.mul_comm, Int.mul_left_comm]
  rw [e2, sm_mulL, sg_ortho s hs c hc d hd]
  by_cases h : c = d
  · rw [if_pos h, if_pos h, Int.mul_comm]
  · rw [if_neg h, if_neg h, Int.mul_zero]
/-- the program's sign, place and choice halved again and again -/
theorem sg_half : ∀ p, p < 32 → ∀ c, c < 32 → sg (p : Nat) (c : Nat) = (if p % 2 = 1 ∧ c % 2 = 1 then -1 else 1) * sg ((p / 2 : Nat) : Int) ((c / 2 : Nat) : Int) := by decide +kernel
theorem sg_nought : ∀ p, p < 32 → sg (p : Nat) (0 : Nat) = 1 ∧ sg (0 : Nat) (p : Nat) = 1 := by decide +kernel
end Sg
namespace Sg
open PySem PySem.Spec PyProof.Rows L2 Evl
def sp_ask_steps (K : PySem.W.Frag) : Sp := fun vs H Q E => ∃ (s : Int), vs = [.int s] ∧ (0 ≤ s ∧ s ≤ 5 → ∀ H', Ex H H' → Q .non H') ∧ (¬ (0 ≤ s ∧ s ≤ 5) → ∀ H', Ex H H' → E (.ref (He.ga K "NoStep")) none H')
def sp_are_signs (K : PySem.W.Frag) : Sp := fun vs H Q _ => ∃ (a : Addr) (ns : List Int), vs = [.ref a] ∧ SqL K H a (ns.map V.int) ∧ ns.length ≤ 1000 ∧ RetV (.bl (decide (Signs ns))) H Q
def sp_ask_signs (K : PySem.W.Frag) : Sp := fun vs H Q E => ∃ (a : Addr) (ns : List Int), vs = [.ref a] ∧ SqL K H a (ns.map V.int) ∧ ns.length ≤ 1000 ∧ (Signs ns → ∀ H', Ex H H' → Q .non H') ∧ (¬ Signs ns → ∀ H', Ex H H' → E (.ref (He.ga K "NoSigns")) none H')
def sp_sign (K : PySem.W.Frag) : Sp := fun vs H Q _ => ∃ (p c : Nat), vs = [.int p, .int c] ∧ p < 32 ∧ c < 32 ∧ RetV (.int (sg (p : Nat) (c : Nat))) H Q
def sp_straight (K : PySem.W.Frag) : Sp := fun vs H Q E => ∃ (s c : Int) (t : Bool), vs = [.int s, .int c, .bl t] ∧
  (0 ≤ s ∧ s ≤ 5 → 0 ≤ c ∧ c < ((2 ^ s.toNat : Nat) : Int) → RetL ((strL (2 ^ s.toNat) c.toNat (if t then -1 else 1)).map V.int) H Q) ∧
  (0 ≤ s ∧ s ≤ 5 → ¬ (0 ≤ c ∧ c < ((2 ^ s.toNat : Nat) : Int)) → ∀ H', Ex H H' → E (.ref (He.ga K "NoChoice")) none H') ∧ (¬ (0 ≤ s ∧ s ≤ 5) → ∀ H', Ex H H' → E (.ref (He.ga K "NoStep")) none H')
def sp_distance (K : PySem.W.Frag) : Sp := fun vs H Q E => ∃ (a b : Addr) (ns ms : List Int), vs = [.ref a, .ref b] ∧ SqL K H a (ns.map V.int) ∧ SqL K H b (ms.map V.int) ∧
  (IsRow ns → IsRow ms → ns.length = ms.length → Signs ns → Signs ms → RetV (.int (distL ns ms : Nat)) H Q) ∧ (IsRow ns → IsRow ms → ns.length = ms.length → ¬ (Signs ns ∧ Signs ms) → ∀ H', Ex H H' → E (.ref (He.ga K "NoSigns")) none H') ∧
  (IsRow ns → IsRow ms → ¬ ns.length = ms.length → ∀ H', Ex H H' → E (.ref (He.ga K "NoMatch")) none H') ∧ (¬ (IsRow ns ∧ IsRow ms) → ∀ H', Ex H H' → E (.ref (He.ga K "NoRow")) none H')
theorem len_ask_steps {K : PySem.W.Frag} : ∀ vs H Q E, sp_ask_steps K vs H Q E → vs.length = 1 := fun _ _ _ _ h => by
  obtain ⟨_, rfl, _⟩ := h; rfl
theorem len_are_signs {K : PySem.W.Frag} : ∀ vs H Q E, sp_are_signs K vs H Q E → vs.length = 1 := fun _ _ _ _ h => by
  obtain ⟨_, _, rfl, _⟩ := h; rfl
theorem len_ask_signs {K : PySem.W.Frag} : ∀ vs H Q E, sp_ask_signs K vs H Q E → vs.length = 1 := fun _ _ _ _ h => by
  obtain ⟨_, _, rfl, _⟩ := h; rfl
theorem len_sign {K : PySem.W.Frag} : ∀ vs H Q E, sp_sign K vs H Q E → vs.length = 2 := fun _ _ _ _ h => by
  obtain ⟨_, _, rfl, _⟩ := h; rfl
theorem len_straight {K : PySem.W.Frag} : ∀ vs H Q E, sp_straight K vs H Q E → vs.length = 3 := fun _ _ _ _ h => by
  obtain ⟨_, _, _, rfl, _⟩ := h; rfl
theorem len_distance {K : PySem.W.Frag} : ∀ vs H Q E, sp_distance K vs H Q E → vs.length = 2 := fun _ _ _ _ h => by
  obtain ⟨_, _, _, _, rfl, _⟩ := h; rfl
section
variable {K : PySem.W.Frag} {σ : L2.St} {H : Hp} {ta tb tc te : TE} {z : V}
theorem ev_distS {E : XK} {ns ms : List Int} (h : EvS K ta σ H ns) (h2 : EvS K tb σ H ms) (r1 : IsRow ns) (r2 : IsRow ms) (hl : ns.length = ms.length) (s1 : Signs ns) (s2 : Signs ms) : Ev (tCall (sp_distance K) [] E (tCons ta (tCons tb tNil))) σ H (.int (distL ns ms : Nat)) :=
  ev_callSS h h2 fun p q H1 _ hp hq Q E r => ⟨p, q, ns, ms, rfl, hp, hq, fun _ _ _ _ _ => r, fun _ _ _ n => absurd ⟨s1, s2⟩ n, fun _ _ n => absurd hl n, fun n => absurd ⟨r1, r2⟩ n⟩
theorem el_straight {E : XK} {s c : Nat} {t : Bool} (h : Ev ta σ H (.int (s : Int))) (h2 : Ev tb σ H (.int (c : Int))) (h3 : Ev tc σ H (.bl t)) (hs : s ≤ 5) (hc : c < 2 ^ s) :
    EvL (tCall (sp_straight K) [] E (tCons ta (tCons tb (tCons tc tNil)))) σ H ((strL (2 ^ s) c (if t then -1 else 1)).map V.int) :=
  el_call (dvs := []) (ea_cons h (ea_cons h2 (ea_cons h3 ea_nil))) (spl fun H1 _ Q E q => ⟨s, c, t, rfl, fun _ _ => by
    rw [Int.toNat_natCast, Int.toNat_natCast]
    exact q, fun _ n => absurd (by rw [Int.toNat_natCast]; omega) n, fun n => absurd (by omega) n⟩)
/-- a number is 1 or -1 -/
theorem ev_sign1 {i : Int} (h : Ev te σ H (.int i)) : Ev (tOp (rIn K false) te (tTup (tCons (tC (.int 1)) (tCons (tUn rNegI (tC (.int 1))) tNil)))) σ H (.bl (decide (i = 1 ∨ i = -1))) :=
  ev_is (ev_inU h (eu_tup (ea_cons ev_c (ea_cons (ev_neg ev_c) ea_nil)) (by decide)) rfl rfl) (by rw [inV_two'])
end
end Sg
namespace Sg
/-! ### the nearest straight row -/
def apartN (ns : List Int) (c : Nat) (f : Int) : Nat := ((List.range ns.length).filter fun p => !decide (ns.getD p 0 = f * sg (p : Nat) (c : Nat))).length
/-- the straight rows in the order they are gone through: choice by choice, the one that isn't turned first -/
def facJ (j : Nat) : Int := if j % 2 = 1 then -1 else 1
def farJ (ns : List Int) (j : Nat) : Nat := apartN ns (j / 2) (facJ j)
def bestJ (d : Nat → Nat) : Nat → Option Nat
  | 0 => none
  | j + 1 => match bestJ d j with
    | none => some j
    | some b => if d j < d b then some j else some b
theorem bestJ_some (d : Nat → Nat) : ∀ j, ∃ b, bestJ d (j + 1) = some b ∧ b < j + 1 ∧ ∀ i, i < j + 1 → d b ≤ d i
  | 0 => ⟨0, rfl, by omega, fun i hi => by have : i = 0 := by omega
                                           rw [this]; exact Nat.le_refl _⟩
  | j + 1 => by
    obtain ⟨b, hb, hl, hm⟩ := bestJ_some d j
    show ∃ b', (match bestJ d (j + 1) with
      | none => some (j + 1)
      | some b => if d (j + 1) < d b then some (j + 1) else some b) = some b' ∧ _
    rw [hb]
    by_cases h : d (j + 1) < d b
    · refine ⟨j + 1, if_pos h, by omega, fun i hi => ?_⟩
      by_cases e : i = j + 1
      · rw [e]; exact Nat.le_refl _
      · exact Nat.le_trans (Nat.le_of_lt h) (hm i (by omega))
    · refine ⟨b, if_neg h, by omega, fun i hi => ?_⟩
      by_cases e : i = j + 1
      · rw [e]; omega
      · exact hm i (by omega)
theorem apart_inner {ns : List Int} (s : Signs ns) (c : Nat) {f : Int} (hf : f = 1 ∨ f = -1) : f * sumAt ns c = (ns.length : Int) - 2 * (apartN ns c f : Int) := by
  have h := count_inner (fun p => ns.getD p 0) (fun p => f * sg (p : Nat) (c : Nat)) ns.length fun i hi => ⟨getD_sign s hi, by
    rcases sg_pm (i : Nat) (c : Nat) with e | e <;> rcases hf with rfl | rfl <;> rw [e] <;> decide⟩
  unfold apartN
  rw [← h]
  unfold sumAt
  rw [← sm_mulL]
  refine sm_congr fun p _ => ?_
  rw [Int.mul_comm (ns.getD p 0), Int.mul_assoc]
theorem far_eq {ns : List Int} (s : Signs ns) (c : Nat) {f : Int} (hf : f = 1 ∨ f = -1) : ((ns.length : Int) - f * sumAt ns c) / 2 = (apartN ns c f : Int) := by
  rw [apart_inner s c hf]
  omega
theorem apart_le (ns : List Int) (c : Nat) (f : Int) : apartN ns c f ≤ ns.length := by
  unfold apartN
  have h := List.length_filter_le (fun p => !decide (ns.getD p 0 = f * sg (p : Nat) (c : Nat))) (List.range ns.length)
  rw [List.length_range] at h
  exact h
theorem facJ_pm (j : Nat) : facJ j = 1 ∨ facJ j = -1 := by
  unfold facJ
  split
  · exact .inr rfl
  · exact .inl rfl
/-- what nearest tells -/
def nearJ (ns : List Int) : Nat := (bestJ (farJ ns) (2 * ns.length)).getD 0
theorem nearJ_some {ns : List Int} (h : 0 < ns.length) : bestJ (farJ ns) (2 * ns.length) = some (nearJ ns) ∧ nearJ ns < 2 * ns.length ∧ ∀ i, i < 2 * ns.length → farJ ns (nearJ ns) ≤ farJ ns i := by
  obtain ⟨b, hb, hl, hm⟩ := bestJ_some (farJ ns) (2 * ns.length - 1)
  have e : 2 * ns.length - 1 + 1 = 2 * ns.length := by omega
  rw [e] at hb hl hm
  unfold nearJ
  rw [hb]
  exact ⟨rfl, hl, hm⟩
end Sg
namespace Sg
theorem mod_at2 (i : Int) (n : Nat) (hn : 0 < n) : ∃ s : Nat, s < n ∧ i % (n : Int) = (s : Int) := by
  have h1 := Int.emod_nonneg i (show (n : Int) ≠ 0 by omega)
  have h2 := Int.emod_lt_of_pos i (show (0 : Int) < n by omega)
  exact ⟨(i % (n : Int)).toNat, by omega, by omega⟩
theorem lawRow_signs (c : Int) (n : Nat) (g : Int) : Signs (lawRow c n 0 g) := by
  intro x hx
  unfold lawRow at hx
  obtain ⟨i, _, rfl⟩ := List.mem_map.mp hx
  unfold lawNum num4 num3 num2
  rw [if_neg (fun z => absurd z.1 (by decide)), if_neg (by decide), if_pos (by decide)]
  omega
end Sg
namespace Sg
open PySem PySem.Spec PyProof.Rows L2 Evl
def candV (ns : List Int) (j : Nat) : List V := [.int (j / 2 : Nat), .bl (decide (j % 2 = 1)), .int (farJ ns j : Nat)]
def sp_nearest (K : PySem.W.Frag) : Sp := fun vs H Q E => ∃ (a : Addr) (ns : List Int), vs = [.ref a] ∧ SqL K H a (ns.map V.int) ∧
  (IsRow ns → Signs ns → ∀ p H', H p = none → Ex H H' → H' p = some (.tup (candV ns (nearJ ns))) → Q (.ref p) H') ∧ (IsRow ns → ¬ Signs ns → ∀ H', Ex H H' → E (.ref (He.ga K "NoSigns")) none H') ∧
  (¬ IsRow ns → ∀ H', Ex H H' → E (.ref (He.ga K "NoRow")) none H')
theorem len_nearest {K : PySem.W.Frag} : ∀ vs H Q E, sp_nearest K vs H Q E → vs.length = 1 := fun _ _ _ _ h => by
  obtain ⟨_, _, rfl, _⟩ := h; rfl
section
variable {K : PySem.W.Frag} {σ : L2.St} {H : Hp} {ta tb te tl : TE} {z v : V} {D : Ends} {tu tz : TS}
theorem eu_nearS {E : XK} {ns : List Int} (h : EvS K te σ H ns) (r : IsRow ns) (s : Signs ns) : EvU (tCall (sp_nearest K) [] E (tCons te tNil)) σ H (candV ns (nearJ ns)) := fun H0 e0 Q q =>
  h H0 e0 _ fun p H1 e1 hp => ⟨p, ns, rfl, hp, fun _ _ p2 H2 n2 e2 h2 => q p2 H2 (fresh_back e1 n2) (e1.trans e2) h2, fun _ n => absurd s n, fun n => absurd r n⟩
/-- a loop over a written tuple -/
theorem s_forNU {xs : List V} {j : Nat} (h : EvU tl σ H xs) (Pv : Addr → Nat → L2.St → Hp → Prop) (h0 : ∀ p H1, H p = none → Ex H H1 → H1 p = some (.tup xs) → Pv p 0 σ H1) (hl : ∀ p i σ' H', i ≤ xs.length → Pv p i σ' H' → SqT K H' p xs)
    (hs : ∀ p i x σ' H', xs[i]? = some x → Pv p i σ' H' → tu { D with nx := Pv p (i + 1), ct := Pv p (i + 1), bk := D.nx } (σ'.set j (some x)) H') (hd : ∀ p σ' H', Pv p xs.length σ' H' → D.nx σ' H') : tFor (iTup K tl) (gName j) tu D σ H :=
  h H (Ex.refl H) _ fun p H1 hp e h1 => ⟨p, rfl, ⟨xs, st_of h1⟩, for_tup (K := K) (a := p) (xs := xs) (Pv p) (h0 p H1 hp e h1) (hl p) (hs p) (hd p)⟩
/-- the best so far, as a name holds it -/
def BestV (d : Nat → List V) (H : Hp) (o : Option Nat) (v : V) : Prop := match o with
  | none => v = .non
  | some b => ∃ p, v = .ref p ∧ H p = some (.tup (d b))
theorem BestV.mono {d : Nat → List V} {H H' : Hp} {o : Option Nat} {v : V} (e : Ex H H') (h : BestV d H o v) : BestV d H' o v := by
  cases o with
  | none => exact h
  | some b =>
    obtain ⟨p, h1, h2⟩ := h
    exact ⟨p, h1, e p _ h2⟩
theorem rv_isN {x : V} : RV rIsNo x .non H (.bl (decide (x = .non))) := fun H1 _ _ q => ⟨rfl, q H1 (Ex.refl H1)⟩
def takeJ (f : Nat → Nat) (j : Nat) : Option Nat → Bool
  | none => true
  | some b => decide (f j < f b)
/-- best is None or far < best[2] -/
theorem et_best {tv tf : TE} {f : Nat → Nat} {d : Nat → List V} {o : Option Nat} {v : V} {j : Nat} (hb : BestV d H o v) (h : Ev tv σ H v) (h2 : Ev tf σ H (.int (f j : Nat))) (hd : ∀ b, atI (d b) 2 = some (.int (f b : Nat))) :
    EvT (tOr (tTest (tOp rIsNo tv (tC .non))) (tTest (tOp rLtI tf (tOp (rIxT K) tv (tC (.int 2)))))) σ H (takeJ f j o) := by
  cases o with
  | none =>
    have e : v = .non := hb
    subst e
    exact et_is (et_or (b := true) (et_test (ev_op h ev_c rv_isN)) fun z => by cases z) rfl
  | some b =>
    obtain ⟨p, rfl, hp⟩ := hb
    exact et_is (et_or (et_test (ev_op h ev_c rv_isN)) fun _ => et_test (ev_op h2 (ev_op h ev_c (rv_ixT (st_of hp) (hd b))) rv_lt)) (by
      show (false || decide ((f j : Int) < (f b : Int))) = decide (f j < f b)
      rw [Bool.false_or]
      exact decide_eq_decide.mpr (by omega))
theorem bestJ_next (f : Nat → Nat) (j : Nat) : bestJ f (j + 1) = if takeJ f j (bestJ f j) = true then some j else bestJ f j := by
  show (match bestJ f j with
    | none => some j
    | some b => if f j < f b then some j else some b) = _
  cases bestJ f j with
  | none => rfl
  | some b =>
    show (if f j < f b then some j else some b) = if decide (f j < f b) = true then some j else some b
    simp only [decide_eq_true_eq]
end
end Sg
namespace Sg
open PySem PySem.Spec PyProof.Rows L2 Evl
section
variable {K : PySem.W.Frag} {σ : L2.St} {H : Hp} {ta tb te tl : TE} {z v : V}
theorem ev_lenT {p : Addr} {xs : List V} (ha : Ev ta σ H (.ref p)) (h : SqT K H p xs) : Ev (tCB (rLenS K) (tCons ta tNil)) σ H (.int (xs.length : Nat)) := fun H1 e Q q =>
  ha H1 e _ fun H2 e2 => ⟨p, xs, rfl, .inr (ex_t (e.trans e2) h), q H2 e2⟩
def dT (ns : List Int) (j : Nat) : PyData := .tuple [.int (j / 2 : Nat), .bool (decide (j % 2 = 1)), .int (farJ ns j : Nat)]
theorem shapedT (ns : List Int) (j : Nat) : SeqAt.shaped (dT ns j) = true := by
  unfold SeqAt.shaped dT
  rw [PyData.canLay0, PyData.canLayAll0, PyData.canLayAll0, PyData.canLayAll0, PyData.canLayAll0, PyData.canLay0, PyData.canLay0, PyData.canLay0, PyData.depth, PyData.depthAll, PyData.depthAll, PyData.depthAll, PyData.depthAll, PyData.depth, PyData.depth, PyData.depth]
  rfl
theorem eqvT (ns : List Int) (j : Nat) : PyData.eqv (dT ns j) (dT ns j) = true := by
  unfold dT
  rw [PyData.eqv, PyData.eqvAll, PyData.eqvAll, PyData.eqvAll, PyData.eqvAll, PyData.eqv, PyData.eqv, PyData.eqv]
  simp
theorem dpT {p : Addr} {ns : List Int} {j : Nat} (h : H p = some (.tup (candV ns j))) : Dp K H (.ref p) (dT ns j) := .tup (st_of h) (.cons (.int _) (.cons (.bl _) (.cons (.int _) .nil)))
theorem rv_neT {p q : Addr} {ns : List Int} {j : Nat} (h : H p = some (.tup (candV ns j))) (h2 : H q = some (.tup (candV ns j))) : RV (rNeD K) (.ref p) (.ref q) H (.bl false) := by
  have r := rv_neD (K := K) (H := H) (fun H1 e => dpT (e p _ h)) (fun H1 e => dpT (e q _ h2)) (shapedT ns j) (shapedT ns j)
  rw [eqvT] at r
  exact r
end
end Sg
namespace Sg
open PySem PySem.Spec PyProof.Rows L2 Evl
theorem mod_at3 (i : Int) (n : Nat) (hn : 0 < n) : ∃ s : Nat, s < n ∧ i % (n : Int) = (s : Int) := by
  have h1 := Int.emod_nonneg i (show (n : Int) ≠ 0 by omega)
  have h2 := Int.emod_lt_of_pos i (show (0 : Int) < n by omega)
  exact ⟨(i % (n : Int)).toNat, by omega, by omega⟩
section
variable {K : PySem.W.Frag} {σ : L2.St} {H : Hp} {ta : TE}
theorem ev_atT {p : Addr} {xs : List V} {v : V} {i : Int} (h : Ev ta σ H (.ref p)) (hT : SqT K H p xs) (ha : atI xs i = some v) : Ev (tOp (rIxT K) ta (tC (.int i))) σ H v := ev_op h ev_c (rv_ixT hT ha)
end
theorem filter_bad (ns : List Int) (n : Int) : (((ns.filter fun x => !decide (x % n = 0)).length : Int) > 0) ↔ ¬ ∀ x ∈ ns, x % n = 0 := by
  constructor
  · intro h1 h2
    have e : ns.filter (fun x => !decide (x % n = 0)) = [] := List.filter_eq_nil_iff.mpr fun x hx => by rw [decide_eq_true (h2 x hx)]; decide
    rw [e] at h1
    exact absurd h1 (by decide)
  · intro h
    cases e : ns.filter (fun x => !decide (x % n = 0)) with
    | nil => exact absurd (fun x hx => by
        have z := List.filter_eq_nil_iff.mp e x hx
        by_cases g : x % n = 0
        · exact g
        · rw [decide_eq_false g] at z
          exact absurd rfl z) h
    | cons x l => rw [List.length_cons]; omega
theorem el_filS {K : PySem.W.Frag} {σ : L2.St} {H : Hp} {tl te : TE} {t : TT} {ns : List Int} {j : Nat} {vs : List Nat} (f : Int → Bool) (h : EvS K tl σ H ns) (hz : ns.length ≤ 40000) (hw : ∀ x, wipe ((wipe σ vs).set j (some x)) vs = wipe σ vs)
    (ht : ∀ n ∈ ns, ∀ H1, Ex H H1 → EvT t ((wipe σ vs).set j (some (.int n))) H1 (f n)) (he : ∀ n ∈ ns, ∀ H1, Ex H H1 → Ev te ((wipe σ vs).set j (some (.int n))) H1 (.int n)) : EvL (tLc (iList K tl) (gName j) t te vs) σ H ((ns.filter f).map V.int) := fun H0 e0 Q q =>
  h H0 e0 _ fun a H1 e1 hx => ⟨a, rfl, ⟨ns.map V.int, hx⟩, fun Dl hD =>
    lc_list (xs := ns.map V.int) (Cw H1 (fun i => f (ns.getD i 0)) (fun i => .int (ns.getD i 0)) Dl) ⟨hD, Ex.new hD, upd_same⟩ (fun i H2 _ p => ex_l p.2.1 hx) (fun i x H2 hi p => by
      obtain ⟨n, hn, rfl⟩ := int_of_map hi
      have hl : i < ns.length := (List.getElem?_eq_some_iff.mp hn).1
      have e : ns.getD i 0 = n := by rw [List.getD_eq_getElem?_getD, hn] <;> rfl
      refine ⟨hw _, cw_turn p (by omega) (by rw [e]; exact ht n (List.mem_of_getElem? hn) H1 (e0.trans e1)) fun _ => ?_⟩
      rw [e]
      exact he n (List.mem_of_getElem? hn) H1 (e0.trans e1)) (fun H2 p => by
      have p3 := p.2.2
      have eg : given (ns.map V.int).length (fun i => f (ns.getD i 0)) (fun i => .int (ns.getD i 0)) = (ns.filter f).map V.int := by
        rw [List.length_map]
        unfold given
        have e2 : ns.filter f = ((List.range ns.length).filter fun i => f (ns.getD i 0)).map fun i => ns.getD i 0 := by
          conv => lhs; rw [list_eq_range ns]
          rw [List.filter_map]
          rfl
        rw [e2, List.map_map]
        rfl
      rw [eg] at p3
      exact q Dl H2 (fresh_back e1 p.1) (e1.trans p.2.1) p3)⟩
end Sg
namespace Sg
/-! ### tied -/
def tieN (ns ms : List Int) (k : Nat) : List Int := (List.range (k * ns.length)).map fun j => ns.getD (j % ns.length) 0 * ms.getD (j / ns.length) 0
def tieL (ns ms : List Int) : List Int := tieN ns ms ms.length
theorem tieL_length (ns ms : List Int) : (tieL ns ms).length = ms.length * ns.length := by
  unfold tieL tieN
  rw [List.length_map, List.length_range]
theorem tieN_zero (ns ms : List Int) : tieN ns ms 0 = [] := by
  unfold tieN
  rw [Nat.zero_mul] <;> rfl
theorem tieN_succ (ns ms : List Int) (k : Nat) : tieN ns ms (k + 1) = tieN ns ms k ++ ns.map fun x => x * ms.getD k 0 := by
  unfold tieN
  rw [Nat.succ_mul, List.range_add, List.map_append, List.map_map]
  congr 1
  rw [map_eq_range ns fun x => x * ms.getD k 0]
  refine List.map_congr_left fun i hi => ?_
  have hl : i < ns.length := List.mem_range.mp hi
  have h1 : (k * ns.length + i) % ns.length = i := by
    rw [Nat.add_comm, Nat.add_mul_mod_self_right, Nat.mod_eq_of_lt hl]
  have h2 : (k * ns.length + i) / ns.length = k := by
    rw [Nat.add_comm, Nat.add_mul_div_right _ _ (by omega), Nat.div_eq_of_lt hl, Nat.zero_add]
  show ns.getD ((k * ns.length + i) % ns.length) 0 * ms.getD ((k * ns.length + i) / ns.length) 0 = _
  rw [h1, h2]
theorem sm_grid (n : Nat) (f : Nat → Int) : ∀ m, sm (m * n) f = sm m fun q => sm n fun p => f (q * n + p)
  | 0 => by rw [Nat.zero_mul]; rfl
  | m + 1 => by rw [Nat.succ_mul, sm_split, sm_grid n f m, sm_succ]
theorem sg_grid : ∀ s, s < 6 → ∀ t, t < 6 - s → ∀ p, p < 2 ^ s → ∀ a, a < 2 ^ s → ∀ q, q < 2 ^ t → ∀ b, b < 2 ^ t → sg ((q * 2 ^ s + p : Nat) : Int) ((b * 2 ^ s + a : Nat) : Int) = sg (p : Nat) (a : Nat) * sg (q : Nat) (b : Nat) := by decide +kernel
theorem sums_tied {ns ms : List Int} {s t : Nat} (hs : s < 6) (ht : t < 6 - s) (h1 : ns.length = 2 ^ s) (h2 : ms.length = 2 ^ t) : sumsL (tieL ns ms) = tieL (sumsL ns) (sumsL ms) := by
  have e : tieL (sumsL ns) (sumsL ms) = (List.range (ms.length * ns.length)).map fun j => (sumsL ns).getD (j % ns.length) 0 * (sumsL ms).getD (j / ns.length) 0 := by
    unfold tieL tieN
    rw [sumsL_length, sumsL_length]
  rw [e]
  have e0 : sumsL (tieL ns ms) = (List.range (ms.length * ns.length)).map (sumAt (tieL ns ms)) := by
    unfold sumsL
    rw [tieL_length]
  rw [e0]
  have hp1 : 0 < ns.length := by rw [h1]; exact Nat.two_pow_pos s
  have hp2 : 0 < ms.length := by rw [h2]; exact Nat.two_pow_pos t
  refine List.map_congr_left fun c hc => ?_
  have hcl : c < ms.length * ns.length := List.mem_range.mp hc
  have ha : c % ns.length < ns.length := Nat.mod_lt _ hp1
  have hb : c / ns.length < ms.length := Nat.div_lt_of_lt_mul (by rw [Nat.mul_comm]; exact hcl)
  rw [getD_sumsL ha, getD_sumsL hb]
  have ec : c = c / ns.length * ns.length + c % ns.length := by
    have := Nat.div_add_mod c ns.length
    rw [Nat.mul_comm] at this
    exact this.symm
  generalize c % ns.length = a at ha ec
  generalize c / ns.length = b at hb ec
  subst ec
  show sm (tieL ns ms).length (fun p => sg p ((b * ns.length + a : Nat) : Int) * (tieL ns ms).getD p 0) = sm ns.length (fun p => sg p a * ns.getD p 0) * sm ms.length (fun q => sg q b * ms.getD q 0)
  rw [tieL_length, sm_grid, ← sm_mulL]
  refine sm_congr fun q hq => ?_
  rw [← sm_mulR]
  refine sm_congr fun p hp => ?_
  have hj : q * ns.length + p < ms.length * ns.length := by
    have := Nat.mul_le_mul_right ns.length (show q + 1 ≤ ms.length by omega)
    rw [Nat.succ_mul] at this
    omega
  have g1 : (q * ns.length + p) % ns.length = p := by rw [Nat.add_comm, Nat.add_mul_mod_self_right, Nat.mod_eq_of_lt hp]
  have g2 : (q * ns.length + p) / ns.length = q := by rw [Nat.add_comm, Nat.add_mul_div_right _ _ (by omega), Nat.div_eq_of_lt hp, Nat.zero_add]
  have g3 : (tieL ns ms).getD (q * ns.length + p) 0 = ns.getD p 0 * ms.getD q 0 := by
    unfold tieL tieN
    rw [getD_map_range _ hj, g1, g2]
  have g4 : sg ((q * ns.length + p : Nat) : Int) ((b * ns.length + a : Nat) : Int) = sg (p : Nat) (a : Nat) * sg (q : Nat) (b : Nat) := by
    rw [h1] at hp ha ⊢
    rw [h2] at hq hb
    exact sg_grid s hs t ht p hp a ha q hq b hb
  rw [g3, g4]
  simp only [Int.mul_assoc, Int.mul_comm, Int.mul_left_comm]
theorem tie_bd {ns ms : List Int} {A B : Nat} (h1 : ∀ x ∈ ns, x.natAbs ≤ A) (h2 : ∀ x ∈ ms, x.natAbs ≤ B) : ∀ x ∈ tieL ns ms, x.natAbs ≤ A * B := by
  intro x hx
  unfold tieL tieN at hx
  obtain ⟨j, _, rfl⟩ := List.mem_map.mp hx
  have gd : ∀ (l : List Int) (C : Nat), (∀ y ∈ l, y.natAbs ≤ C) → ∀ i, (l.getD i 0).natAbs ≤ C := fun l C h i => by
    rw [List.getD_eq_getElem?_getD]
    cases e : l[i]? with
    | none => exact Nat.zero_le _
    | some y => exact h y (List.mem_of_getElem? e)
  rw [Int.natAbs_mul]
  exact Nat.mul_le_mul (gd ns A h1 _) (gd ms B h2 _)
end Sg
namespace Sg
open PySem PySem.Spec PyProof.Rows L2 Evl
def sp_tied (K : PySem.W.Frag) : Sp := fun vs H Q E => ∃ (a b : Addr) (ns ms : List Int), vs = [.ref a, .ref b] ∧ SqL K H a (ns.map V.int) ∧ SqL K H b (ms.map V.int) ∧
  (IsRow ns → IsRow ms → ns.length * ms.length ≤ 32 → RetL ((tieL ns ms).map V.int) H Q) ∧ (IsRow ns → IsRow ms → ¬ ns.length * ms.length ≤ 32 → ∀ H', Ex H H' → E (.ref (He.ga K "TooLong")) none H') ∧
  (¬ (IsRow ns ∧ IsRow ms) → ∀ H', Ex H H' → E (.ref (He.ga K "NoRow")) none H')
theorem len_tied {K : PySem.W.Frag} : ∀ vs H Q E, sp_tied K vs H Q E → vs.length = 2 := fun _ _ _ _ h => by
  obtain ⟨_, _, _, _, rfl, _⟩ := h; rfl
section
variable {K : PySem.W.Frag} {σ : L2.St} {H : Hp} {ta tb te : TE}
theorem el_tiedS {E : XK} {ns ms : List Int} (h : EvS K ta σ H ns) (h2 : EvS K tb σ H ms) (r1 : IsRow ns) (r2 : IsRow ms) (hl : ns.length * ms.length ≤ 32) : EvL (tCall (sp_tied K) [] E (tCons ta (tCons tb tNil))) σ H ((tieL ns ms).map V.int) :=
  el_callSS h h2 fun p q H1 _ hp hq Q E r => ⟨p, q, ns, ms, rfl, hp, hq, fun _ _ _ => r, fun _ _ n => absurd hl n, fun n => absurd ⟨r1, r2⟩ n⟩
end
end Sg
namespace Sg
open PySem PySem.Spec PyProof.Rows L2 Evl
/-! ### flat rows -/
/-- the numbers of a list, each once -/
def onceL (ns : List Int) : List Int := PyProof.Rows.firstMet (fun i => ns.getD i 0) ns.length
def tLenSet (K : PySem.W.Frag) (ta : TE) : TE := fun σ H Q => ta σ H fun x H1 => ∃ (l : Addr) (ns : List Int), x = .ref l ∧ SqL K H1 l (ns.map V.int) ∧ ns.length ≤ 4000 ∧ Q (.int ((onceL ns).length : Nat)) H1
section
variable {X : Cx} {a : Expr} {ta : TE} {p p2 q pos : Pos}
theorem pe_lenSet (hg : Gl X "len") (hm : X.mg "len" = none) (hg2 : Gl X "set") (hm2 : X.mg "set" = none) (ha : PE X a ta) (hc : X.calm = true := by rfl) (na : starEach [a] X.env = (false, eval a X.env) :: starEach [] X.env := by rfl) :
    PE X (.Call (.Name "len" p) [.Call (.Name "set" p2) [a] [] q] [] pos) (tLenSet X.K ta) := by
  constructor; intro pins s σ H Q I h
  refine Call_ (ld_blt I hg hm PySem.boot_len ?_); refine PyProof.Rows.callWith_builtin1 (PyProof.Rows.args_cons ?_ rfl) rfl rfl
  refine Call_ (ld_blt I hg2 hm2 PyProof.Rows.boot_set ?_); refine PyProof.Rows.callWith_type1 (PyProof.Rows.args_cons (thn (ha.run pins s σ H _ I h) fun v s1 ⟨x, H1, I1, r1, q1⟩ => PyProof.Rows.args_nil ?_) na) na rfl
  obtain ⟨l, ns, rfl, hq, hl, q1⟩ := q1; cases r1
  obtain ⟨its, r, pl, hz⟩ := I1.list hq
  have hlen : its.toArray.size = ns.length := by
    have e := r.length
    rw [List.length_map] at e
    simpa using e.symm
  refine call_set_list (I1.ok.hd hc) pl.isList (ns := ns) (by simpa using RZ.intsAre_vals r) (by rw [hlen]; unfold scanBound; omega) fun h2 tk hS hk => PyProof.Rows.args_nil ?_
  rw [hlen] at hS
  have hle := PyProof.Rows.firstMet_length_le (fun i => ns.getD i 0) ns.length
  obtain ⟨o, es, ep, t, ho, hex, hd, _, _, _, hf, hn⟩ := hS
  have I2 : Inv X pins σ H1 { s1 with heap := h2, toks := tk } := I1.kept fun b o e => hk b o (Heap.lt_size e) e
  exact call_len_set ho hex hd hf (by rw [hn] <;> omega) ⟨.int ((onceL ns).length : Nat), H1, I2.tok _, ⟨_, by rw [hn] <;> rfl⟩, q1⟩
end
theorem once_all {f : Nat → Int} : ∀ n, (∀ i, i < n + 1 → f i = f 0) → PyProof.Rows.firstMet f (n + 1) = [f 0]
  | 0, _ => by rw [PyProof.Rows.firstMet_succ, PyProof.Rows.firstMet_zero]; rfl
  | n + 1, h => by
    rw [PyProof.Rows.firstMet_succ, once_all n fun i hi => h i (by omega), h (n + 1) (by omega)]
    unfold PyProof.Rows.step_dedup
    simp
theorem once_one {ns : List Int} (h0 : 0 < ns.length) : (onceL ns).length = 1 ↔ ∀ i, i < ns.length → ns.getD i 0 = ns.getD 0 0 := by
  unfold onceL
  constructor
  · intro h i hi
    match e : PyProof.Rows.firstMet (fun i => ns.getD i 0) ns.length, h with
    | [x], _ =>
      have g : ∀ j, j < ns.length → x = ns.getD j 0 := fun j hj => by
        have a := PyProof.Rows.firstMet_any (fun i => ns.getD i 0) ns.length (ns.getD j 0)
        rw [e] at a
        have b : ((List.range ns.length).map fun i => ns.getD i 0).any (· == ns.getD j 0) = true := List.any_eq_true.mpr ⟨_, List.mem_map.mpr ⟨j, List.mem_range.mpr hj, rfl⟩, beq_self_eq_true _⟩
        rw [b] at a
        simpa using a
      rw [← g i hi, ← g 0 h0]
  · intro h
    obtain ⟨n, hn⟩ : ∃ n, ns.length = n + 1 := ⟨ns.length - 1, by omega⟩
    rw [hn] at h ⊢
    rw [once_all n h] <;> rfl
def flatD (ns : List Int) : Bool := decide (∀ c, c < ns.length → (sumAt ns c).natAbs = (sumAt ns 0).natAbs)
def absL (ns : List Int) : List Int := ns.map fun i => if i < 0 then -i else i
theorem abs_eq (i j : Int) : ((if i < 0 then -i else i) = if j < 0 then -j else j) ↔ i.natAbs = j.natAbs := by
  split <;> split <;> omega
theorem once_flat {ns : List Int} (h0 : 0 < ns.length) : decide (((onceL (absL (sumsL ns))).length : Int) = 1) = flatD ns := by
  unfold flatD
  have hl : (absL (sumsL ns)).length = ns.length := by unfold absL; rw [List.length_map, sumsL_length]
  have h := once_one (ns := absL (sumsL ns)) (by omega)
  rw [hl] at h
  have g : ∀ i, i < ns.length → (absL (sumsL ns)).getD i 0 = if sumAt ns i < 0 then -sumAt ns i else sumAt ns i := fun i hi => by
    unfold absL
    rw [List.getD_eq_getElem?_getD, List.getElem?_map]
    have e := getD_sumsL hi
    rw [List.getD_eq_getElem?_getD] at e
    have hi2 : i < (sumsL ns).length := by rw [sumsL_length]; exact hi
    rw [List.getElem?_eq_getElem hi2] at e ⊢
    have e : (sumsL ns)[i] = sumAt ns i := e
    show (if (sumsL ns)[i] < 0 then -(sumsL ns)[i] else (sumsL ns)[i]) = _
    rw [e]
  refine decide_eq_decide.mpr ⟨fun z c hc => ?_, fun z => ?_⟩
  · have q := h.mp (by omega) c hc
    rw [g c hc, g 0 h0] at q
    exact (abs_eq _ _).mp q
  · have q := h.mpr fun i hi => by
      rw [g i hi, g 0 h0]
      exact (abs_eq _ _).mpr (z i hi)
    omega
def flatL : Nat → List Int
  | 0 => [1]
  | k + 1 => tieL (flatL k) [1, 1, 1, -1]
def sp_is_flat (K : PySem.W.Frag) : Sp := fun vs H Q E => ∃ (a : Addr) (ns : List Int), vs = [.ref a] ∧ SqL K H a (ns.map V.int) ∧
  (IsRow ns → Signs ns → RetV (.bl (flatD ns)) H Q) ∧ (IsRow ns → ¬ Signs ns → ∀ H', Ex H H' → E (.ref (He.ga K "NoSigns")) none H') ∧ (¬ IsRow ns → ∀ H', Ex H H' → E (.ref (He.ga K "NoRow")) none H')
def sp_flat (K : PySem.W.Frag) : Sp := fun vs H Q E => ∃ (s : Int), vs = [.int s] ∧
  (0 ≤ s ∧ s ≤ 5 → s % 2 = 0 → RetL ((flatL (s / 2).toNat).map V.int) H Q) ∧ (0 ≤ s ∧ s ≤ 5 → ¬ s % 2 = 0 → ∀ H', Ex H H' → E (.ref (He.ga K "NoFlat")) none H') ∧ (¬ (0 ≤ s ∧ s ≤ 5) → ∀ H', Ex H H' → E (.ref (He.ga K "NoStep")) none H')
theorem len_is_flat {K : PySem.W.Frag} : ∀ vs H Q E, sp_is_flat K vs H Q E → vs.length = 1 := fun _ _ _ _ h => by
  obtain ⟨_, _, rfl, _⟩ := h; rfl
theorem len_flat {K : PySem.W.Frag} : ∀ vs H Q E, sp_flat K vs H Q E → vs.length = 1 := fun _ _ _ _ h => by
  obtain ⟨_, rfl, _⟩ := h; rfl
theorem flatL_len : ∀ k, (flatL k).length = 4 ^ k
  | 0 => rfl
  | k + 1 => by
    show (tieL (flatL k) [1, 1, 1, -1]).length = _
    rw [tieL_length, flatL_len k, Nat.pow_succ, Nat.mul_comm] <;> rfl
theorem tie_signs {ns ms : List Int} (h1 : Signs ns) (h2 : Signs ms) : Signs (tieL ns ms) := by
  intro x hx
  by_cases h0 : ns.length = 0
  · unfold tieL tieN at hx
    rw [h0, Nat.mul_zero] at hx
    cases hx
  · unfold tieL tieN at hx
    obtain ⟨j, hj, rfl⟩ := List.mem_map.mp hx
    have hjl := List.mem_range.mp hj
    have a1 : j % ns.length < ns.length := Nat.mod_lt _ (by omega)
    have a2 : j / ns.length < ms.length := Nat.div_lt_of_lt_mul (by rw [Nat.mul_comm]; exact hjl)
    have g : ∀ (l : List Int), Signs l → ∀ i, i < l.length → l.getD i 0 = 1 ∨ l.getD i 0 = -1 := fun l hs i hi => by
      rw [List.getD_eq_getElem?_getD, List.getElem?_eq_getElem hi]
      exact hs _ (List.getElem_mem hi)
    rcases g ns h1 _ a1 with e | e <;> rcases g ms h2 _ a2 with e2 | e2 <;> rw [e, e2] <;> decide
theorem flatL_signs : ∀ k, Signs (flatL k)
  | 0 => by decide
  | k + 1 => tie_signs (flatL_signs k) (by decide)
end Sg
namespace Sg
open PySem PySem.Spec PyProof.Rows L2 Evl
/-! ### flat rows: what is true of them -/
theorem signs_sq {ns : List Int} (h : Signs ns) : sq ns = (ns.length : Int) := by
  unfold sq
  induction ns with
  | nil => rfl
  | cons x l ih =>
    rw [List.map_cons, List.sum_cons, ih fun y hy => h y (List.mem_cons_of_mem _ hy), List.length_cons]
    rcases h x List.mem_cons_self with rfl | rfl <;> omega
theorem sq_nat (x : Int) : x * x = ((x.natAbs * x.natAbs : Nat) : Int) := by rw [Int.natAbs_mul_self]
theorem sm_const (n : Nat) (c : Int) : sm n (fun _ => c) = (n : Int) * c := by
  induction n with
  | zero => rw [sm_zero]; omega
  | succ n ih =>
    rw [sm_succ, ih]
    have : ((n + 1 : Nat) : Int) * c = (n : Int) * c + c := by rw [Int.natCast_add, Int.add_mul]; omega
    omega
/-- the squares of the sums together -/
theorem sums_sq {ns : List Int} {s : Nat} (hs : s < 6) (hn : ns.length = 2 ^ s) (hg : Signs ns) : sm ns.length (fun c => sumAt ns c * sumAt ns c) = (ns.length : Int) * (ns.length : Int) := by
  have h := parseval hs hn
  rw [signs_sq hg, sq_sm, sumsL_length] at h
  rw [← h]
  refine sm_congr fun i hi => ?_
  rw [getD_sumsL hi]
theorem flat_root {ns : List Int} {s : Nat} (hs : s < 6) (hn : ns.length = 2 ^ s) (hg : Signs ns) (hf : flatD ns = true) : (sumAt ns 0).natAbs * (sumAt ns 0).natAbs = ns.length := by
  have hp : 0 < ns.length := by rw [hn]; exact Nat.two_pow_pos s
  have hf := of_decide_eq_true hf
  have h := sums_sq hs hn hg
  have e : sm ns.length (fun c => sumAt ns c * sumAt ns c) = sm ns.length fun _ => (((sumAt ns 0).natAbs * (sumAt ns 0).natAbs : Nat) : Int) := sm_congr fun i hi => by
    rw [sq_nat, hf i hi]
  rw [e, sm_const] at h
  have h2 : (((sumAt ns 0).natAbs * (sumAt ns 0).natAbs : Nat) : Int) = (ns.length : Int) := Int.eq_of_mul_eq_mul_left (by omega) h
  exact Int.ofNat.inj h2
theorem no_root : ∀ s, s < 6 → s % 2 = 1 → ∀ m, m < 7 → ¬ m * m = 2 ^ s := by decide
theorem odd_not {ns : List Int} {s : Nat} (hs : s < 6) (ho : s % 2 = 1) (hn : ns.length = 2 ^ s) (hg : Signs ns) : flatD ns = false := by
  cases h : flatD ns with
  | false => rfl
  | true =>
    have r := flat_root hs hn hg h
    have h32 := pow_le' hs
    generalize (sumAt ns 0).natAbs = m at r
    by_cases hm : m < 7
    · exact absurd (r.trans hn) (no_root s hs ho m hm)
    · have : 7 * 7 ≤ m * m := Nat.mul_le_mul (by omega) (by omega)
      omega
theorem flat_is : ∀ k, k < 3 → flatD (flatL k) = true := by decide +kernel
def mixL (ns : List Int) (c : Nat) : List Int := (List.range ns.length).map fun p => ns.getD p 0 * sg (p : Nat) (c : Nat)
theorem mix_is : ∀ k, k < 3 → ∀ c, c < 4 ^ k → flatD (mixL (flatL k) c) = true := by decide +kernel
theorem mix_tied : ∀ k, k < 2 → ∀ c, c < 4 ^ k → ∀ j, j < 2 → flatD (tieL (mixL (flatL k) c) (flatL j)) = true := by decide +kernel
theorem mix_length (ns : List Int) (c : Nat) : (mixL ns c).length = ns.length := by
  unfold mixL
  rw [List.length_map, List.length_range]
theorem mix_signs {ns : List Int} (h : Signs ns) (c : Nat) : Signs (mixL ns c) := by
  intro x hx
  obtain ⟨p, hp, rfl⟩ := List.mem_map.mp hx
  rcases getD_sign h (List.mem_range.mp hp) with e | e <;> rcases sg_pm (p : Nat) (c : Nat) with e2 | e2 <;> rw [e, e2] <;> decide
/-- some sum is as great as the root -/
theorem some_great {ns : List Int} {s m : Nat} (hs : s < 6) (hn : ns.length = 2 ^ s) (hg : Signs ns) (hm : m * m = ns.length) : ∃ c, c < ns.length ∧ m ≤ (sumAt ns c).natAbs := by
  refine Classical.byContradiction fun no => ?_
  have hp : 0 < ns.length := by rw [hn]; exact Nat.two_pow_pos s
  have all : ∀ c, c < ns.length → sumAt ns c * sumAt ns c ≤ (ns.length : Int) - 1 := fun c hc => by
    have lt : (sumAt ns c).natAbs < m := by
      refine Nat.lt_of_not_le fun z => no ⟨c, hc, z⟩
    rw [sq_nat]
    have : ((sumAt ns c).natAbs + 1) * ((sumAt ns c).natAbs + 1) ≤ m * m := Nat.mul_le_mul lt lt
    rw [Nat.mul_add, Nat.add_mul] at this
    omega
  have h := sums_sq hs hn hg
  have le : ∀ k, k ≤ ns.length → sm k (fun c => sumAt ns c * sumAt ns c) ≤ (k : Int) * ((ns.length : Int) - 1) := by
    intro k
    induction k with
    | zero => intro _; rw [sm_zero]; omega
    | succ k ih =>
      intro hk
      rw [sm_succ]
      have a := ih (by omega)
      have b := all k (by omega)
      have e : ((k + 1 : Nat) : Int) * ((ns.length : Int) - 1) = (k : Int) * ((ns.length : Int) - 1) + ((ns.length : Int) - 1) := by rw [Int.natCast_add, Int.add_mul]; omega
      omega
  have z := le ns.length (Nat.le_refl _)
  rw [h, Int.mul_sub] at z
  omega
/-- none is told farther off than the flat row -/
theorem far_le {ns fs : List Int} {s : Nat} (hs : s < 6) (hn : ns.length = 2 ^ s) (hm : fs.length = 2 ^ s) (hg : Signs ns) (hf : Signs fs) (hd : flatD fs = true) : farJ ns (nearJ ns) ≤ farJ fs (nearJ fs) := by
  have hp : 0 < ns.length := by rw [hn]; exact Nat.two_pow_pos s
  have hl : fs.length = ns.length := hm.trans hn.symm
  have hp2 : 0 < fs.length := by omega
  have root := flat_root hs hm hf hd
  obtain ⟨c, hc, great⟩ := some_great hs hn hg (root.trans hl)
  have hfd := of_decide_eq_true hd
  obtain ⟨_, nl, _⟩ := nearJ_some hp2
  have same := hfd (nearJ fs / 2) (by omega)
  have a1 := apart_inner hf (nearJ fs / 2) (facJ_pm (nearJ fs))
  have le := (nearJ_some hp).2.2
  have fl : farJ fs (nearJ fs) = apartN fs (nearJ fs / 2) (facJ (nearJ fs)) := rfl
  rw [fl]
  generalize apartN fs (nearJ fs / 2) (facJ (nearJ fs)) = A at a1
  have bA : facJ (nearJ fs) * sumAt fs (nearJ fs / 2) ≤ ((sumAt fs 0).natAbs : Int) := by
    rcases facJ_pm (nearJ fs) with z | z <;> rw [z] <;> omega
  by_cases pos : 0 ≤ sumAt ns c
  · have b1 := apart_inner hg c (f := 1) (.inl rfl)
    have l1 := le (2 * c) (by omega)
    have e : farJ ns (2 * c) = apartN ns c 1 := by
      unfold farJ facJ
      rw [if_neg (by omega), show 2 * c / 2 = c by omega]
    rw [e] at l1
    omega
  · have b1 := apart_inner hg c (f := -1) (.inr rfl)
    have l1 := le (2 * c + 1) (by omega)
    have e : farJ ns (2 * c + 1) = apartN ns c (-1) := by
      unfold farJ facJ
      rw [if_pos (by omega), show (2 * c + 1) / 2 = c by omega]
    rw [e] at l1
    omega
end Sg
namespace Sg
open PySem PySem.Spec PyProof.Rows L2 Evl
/-! ### which error it is: a def that gets the caught error -/
section
variable {X : Cx}
def rCountV (K : PySem.W.Frag) : V → List V → Hp → VK → Prop := fun x xs H Q => ∃ (a : Addr) (ys : List V) (y : V), x = .ref a ∧ xs = [y] ∧ SqL K H a ys ∧ flatV y = true ∧ ys.all flatV = true ∧ Q (.int ((ys.countP fun z => eqV z y : Nat) : Int)) H
theorem count_eqU {y : V} : ∀ {ys : List V} {us : List Value}, Vals ys us → ys.all flatV = true → us.countP (eqU y) = ys.countP fun z => eqV z y
  | _, _, .nil, _ => rfl
  | z :: ys, u :: us, .cons r t, f => by
    rw [List.all_cons, Bool.and_eq_true] at f
    rw [List.countP_cons, List.countP_cons, eqU_of r f.1, count_eqU t f.2]
theorem mt_countV : MtR X "list.count" (rCountV X.K) := fun pins s σ H x xs v us Q I rx rxs h => by
  obtain ⟨a, ys, y, rfl, rfl, hs, fy, fys, q⟩ := h
  cases rx
  obtain ⟨uy, rfl, ry⟩ := rxs.one
  obtain ⟨its, rv, ⟨⟨c0, d0, dt, sl0⟩, n, ho, hc, hn, hd⟩, hl⟩ := I.list hs
  dsimp only at hc hd
  subst hc; subst hd
  refine call_meets PySem.F.slot_list_count ⟨_, ho, rfl⟩ PySem.F.entry_list_count (PySem.F.args_list_count_2 _ _) (SeqAt.list_countAt a its.toArray n d0 sl0 uy (eqU y)) ⟨ho, fun u hu => mem_eqAt ry fy rv fys u (by simpa using hu), ?_⟩
  refine ⟨.int ((ys.countP fun z => eqV z y : Nat) : Int), H, I.tok _, ⟨s.toks, ?_⟩, q⟩
  rw [← count_eqU rv fys]
/-- isinstance of what is pinned -/
theorem call_isP {p : Addr × Obj} {D : Addr} (C : ExcC X.K D) (hp : p ∈ X.pn) (hz : Zc (.ref D) none p.2) (hf : ∃ vs, p.2.data = .fields vs) : CallR X (.builtin "isinstance") (rIsE X.K D p.1) := fun pins s σ H xs us Q I r h => by
  obtain ⟨c, cv, b, rfl, hcv, e, q⟩ := h
  match us, r with
  | [u1, u2], .cons r1 (.cons r2 .nil) =>
    cases r1
    cases hcv _ r2
    have hg := (I.pin p (List.mem_append_left _ hp)).1
    obtain ⟨vs, hv⟩ := hf
    have J : PySem.W.InstAt s.heap p.1 p.2 D none := by
      obtain ⟨p1, ⟨oc, od, oda, osl⟩⟩ := p
      obtain ⟨z1, z2⟩ := hz
      dsimp only at z1 z2 hv
      subst z1; subst z2; subst hv
      exact ⟨hg, rfl, rfl, trivial⟩
    refine PySem.W.kia_one (PySem.W.handS_kitx_exc C.hg C.hk C.hs C.hd C.ha C.hn C.ht C.hm) I.kIn J e (fun z => nomatch z) fun tk => ?_
    exact ⟨.bl b, H, I.kept (t' := tk) fun _ _ z => z, rfl, q⟩
end
/-- what such a def promises: of an error of the class D the word t -/
structure FnP (P : Program) (w : World) (K : PySem.W.Frag) (mg : Str → Option Value) (base : Heap) (k : Nat) (f : Addr) (fd : FuncData) (x : Str) (R : Addr → Str → Prop) : Prop where
  go : ∀ {A : Around} {outer : List Env} {s : Shared} {H : Hp} {args : Args} {Q : VK} {E : XK} {p : Addr × Obj} {D : Addr} {t : Str}, L2H.RoomH k A → L2H.PinOk outer H s p → Zc (.ref D) none p.2 → (∃ vs, p.2.data = .fields vs) →
    Env0 P w K mg base A outer s H → BindsTo s fd args [(x, .ref p.1)] → R D t → RetV (.str t) H Q → codeAny (model P w) A (.call (.ref f) args) (CR CX0 outer P w H s Q E) s
theorem fun_okP {P : Program} {w : World} {K : PySem.W.Frag} {mg : Str → Option Value} {base : Heap} {x qual y : Str} {st : Stmt} {f : Addr} {fd : FuncData} {N : List Str} {k : Nat} {R : Addr → Str → Prop} (F : Fun K x qual st f fd) (S : FnScope N [y] (defScope st))
    (hb : ∀ (cdv : Value) (A : Around) (outer : List Env) (s : Shared) (H : Hp) (Q : VK) (E : XK) (p : Addr × Obj) (D : Addr) (t : Str), Zc (.ref D) none p.2 → (∃ vs, p.2.data = .fields vs) → R D t → RetV (.str t) H Q →
      ∃ z, PSs (L2H.cxH CX0 P w K mg base N qual (defScope st) f cdv A outer s H E p) (defBody st) z ∧ z { nx := fun _ H' => Q .non H', rt := Q } (start N [.ref p.1]) H) : FnP P w K mg base (k + 1) f fd y R := by
  obtain ⟨oc, od, kV, doc, pm, an, cdv, ct, osl, rfl, lk, hcd⟩ := F.ex
  refine ⟨fun {A outer s H args Q E p D t} hr hpin hz hf e0 hbi hR hq => ?_⟩
  have hin : K.In s.heap := e0.mod.kin.keeps fun b o e => (e0.bs b o e).1
  have hlim : s.heap.NoLimit := e0.mod.nolimit.keeps fun b o e => (e0.bs b o e).1
  refine codeAny_call_function (L2H.RoomH.depth hr) (hin _ _ lk) rfl S.co S.gen rfl (PySem.W.codeRec_of hin hcd) (hbi _ _ _ _ ?_)
  refine wpAny_newFunctionEnv_cells S.kind (fun z hz1 => ?_) fun env he s1 ic => ?_
  · cases List.mem_singleton.mp hz1
    exact (S.par y (List.mem_singleton.mpr rfl)).elim Or.inl fun q => Or.inr ⟨q, PySem.W.cellsFrom_some _ _ _ (Or.inl q)⟩
  · subst he
    refine ⟨hlim.keeps ic.toInCall.keep, codeAny_func ?_⟩
    obtain ⟨z, hz1, hz2⟩ := hb cdv A outer s H Q E p D t hz hf hR hq
    have I0 : Inv (L2H.cxH CX0 P w K mg base N qual (defScope st) f cdv A outer s H E p) [] (start N [.ref p.1]) H s1 := L2H.inv_startH (ps := [y]) (us := [.ref p.1]) S hpin e0 rfl (.cons rfl .nil) ic
    refine wpAny_mono (hz1.run [] s1 (start N [.ref p.1]) H _ I0 hz2) (fun fl s2 hs => ?_) fun _ _ z => z
    match fl, hs with
    | .ret u, ⟨v, σ', H', J, rv, q⟩ => exact ⟨v, H', J.os, J.bare, J.base, J.hok, rv, q⟩
    | .next, ⟨σ', H', J, q⟩ => exact ⟨.non, H', J.os, J.bare, J.base, J.hok, rfl, q⟩
    | .brk, ⟨_, _, _, q⟩ => exact q.elim
    | .cont, ⟨_, _, _, q⟩ => exact q.elim
/-- the call of it within the suite -/
def tCallP (a : Addr) (cls : Value) (d : Option Addr) (R : Addr → Str → Prop) (t : TA) : TE := fun σ H Q => t σ H fun vs H1 => vs = [.ref a] ∧ ∃ D z, cls = .ref D ∧ d = none ∧ R D z ∧ RetV (.str z) H1 Q
theorem roomP {k j : Nat} {A : Around} {v : Option Value} (r : Room k A) (h : j ≤ k) : L2H.RoomH j (A.mark v) := ⟨(r.mono h).dp, (r.mono h).un⟩
section
variable {X : Cx} {p : Addr × Obj} {cls : Value} {d : Option Addr} {k : Nat} {f : Addr} {fd : FuncData} {x y : Str} {R : Addr → Str → Prop} {e : Expr} {es : List Expr} {t : TA} {q pos : Pos}
theorem run_fnP {pins : List (Addr × Obj)} {σ : L2.St} {H : Hp} {s : Shared} {Q : VK} {D : Addr} {z : Str} (hp : p ∈ X.pn) (F : FnP X.prog X.w X.K X.mg X.base k f fd y R) (hr : L2H.RoomH k X.A) (hz : Zc (.ref D) none p.2) (hf : ∃ vs, p.2.data = .fields vs) (hb : Binds X.K fd [y] [])
    (I : Inv X pins σ H s) (hR : R D z) (h : RetV (.str z) H Q) : wpAny (model X.prog X.w) X.A (call (.ref f) [.ref p.1]) (EP X pins σ Q) X.xe s := by
  have P1 := I.pin p (List.mem_append_left _ hp)
  have hpin : L2H.PinOk X.stack H s p := ⟨P1.1, P1.2.1, fun hin => (List.mem_cons.mp (I.stkSub p.1 hin)).elim P1.2.2.1 P1.2.2.2.1, P1.2.2.2.2⟩
  have b := hb s [.ref p.1] I.kIn rfl
  have g := F.go (E := fun _ _ _ => False) (args := ⟨[.ref p.1], []⟩) hr hpin hz hf I.env0 b hR h
  refine wpAny_call (codeAny_mono g fun rs s2 hq => ?_)
  cases rs with
  | error e => exact False.elim hq
  | ok fl =>
    cases fl with
    | ret u => exact I.after hq
    | next => exact False.elim hq
    | brk => exact False.elim hq
    | cont => exact False.elim hq
theorem pe_callP (hp : p ∈ X.pn) (hz : Zc cls d p.2) (hf : ∃ vs, p.2.data = .fields vs) (F : FnP X.prog X.w X.K X.mg X.base k f fd y R) (hr : L2H.RoomH k X.A) (hg : Gl X x) (hm : X.mg x = some (.ref f)) (hk : PySem.W.keepIn X.K (.ref f) = true) (hb : Binds X.K fd [y] [])
    (ha : PA X (e :: es) t) (hdb : (x == ("__debug__" : Str)) = false := by decide)
    (he : starEach (e :: es) X.env = (false, eval e X.env) :: starEach es X.env := by rfl) (hpl : (backTo pos (starEach es X.env)).any (·.1) = false := by rfl) :
    PE X (.Call (.Name x q) (e :: es) [] pos) (tCallP p.1 cls d R t) := by
  constructor
  intro pins s σ H Q I h
  refine wpAny_Call_Name_kw (ld_glob I hg hm ?_ hdb)
  refine PySem.W.callWith_K (h₀ := X.base) I.ok.mod.kin hk (thn (ha.run pos pins s σ H _ I h) fun us s1 hh => ?_) he hpl
  obtain ⟨vs, H1, I1, r1, ev, D, z, ec, ed, hR, q1⟩ := hh
  subst ev
  subst ec
  subst ed
  obtain ⟨u1, eu, ru⟩ := r1.one
  subst eu
  obtain rfl : u1 = Value.ref p.1 := ru
  exact ⟨I1.kIn, run_fnP hp F hr hz hf hb I1 hR q1⟩
end
/-! ### the words -/
def kindTab : List (Str × Str) := [("NoRow", "row"), ("NoSums", "sums"), ("NoMatch", "match"), ("TooLong", "long"), ("NoStep", "step"), ("NoSigns", "signs"), ("NoChoice", "choice"), ("NoFlat", "flat"), ("NoNote", "note")]
def KindR (K : PySem.W.Frag) (D : Addr) (t : Str) : Prop := ∃ c, (c, t) ∈ kindTab ∧ D = He.ga K c
structure KindsOk (K : PySem.W.Frag) : Prop where
  ex : ∀ c ∈ kindTab, ExcC K (He.ga K c.1)
  ve : ∀ c ∈ kindTab, PySem.W.kitOne K (.ref (He.ga K c.1)) (.type "ValueError") = some true
  is : ∀ c ∈ kindTab, ∀ e ∈ kindTab, PySem.W.kitOne K (.ref (He.ga K c.1)) (.ref (He.ga K e.1)) = some (c.1 == e.1)
def excB (K : PySem.W.Frag) (D : Addr) : Bool :=
  decide (PySem.W.findIn K (.ref D) "__getattribute__" = some (some (.builtin "BaseException.__getattribute__"))) && (decide (PySem.W.findIn K (.ref D) "__getattr__" = some none) && (decide (PySem.W.subIn K (.ref D) (.type "BaseException") = some true) &&
  (PySem.W.hasDictIn K D && (decide (PySem.W.findIn K (.ref D) "__class__" = some (some (.builtin "object.__class__"))) && (decide (PySem.W.specialIn K (.builtin "object.__class__") "__get__" = some (some (.builtin "getset_descriptor.__get__"))) &&
  (decide (PySem.W.takesIn K (.builtin "object.__class__") = some true) && decide (PySem.W.mroIn K D (.type "object") = some true)))))))
theorem excB_ok {K : PySem.W.Frag} {D : Addr} (h : excB K D = true) : ExcC K D := by
  obtain ⟨h1, h⟩ := He.ba h
  obtain ⟨h2, h⟩ := He.ba h
  obtain ⟨h3, h⟩ := He.ba h
  obtain ⟨h4, h⟩ := He.ba h
  obtain ⟨h5, h⟩ := He.ba h
  obtain ⟨h6, h⟩ := He.ba h
  obtain ⟨h7, h8⟩ := He.ba h
  exact ⟨of_decide_eq_true h1, of_decide_eq_true h2, of_decide_eq_true h3, h4, of_decide_eq_true h5, of_decide_eq_true h6, of_decide_eq_true h7, of_decide_eq_true h8⟩
def kindIs (K : PySem.W.Frag) (c e : Str × Str) : Bool := decide (PySem.W.kitOne K (.ref (He.ga K c.1)) (.ref (He.ga K e.1)) = some (c.1 == e.1))
def kindVe (K : PySem.W.Frag) (c : Str × Str) : Bool := decide (PySem.W.kitOne K (.ref (He.ga K c.1)) (.type "ValueError") = some true)
def kindOne (K : PySem.W.Frag) (c : Str × Str) : Bool := excB K (He.ga K c.1) && (kindVe K c && kindTab.all (kindIs K c))
def kindsB (K : PySem.W.Frag) : Bool := kindTab.all (kindOne K)
theorem kindIs_ok {K : PySem.W.Frag} {c e : Str × Str} (h : kindIs K c e = true) : PySem.W.kitOne K (.ref (He.ga K c.1)) (.ref (He.ga K e.1)) = some (c.1 == e.1) := by
  unfold kindIs at h
  exact of_decide_eq_true h
theorem kindVe_ok {K : PySem.W.Frag} {c : Str × Str} (h : kindVe K c = true) : PySem.W.kitOne K (.ref (He.ga K c.1)) (.type "ValueError") = some true := by
  unfold kindVe at h
  exact of_decide_eq_true h
theorem kindOne_ok {K : PySem.W.Frag} {c : Str × Str} (h : kindOne K c = true) : excB K (He.ga K c.1) = true ∧ kindVe K c = true ∧ kindTab.all (kindIs K c) = true := by
  unfold kindOne at h
  rw [Bool.and_eq_true, Bool.and_eq_true] at h
  exact h
theorem kindsB_ok {K : PySem.W.Frag} (h : kindsB K = true) : KindsOk K := by
  unfold kindsB at h
  have g := List.all_eq_true.mp h
  refine ⟨fun c hc => excB_ok (kindOne_ok (g c hc)).1, fun c hc => kindVe_ok (kindOne_ok (g c hc)).2.1, fun c hc e he => ?_⟩
  have g2 := List.all_eq_true.mp (kindOne_ok (g c hc)).2.2
  exact kindIs_ok (g2 e he)
/-- the reading of a try that catches them -/
abbrev tTryE (K : PySem.W.Frag) (C : Addr) (i : Nat) (tb : WX → TS) (ts : Addr → Value → Option Addr → TS) : TS := fun D σ H => tb (wAs K (.ref C) i ts (fun _ _ _ _ => False) D) D σ H
def RetTold (xs : List V) (H : Hp) (Q : VK) : Prop := ∀ l p H2, H l = none → H p = none → Ex H H2 → H2 l = some (.lst xs) → H2 p = some (.tup [.str "told", .ref l]) → Q (.ref p) H2
def RetErr (t : Str) (H : Hp) (Q : VK) : Prop := ∀ p H2, H p = none → Ex H H2 → H2 p = some (.tup [.str t, .non]) → Q (.ref p) H2
end Sg
namespace Sg
open PySem PySem.Spec PyProof.Rows L2 Evl
def sp_law_tried (K : PySem.W.Frag) : Sp := fun vs H Q _ => ∃ (s : Nat), vs = [.int s] ∧ s ≤ 5 ∧ (s % 2 = 0 → RetTold ((flatL (s / 2)).map V.int) H Q) ∧ (s % 2 = 1 → RetErr "flat" H Q)
def sp_law_is_flat (K : PySem.W.Frag) : Sp := fun vs H Q _ => ∃ (a : Addr) (ns : List Int), vs = [.ref a] ∧ SqL K H a (ns.map V.int) ∧ IsRow ns ∧ RetV (.bl (flatD ns)) H Q
def sp_law_held (K : PySem.W.Frag) : Sp := fun vs H Q _ => ∃ (a : Addr) (ns : List Int), vs = [.ref a] ∧ SqL K H a (ns.map V.int) ∧ IsRow ns ∧ Signs ns ∧ RetV (.bl true) H Q
theorem len_law_tried {K : PySem.W.Frag} : ∀ vs H Q E, sp_law_tried K vs H Q E → vs.length = 1 := fun _ _ _ _ h => by
  obtain ⟨_, rfl, _⟩ := h; rfl
theorem len_law_is_flat {K : PySem.W.Frag} : ∀ vs H Q E, sp_law_is_flat K vs H Q E → vs.length = 1 := fun _ _ _ _ h => by
  obtain ⟨_, _, rfl, _⟩ := h; rfl
theorem len_law_held {K : PySem.W.Frag} : ∀ vs H Q E, sp_law_held K vs H Q E → vs.length = 1 := fun _ _ _ _ h => by
  obtain ⟨_, _, rfl, _⟩ := h; rfl
end Sg
namespace Sg
open PySem PySem.Spec PyProof.Rows L2 Evl
def t_ask_row (K : PySem.W.Frag) (E : XK) : TS :=
  (tSeq (tIfS (tTest (tOp (rIn K true) (tCB (rLenS K) (tCons (tVar 0) tNil)) (tC (.ref (He.ga K "LENGTHS")))))
   (tRz E (He.ga K "NoRow"))
   tNext)
  (tFor (iList K (tVar 0)) (gName 1)
   (tIfS (tNot (tTest (tChain rLeI rLeI (tUn rNegI (tC (.int 100000000000000000000))) (tVar 1) (tC (.int 100000000000000000000)))))
    (tRz E (He.ga K "NoRow"))
    tNext)))
def N_ask_row : List Str := ["row", "number"]
def t_summed (K : PySem.W.Frag) : TS :=
  (tSeq (tAsg (tCB (rListS K) (tCons (tVar 0) tNil)) (gName 1))
  (tSeq (tAsg (tC (.int 1)) (gName 2))
  (tSeq (tWhile (tTest (tOp rLtI (tVar 2) (tCB (rLenS K) (tCons (tVar 1) tNil))))
   (tSeq (tAsg (tCB (rListS K) (tCons (tVar 1) tNil)) (gName 3))
   (tSeq (tFor (iRng1 (tCons (tCB (rLenS K) (tCons (tVar 1) tNil)) tNil)) (gName 4)
    (tIfS (tTest (tOp rEq (tOp rModI (tOp rDivI (tVar 4) (tVar 2)) (tC (.int 2))) (tC (.int 0))))
     (tSeq (tAsg (tOp rAddI (tOp (rIxL K) (tVar 1) (tVar 4)) (tOp (rIxL K) (tVar 1) (tOp rAddI (tVar 4) (tVar 2)))) (gSub (tVar 3) (tVar 4) rSetL))
     (tAsg (tOp rSubI (tOp (rIxL K) (tVar 1) (tVar 4)) (tOp (rIxL K) (tVar 1) (tOp rAddI (tVar 4) (tVar 2)))) (gSub (tVar 3) (tOp rAddI (tVar 4) (tVar 2)) rSetL)))
     tNext))
   (tSeq (tAsg (tVar 3) (gName 1))
   (tAsg (tOp rMulI (tC (.int 2)) (tVar 2)) (gName 2))))))
  (tRet (tVar 1)))))
def N_summed : List Str := ["row", "found", "wide", "longer", "place"]
def t_tied (K : PySem.W.Frag) (E : XK) : TS :=
  (tSeq (tDrop (tCall (sp_ask_row K) [] E (tCons (tVar 0) tNil)))
  (tSeq (tDrop (tCall (sp_ask_row K) [] E (tCons (tVar 1) tNil)))
  (tSeq (tIfS (tTest (tOp rGtI (tOp rMulI (tCB (rLenS K) (tCons (tVar 0) tNil)) (tCB (rLenS K) (tCons (tVar 1) tNil))) (tC (.int 32))))
   (tRz E (He.ga K "TooLong"))
   tNext)
  (tSeq (tAsg (tLst tNil) (gName 2))
  (tSeq (tFor (iList K (tVar 1)) (gName 3)
   (tAsg (tOp rCat (tVar 2) (tLc (iList K (tVar 0)) (gName 4) tYes (tOp rMulI (tVar 4) (tVar 3)) [4])) (gName 2)))
  (tRet (tVar 2)))))))
def N_tied : List Str := ["one", "other", "found", "number", "mine"]
def t_ask_steps (K : PySem.W.Frag) (E : XK) : TS :=
  (tIfS (tNot (tTest (tChain rLeI rLeI (tC (.int 0)) (tVar 0) (tC (.int 5)))))
   (tRz E (He.ga K "NoStep"))
   tNext)
def N_ask_steps : List Str := ["steps"]
def t_are_signs (K : PySem.W.Frag) : TS :=
  (tRet (tCB (rAll K) (tCons (tLc (iList K (tVar 0)) (gName 1) tYes (tOp (rIn K false) (tVar 1) (tTup (tCons (tC (.int 1)) (tCons (tUn rNegI (tC (.int 1))) tNil)))) [1]) tNil)))
def N_are_signs : List Str := ["row", "number"]
def t_ask_signs (K : PySem.W.Frag) (E : XK) : TS :=
  (tIfS (tNot (tB (tCall (sp_are_signs K) [] E0 (tCons (tVar 0) tNil))))
   (tRz E (He.ga K "NoSigns"))
   tNext)
def N_ask_signs : List Str := ["row"]
def t_nearest (K : PySem.W.Frag) (E : XK) : TS :=
  (tSeq (tDrop (tCall (sp_ask_row K) [] E (tCons (tVar 0) tNil)))
  (tSeq (tDrop (tCall (sp_ask_signs K) [] E (tCons (tVar 0) tNil)))
  (tSeq (tAsg (tCall (sp_summed K) [] E0 (tCons (tVar 0) tNil)) (gName 1))
  (tSeq (tAsg (tC .non) (gName 2))
  (tSeq (tFor (iRng1 (tCons (tCB (rLenS K) (tCons (tVar 0) tNil)) tNil)) (gName 3)
   (tFor (iTup K (tTup (tCons (tC (.bl false)) (tCons (tC (.bl true)) tNil)))) (gName 4)
    (tSeq (tAsg (tOp (rIxL K) (tVar 1) (tVar 3)) (gName 5))
    (tSeq (tIfS (tB (tVar 4))
     (tAsg (tOp rSubI (tC (.int 0)) (tVar 5)) (gName 5))
     tNext)
    (tSeq (tAsg (tOp rDivI (tOp rSubI (tCB (rLenS K) (tCons (tVar 0) tNil)) (tVar 5)) (tC (.int 2))) (gName 6))
    (tIfS (tOr (tTest (tOp rIsNo (tVar 2) (tC .non))) (tTest (tOp rLtI (tVar 6) (tOp (rIxT K) (tVar 2) (tC (.int 2))))))
     (tAsg (tTup (tCons (tVar 3) (tCons (tVar 4) (tCons (tVar 6) tNil)))) (gName 2))
     tNext))))))
  (tRet (tVar 2)))))))
def N_nearest : List Str := ["row", "found", "best", "choice", "turned", "here", "far"]
def t_is_flat (K : PySem.W.Frag) (E : XK) : TS :=
  (tSeq (tDrop (tCall (sp_ask_row K) [] E (tCons (tVar 0) tNil)))
  (tSeq (tDrop (tCall (sp_ask_signs K) [] E (tCons (tVar 0) tNil)))
  (tRet (tOp rEq (tLenSet K (tLc (iList K (tCall (sp_summed K) [] E0 (tCons (tVar 0) tNil))) (gName 1) tYes (tCB rAbs (tCons (tVar 1) tNil)) [1])) (tC (.int 1))))))
def N_is_flat : List Str := ["row", "number"]
def t_flat (K : PySem.W.Frag) (E : XK) : TS :=
  (tSeq (tDrop (tCall (sp_ask_steps K) [] E (tCons (tVar 0) tNil)))
  (tSeq (tIfS (tTest (tOp rEq (tOp rModI (tVar 0) (tC (.int 2))) (tC (.int 1))))
   (tRz E (He.ga K "NoFlat"))
   tNext)
  (tSeq (tAsg (tLst (tCons (tC (.int 1)) tNil)) (gName 1))
  (tSeq (tFor (iRng1 (tCons (tOp rDivI (tVar 0) (tC (.int 2))) tNil)) (gName 2)
   (tAsg (tCall (sp_tied K) [] E (tCons (tVar 1) (tCons (tCB (rListS K) (tCons (tC (.ref (He.ga K "FLAT_FOUR"))) tNil)) tNil))) (gName 1)))
  (tRet (tVar 1))))))
def N_flat : List Str := ["steps", "found", "k"]
def t_law_cell_at (K : PySem.W.Frag) : TS :=
  (tSeq (tIfS (tTest (tOp rLtI (tVar 1) (tCB (rLenS K) (tCons (tVar 0) tNil))))
   (tRet (tOp (rIxL K) (tVar 0) (tVar 1)))
   tNext)
  (tRet (tC (.int 0))))
def N__law_cell_at : List Str := ["script", "k"]
def t_law_whole (K : PySem.W.Frag) : TS :=
  (tRet (tAndV (tCB (rIsi K) (tCons (tVar 0) (tCons (tC (.ty "int")) tNil))) (tNotV (tCB (rIsi K) (tCons (tVar 0) (tCons (tC (.ty "bool")) tNil))))))
def N__law_whole : List Str := ["found"]
def t_law_next (K : PySem.W.Frag) : TS :=
  (tSeq (tAsg (tOp rModI (tOp rAddI (tVar 0) (tC (.int 7919))) (tC (.int 2147483647))) (gName 0))
  (tRet (tOp rModI (tOp rAddI (tOp rAddI (tOp rMulI (tVar 0) (tVar 0)) (tOp rMulI (tC (.int 48271)) (tVar 0))) (tC (.int 12345))) (tC (.int 2147483629)))))
def N__law_next : List Str := ["seed"]
def t_law_row (K : PySem.W.Frag) : TS :=
  (tSeq (tAsg (tLst tNil) (gName 4))
  (tSeq (tFor (iRng1 (tCons (tOp (rIxL K) (tLst (tCons (tC (.int 1)) (tCons (tC (.int 2)) (tCons (tC (.int 4)) (tCons (tC (.int 8)) (tCons (tC (.int 16)) (tCons (tC (.int 32)) tNil))))))) (tVar 1)) tNil)) (gName 5)
   (tSeq (tAsg (tCall (sp_law_next K) [] E0 (tCons (tOp rAddI (tOp rModI (tVar 0) (tC (.int 1000003))) (tOp rMulI (tC (.int 31)) (tVar 5))) tNil)) (gName 0))
   (tSeq (tAsg (tOp rSubI (tOp rModI (tOp rDivI (tVar 0) (tC (.int 7))) (tC (.int 2000001))) (tC (.int 1000000))) (gName 6))
   (tSeq (tIfS (tTest (tOp rEq (tOp rModI (tOp rDivI (tVar 2) (tC (.int 4))) (tC (.int 2))) (tC (.int 1))))
    (tAsg (tOp rAddI (tOp rMulI (tVar 6) (tVar 3)) (tOp rMulI (tOp rSubI (tC (.int 1)) (tOp rMulI (tC (.int 2)) (tCB rInt1 (tCons (tOp rLtI (tVar 6) (tC (.int 0))) tNil)))) (tOp rModI (tOp rDivI (tVar 0) (tC (.int 64))) (tVar 3)))) (gName 6))
    tNext)
   (tSeq (tIfS (tTest (tOp rEq (tOp rModI (tVar 2) (tC (.int 4))) (tC (.int 0))))
    (tAsg (tOp rSubI (tC (.int 1)) (tOp rMulI (tC (.int 2)) (tOp rModI (tOp rDivI (tVar 0) (tC (.int 7))) (tC (.int 2))))) (gName 6))
    tNext)
   (tSeq (tIfS (tTest (tOp rEq (tOp rModI (tVar 2) (tC (.int 4))) (tC (.int 1))))
    (tAsg (tOp rSubI (tOp rModI (tOp rDivI (tVar 0) (tC (.int 7))) (tC (.int 9))) (tC (.int 4))) (gName 6))
    tNext)
   (tSeq (tIfS (tAnd (tTest (tOp rEq (tOp rModI (tVar 2) (tC (.int 4))) (tC (.int 3)))) (tTest (tOp rGtI (tOp rModI (tOp rDivI (tVar 0) (tC (.int 14000007))) (tC (.int 3))) (tC (.int 0)))))
    (tAsg (tC (.int 0)) (gName 6))
    tNext)
   (tDrop (tBM K "list" rAppend (tVar 4) (tCons (tVar 6) tNil))))))))))
  (tRet (tVar 4))))
def N__law_row : List Str := ["cell", "steps", "way", "great", "found", "place", "number"]
def t_law_sign (K : PySem.W.Frag) : TS :=
  (tSeq (tAsg (tC (.int 1)) (gName 2))
  (tSeq (tFor (iList K (tLst (tCons (tC (.int 1)) (tCons (tC (.int 2)) (tCons (tC (.int 4)) (tCons (tC (.int 8)) (tCons (tC (.int 16)) tNil))))))) (gName 3)
   (tIfS (tAnd (tTest (tOp rEq (tOp rModI (tOp rDivI (tVar 0) (tVar 3)) (tC (.int 2))) (tC (.int 1)))) (tTest (tOp rEq (tOp rModI (tOp rDivI (tVar 1) (tVar 3)) (tC (.int 2))) (tC (.int 1)))))
    (tAsg (tOp rSubI (tC (.int 0)) (tVar 2)) (gName 2))
    tNext))
  (tRet (tVar 2))))
def N__law_sign : List Str := ["place", "choice", "found", "power"]
def t_law_sums (K : PySem.W.Frag) : TS :=
  (tSeq (tAsg (tLst tNil) (gName 1))
  (tSeq (tFor (iRng1 (tCons (tCB (rLenS K) (tCons (tVar 0) tNil)) tNil)) (gName 2)
   (tDrop (tBM K "list" rAppend (tVar 1) (tCons (tCB (rSum K) (tCons (tLc (iRng1 (tCons (tCB (rLenS K) (tCons (tVar 0) tNil)) tNil)) (gName 3) tYes (tOp rMulI (tCall (sp_law_sign K) [] E0 (tCons (tVar 3) (tCons (tVar 2) tNil))) (tOp (rIxL K) (tVar 0) (tVar 3))) [3]) tNil)) tNil))))
  (tRet (tVar 1))))
def N__law_sums : List Str := ["row", "found", "choice", "place"]
def t_law_alike (K : PySem.W.Frag) : TS :=
  (tSeq (tIfS (tOr (tNot (tB (tCB (rIsi K) (tCons (tVar 0) (tCons (tC (.ty "list")) tNil))))) (tTest (tOp rNe (tCB (rLenS K) (tCons (tVar 0) tNil)) (tCB (rLenS K) (tCons (tVar 1) tNil)))))
   (tRet (tC (.bl false)))
   tNext)
  (tSeq (tFor (iRng1 (tCons (tCB (rLenS K) (tCons (tVar 1) tNil)) tNil)) (gName 2)
   (tIfS (tOr (tNot (tB (tCall (sp_law_whole K) [] E0 (tCons (tOp (rIxL K) (tVar 0) (tVar 2)) tNil)))) (tTest (tOp rNe (tOp (rIxL K) (tVar 0) (tVar 2)) (tOp (rIxL K) (tVar 1) (tVar 2)))))
    (tRet (tC (.bl false)))
    tNext))
  (tRet (tC (.bl true)))))
def N__law_alike : List Str := ["found", "due", "k"]
def t_law_kind (K : PySem.W.Frag) (D a : Addr) : TS :=
  (tSeq (tAsg (tLst (tCons (tCB (rIsE K D a) (tCons (tVar 0) (tCons (tC (.ref (He.ga K "NoRow"))) tNil))) (tCons (tCB (rIsE K D a) (tCons (tVar 0) (tCons (tC (.ref (He.ga K "NoSums"))) tNil))) (tCons (tCB (rIsE K D a) (tCons (tVar 0) (tCons (tC (.ref (He.ga K "NoMatch"))) tNil))) (tCons (tCB (rIsE K D a) (tCons (tVar 0) (tCons (tC (.ref (He.ga K "TooLong"))) tNil))) tNil))))) (gName 1))
  (tSeq (tAsg (tOp rCat (tVar 1) (tLst (tCons (tCB (rIsE K D a) (tCons (tVar 0) (tCons (tC (.ref (He.ga K "NoStep"))) tNil))) (tCons (tCB (rIsE K D a) (tCons (tVar 0) (tCons (tC (.ref (He.ga K "NoSigns"))) tNil))) (tCons (tCB (rIsE K D a) (tCons (tVar 0) (tCons (tC (.ref (He.ga K "NoChoice"))) tNil))) (tCons (tCB (rIsE K D a) (tCons (tVar 0) (tCons (tC (.ref (He.ga K "NoFlat"))) tNil))) tNil)))))) (gName 1))
  (tSeq (tDrop (tBM K "list" rAppend (tVar 1) (tCons (tCB (rIsE K D a) (tCons (tVar 0) (tCons (tC (.ref (He.ga K "NoNote"))) tNil))) tNil)))
  (tSeq (tIfS (tOr (tNot (tB (tCB (rIsE K D a) (tCons (tVar 0) (tCons (tC (.ty "ValueError")) tNil))))) (tTest (tOp rNe (tBM K "list" (rCountV K) (tVar 1) (tCons (tC (.bl true)) tNil)) (tC (.int 1)))))
   (tRet (tC (.str "other")))
   tNext)
  (tRet (tOp (rIxL K) (tLst (tCons (tC (.str "row")) (tCons (tC (.str "sums")) (tCons (tC (.str "match")) (tCons (tC (.str "long")) (tCons (tC (.str "step")) (tCons (tC (.str "signs")) (tCons (tC (.str "choice")) (tCons (tC (.str "flat")) (tCons (tC (.str "note")) tNil)))))))))) (tBM K "list" (rIndex K) (tVar 1) (tCons (tC (.bl true)) tNil))))))))
def N__law_kind : List Str := ["e", "kinds"]
def t_law_tried (K : PySem.W.Frag) : TS :=
  (tTryE K (He.ga K "SignError") 1
   (fun W => (tRet (tTup (tCons (tC (.str "told")) (tCons (tCallS (sp_flat K) (WE W) (tCons (tVar 0) tNil)) tNil)))))
   (fun a cls d => (tRet (tTup (tCons (tCallP a cls d (KindR K) (tCons (tVar 1) tNil)) (tCons (tC .non) tNil))))))
def N__law_tried : List Str := ["steps", "e"]
def t_law_is_flat (K : PySem.W.Frag) : TS :=
  (tSeq (tAsg (tCall (sp_law_sums K) [] E0 (tCons (tVar 0) tNil)) (gName 1))
  (tRet (tCB (rAll K) (tCons (tLc (iList K (tVar 1)) (gName 2) tYes (tOp rEq (tCB rAbs (tCons (tVar 2) tNil)) (tCB rAbs (tCons (tOp (rIxL K) (tVar 1) (tC (.int 0))) tNil))) [2]) tNil))))
def N__law_is_flat : List Str := ["row", "found", "number"]
def t_law_held (K : PySem.W.Frag) : TS :=
  (tSeq (tAsg (tCB (rListS K) (tCons (tVar 0) tNil)) (gName 1))
  (tSeq (tAsg (tCall (sp_is_flat K) [] E0 (tCons (tVar 1) tNil)) (gName 2))
  (tRet (tAndV (tCB (rIsi K) (tCons (tVar 2) (tCons (tC (.ty "bool")) tNil))) (tAndV (tOp rEq (tVar 2) (tCall (sp_law_is_flat K) [] E0 (tCons (tVar 0) tNil))) (tOp (rEqD K) (tVar 1) (tVar 0)))))))
def N__law_held : List Str := ["row", "handed", "found"]
def t_law (K : PySem.W.Frag) : TS :=
  (tSeq (tAsg (tOp rAddI (tOp rModI (tCall (sp_law_cell_at K) [] E0 (tCons (tVar 0) (tCons (tC (.int 0)) tNil))) (tC (.int 5))) (tCB rInt1 (tCons (tOp rEq (tOp rModI (tCall (sp_law_cell_at K) [] E0 (tCons (tVar 0) (tCons (tC (.int 1)) tNil))) (tC (.int 6))) (tC (.int 1))) tNil))) (gName 1))
  (tSeq (tAsg (tCall (sp_law_row K) [] E0 (tCons (tCall (sp_law_cell_at K) [] E0 (tCons (tVar 0) (tCons (tC (.int 2)) tNil))) (tCons (tVar 1) (tCons (tC (.int 0)) (tCons (tOp rMulI (tC (.int 9)) (tOp rPowI (tC (.int 10)) (tC (.int 11)))) tNil))))) (gName 2))
  (tSeq (tAsg (tCall (sp_law_tried K) [] E0 (tCons (tVar 1) tNil)) (gName 3))
  (tSeq (tIfS (tNot (tB (tCall (sp_law_held K) [] E0 (tCons (tVar 2) tNil))))
   (tRet (tC (.bl false)))
   tNext)
  (tSeq (tIfS (tTest (tOp rEq (tOp rModI (tVar 1) (tC (.int 2))) (tC (.int 1))))
   (tRet (tAndV (tOp rEq (tOp (rIxT K) (tVar 3) (tC (.int 0))) (tC (.str "flat"))) (tNotV (tCall (sp_is_flat K) [] E0 (tCons (tVar 2) tNil)))))
   tNext)
  (tSeq (tAsg (tOp (rIxT K) (tVar 3) (tC (.int 1))) (gName 4))
  (tSeq (tIfS (tOr (tTest (tOp rNe (tOp (rIxT K) (tVar 3) (tC (.int 0))) (tC (.str "told")))) (tOr (tNot (tB (tCall (sp_law_alike K) [] E0 (tCons (tVar 4) (tCons (tCB (rListS K) (tCons (tVar 4) tNil)) tNil))))) (tTest (tOp rNe (tCB (rLenS K) (tCons (tVar 4) tNil)) (tCB (rLenS K) (tCons (tVar 2) tNil))))))
   (tRet (tC (.bl false)))
   tNext)
  (tSeq (tIfS (tOr (tNot (tB (tCB (rAll K) (tCons (tLc (iList K (tVar 4)) (gName 12) tYes (tOp (rIn K false) (tVar 12) (tTup (tCons (tC (.int 1)) (tCons (tUn rNegI (tC (.int 1))) tNil)))) [12]) tNil)))) (tNot (tB (tCall (sp_law_is_flat K) [] E0 (tCons (tVar 4) tNil)))))
   (tRet (tC (.bl false)))
   tNext)
  (tSeq (tIfS (tTest (tOp rGtI (tOp (rIxT K) (tCall (sp_nearest K) [] E0 (tCons (tCB (rListS K) (tCons (tVar 2) tNil)) tNil)) (tC (.int 2))) (tOp (rIxT K) (tCall (sp_nearest K) [] E0 (tCons (tCB (rListS K) (tCons (tVar 4) tNil)) tNil)) (tC (.int 2)))))
   (tRet (tC (.bl false)))
   tNext)
  (tSeq (tAsg (tCB (rListS K) (tCons (tVar 4) tNil)) (gName 5))
  (tSeq (tDrop (tBM K "list" rAppend (tVar 4) (tCons (tC (.int 0)) tNil)))
  (tSeq (tAsg (tCall (sp_flat K) [] E0 (tCons (tVar 1) tNil)) (gName 6))
  (tSeq (tIfS (tOr (tTest (tOp rNe (tCB (rLenS K) (tCons (tVar 6) tNil)) (tCB (rLenS K) (tCons (tVar 2) tNil)))) (tNot (tB (tCall (sp_law_is_flat K) [] E0 (tCons (tVar 6) tNil)))))
   (tRet (tC (.bl false)))
   tNext)
  (tSeq (tAsg (tVar 5) (gName 4))
  (tSeq (tAsg (tOp rModI (tCall (sp_law_cell_at K) [] E0 (tCons (tVar 0) (tCons (tC (.int 3)) tNil))) (tCB (rLenS K) (tCons (tVar 2) tNil))) (gName 7))
  (tSeq (tAsg (tLc (iRng1 (tCons (tCB (rLenS K) (tCons (tVar 2) tNil)) tNil)) (gName 13) tYes (tOp rMulI (tOp (rIxL K) (tVar 4) (tVar 13)) (tCall (sp_law_sign K) [] E0 (tCons (tVar 13) (tCons (tVar 7) tNil)))) [13]) (gName 8))
  (tSeq (tAsg (tCB (rListS K) (tCons (tVar 8) tNil)) (gName 9))
  (tSeq (tAsg (tOp rModI (tCall (sp_law_cell_at K) [] E0 (tCons (tVar 0) (tCons (tC (.int 4)) tNil))) (tCB (rLenS K) (tCons (tVar 2) tNil))) (gName 10))
  (tSeq (tAsg (tOp rSubI (tC (.int 0)) (tOp (rIxL K) (tVar 9) (tVar 10))) (gSub (tVar 9) (tVar 10) rSetL))
  (tSeq (tIfS (tOr (tNot (tB (tCall (sp_law_held K) [] E0 (tCons (tVar 8) tNil)))) (tOr (tNot (tB (tCall (sp_is_flat K) [] E0 (tCons (tVar 8) tNil)))) (tNot (tB (tCall (sp_law_held K) [] E0 (tCons (tVar 9) tNil))))))
   (tRet (tC (.bl false)))
   tNext)
  (tSeq (tIfS (tTest (tOp rEq (tVar 1) (tC (.int 4))))
   (tRet (tC (.bl true)))
   tNext)
  (tSeq (tAsg (tCall (sp_tied K) [] E0 (tCons (tVar 8) (tCons (tCall (sp_flat K) [] E0 (tCons (tOp rMulI (tOp rModI (tCall (sp_law_cell_at K) [] E0 (tCons (tVar 0) (tCons (tC (.int 5)) tNil))) (tC (.int 2))) (tC (.int 2))) tNil)) tNil))) (gName 11))
  (tRet (tAndV (tCall (sp_law_held K) [] E0 (tCons (tVar 11) tNil)) (tCall (sp_is_flat K) [] E0 (tCons (tVar 11) tNil))))))))))))))))))))))))))
def N_law : List Str := ["script", "steps", "row", "told", "found", "kept", "again", "choice", "mixed", "other", "at", "more", "number", "place"]
end Sg
namespace Sg
open PySem PySem.Spec PyProof.Rows L2 Evl
/-! ### the program: ask_row, summed, sums -/
theorem inV_six (n : Nat) : inV (.int n) [.int 1, .int 2, .int 4, .int 8, .int 16, .int 32] = decide (n ∈ [1, 2, 4, 8, 16, 32]) := by
  by_cases h : n ∈ [1, 2, 4, 8, 16, 32]
  · rw [decide_eq_true h]
    simp only [List.mem_cons, List.not_mem_nil, or_false] at h
    rcases h with rfl | rfl | rfl | rfl | rfl | rfl <;> rfl
  · rw [decide_eq_false h]
    simp only [List.mem_cons, List.not_mem_nil, or_false, not_or] at h
    simp [inV, eqV]
    omega
theorem pure_ask_row {K : PySem.W.Frag} (hT : ∀ H : Hp, SqT K H (He.ga K "LENGTHS") [.int 1, .int 2, .int 4, .int 8, .int 16, .int 32]) (vs : List V) (H : Hp) (Q : VK) (E : XK) (h : sp_ask_row K vs H Q E) : t_ask_row K E { nx := fun _ H' => Q .non H', rt := Q } (start N_ask_row vs) H := by
  obtain ⟨a, ns, rfl, hS, q1, q2⟩ := h
  refine q_when (b := !decide (ns.length ∈ [1, 2, 4, 8, 16, 32])) (et_test (ev_is (ev_op (ev_lenM (ev_var rfl) hS) ev_c (rv_niT (hT H) rfl rfl)) (by rw [inV_six]))) (fun hb H1 e1 => ?_) (fun hb H1 e1 => ?_)
  · have hne := not_t hb
    exact q2 (fun z => hne z.1) H1 e1
  · have hlen := not_f hb
    refine s_forLn (xs := ns.map V.int) (ev_var rfl) (ex_l e1 hS) (fun i σ H' => (∃ y, σ = [some (.ref a), y]) ∧ Ex H H' ∧ ∀ k, k < i → ∀ x, ns[k]? = some x → -100000000000000000000 ≤ x ∧ x ≤ 100000000000000000000)
      (fun H2 e2 => ⟨⟨none, rfl⟩, e1.trans e2, fun k hk => absurd hk (Nat.not_lt_zero _)⟩) (fun i σ H' _ hp => ex_l hp.2.1 hS) (fun i x σ H' hx hp => ?_) (fun σ H' hp => ?_)
    · obtain ⟨⟨y, rfl⟩, ex, hh⟩ := hp
      obtain ⟨z, hz, rfl⟩ : ∃ z, ns[i]? = some z ∧ x = V.int z := by
        rw [List.getElem?_map] at hx
        cases e : ns[i]? with
        | none => rw [e] at hx; cases hx
        | some z => rw [e] at hx; exact ⟨z, rfl, (Option.some.inj hx).symm⟩
      refine s_when (b := !(decide (-100000000000000000000 ≤ z) && decide (z ≤ 100000000000000000000))) (et_not (et_test (ev_chain (ev_neg ev_c) (ev_var rfl) rv_le ev_c rv_le))) (fun hb2 H2 e2 => ?_) (fun hb2 H2 e2 => ?_)
      · refine q2 (fun r => ?_) H2 (ex.trans e2)
        have := r.2 z (List.mem_of_getElem? hz)
        simp [this.1, this.2] at hb2
      · refine ⟨⟨some (.int z), rfl⟩, ex.trans e2, fun k hk x hx => ?_⟩
        by_cases hki : k = i
        · rw [hki, hz] at hx
          cases hx
          simpa using hb2
        · exact hh k (by omega) x hx
    · obtain ⟨⟨y, rfl⟩, ex, hh⟩ := hp
      refine q1 ⟨hlen, fun x hx => ?_⟩ H' ex
      obtain ⟨k, hk⟩ := List.mem_iff_getElem?.mp hx
      refine hh k ?_ x hk
      rw [List.length_map]
      exact (List.getElem?_eq_some_iff.mp hk).1
end Sg
namespace Sg
open PySem PySem.Spec PyProof.Rows L2 Evl
/-- behind i places of a step -/
def half (w n i : Nat) (f : Nat → Int) (j : Nat) : Int := if j / w % 2 = 0 then (if j < i then f j + f (j + w) else f j) else (if j - w < i then f (j - w) - f j else f j)
theorem half_step {s k i : Nat} {f g : Nat → Int} (hs : s < 6) (hk : k < s) (hi : i < 2 ^ s) (hg : ∀ j, j < 2 ^ s → g j = half (2 ^ k) (2 ^ s) i f j) (he : i / 2 ^ k % 2 = 0) :
    ∀ j, j < 2 ^ s → (if j = i + 2 ^ k then f i - f (i + 2 ^ k) else if j = i then f i + f (i + 2 ^ k) else g j) = half (2 ^ k) (2 ^ s) (i + 1) f j := by
  intro j hj
  have ho : (i + 2 ^ k) / 2 ^ k % 2 = 1 := by
    rw [Nat.add_div_right _ (by exact Nat.two_pow_pos k)]
    omega
  unfold half
  by_cases h1 : j = i + 2 ^ k
  · rw [if_pos h1, h1, if_neg (by omega), if_pos (by omega)]
    rw [Nat.add_sub_cancel]
  · rw [if_neg h1]
    by_cases h2 : j = i
    · rw [if_pos h2, h2, if_pos he, if_pos (by omega)]
    · rw [if_neg h2, hg j hj]
      unfold half
      by_cases h3 : j / 2 ^ k % 2 = 0
      · rw [if_pos h3, if_pos h3]
        by_cases h4 : j < i
        · rw [if_pos h4, if_pos (by omega)]
        · rw [if_neg h4, if_neg (by omega)]
      · have := odd_ge h3
        rw [if_neg h3, if_neg h3]
        by_cases h4 : j - 2 ^ k < i
        · rw [if_pos h4, if_pos (by omega)]
        · rw [if_neg h4, if_neg (by omega)]
theorem half_skip {s k i : Nat} {f : Nat → Int} (hk : k < s) (he : ¬ i / 2 ^ k % 2 = 0) : ∀ j, half (2 ^ k) (2 ^ s) i f j = half (2 ^ k) (2 ^ s) (i + 1) f j := by
  intro j
  unfold half
  by_cases h3 : j / 2 ^ k % 2 = 0
  · rw [if_pos h3, if_pos h3]
    by_cases h4 : j < i
    · rw [if_pos h4, if_pos (by omega)]
    · have : j ≠ i := fun e => he (e ▸ h3)
      rw [if_neg h4, if_neg (by omega)]
  · have h5 := odd_ge h3
    rw [if_neg h3, if_neg h3]
    by_cases h4 : j - 2 ^ k < i
    · rw [if_pos h4, if_pos (by omega)]
    · have : j - 2 ^ k ≠ i := fun e => by
        have e2 : j = i + 2 ^ k := by omega
        rw [e2, Nat.add_div_right _ (Nat.two_pow_pos k)] at h3
        omega
      rw [if_neg h4, if_neg (by omega)]
theorem half_all {s k : Nat} {f : Nat → Int} : ∀ j, j < 2 ^ s → half (2 ^ k) (2 ^ s) (2 ^ s) f j = stepAt (2 ^ k) f j := by
  intro j hj
  unfold half stepAt
  by_cases h3 : j / 2 ^ k % 2 = 0
  · rw [if_pos h3, if_pos h3, if_pos hj]
  · rw [if_neg h3, if_neg h3, if_pos (Nat.lt_of_le_of_lt (Nat.sub_le _ _) hj)]
theorem pure_summed {K : PySem.W.Frag} (vs : List V) (H : Hp) (Q : VK) (E : XK) (h : sp_summed K vs H Q E) : t_summed K { nx := fun _ H' => Q .non H', rt := Q } (start N_summed vs) H := by
  obtain ⟨a, ns, rfl, hS, hlen, q⟩ := h
  obtain ⟨s, hs, hn⟩ := pow_of_mem hlen
  have h32 := pow_le32 hs
  let f : Nat → Int := fun j => ns.getD j 0
  refine q_asgL (xs := ns.map V.int) (el_list (ev_var rfl) hS) fun o H1 ho e1 h1 => ?_
  refine q_asg ev_c fun H2 e2 => ?_
  refine q_while (fun m σ H' => ∃ k, k ≤ s ∧ m = s - k ∧ ∃ (fp : Addr) (L : List Int) (y z : Option V), σ = [some (.ref a), some (.ref fp), some (.int ((2 ^ k : Nat) : Int)), y, z] ∧ H fp = none ∧ Ex H H' ∧ H' fp = some (.lst (L.map V.int)) ∧ L.length = 2 ^ s ∧ ∀ j, j < 2 ^ s → L.getD j 0 = fast k f j)
    s ⟨0, Nat.zero_le _, rfl, o, ns, none, none, rfl, ho, e1.trans e2, e2 o _ h1, hn, fun j _ => rfl⟩ (fun m σ H' hw => ?_)
  obtain ⟨k, hk, rfl, fp, L, y, z, rfl, hfp, ex, hH, hL, hj⟩ := hw
  refine ⟨decide (((2 ^ k : Nat) : Int) < L.length), et_test (ev_op (ev_var rfl) (ev_lenM (ev_var rfl) (sq_of hH)) rv_lt), fun hb H3 e3 => ?_, fun hb H3 e3 => ?_⟩
  · have hlt : 2 ^ k < 2 ^ s := by have := of_decide_eq_true hb; omega
    have hks : k < s := Nat.lt_of_not_le fun q => absurd (Nat.pow_le_pow_right (by decide : 0 < 2) q) (by omega)
    have hw1 : 0 < 2 ^ k := Nat.two_pow_pos k
    refine ⟨fun σ2 H2 => ∃ (fp : Addr) (L : List Int) (y z : Option V), σ2 = [some (.ref a), some (.ref fp), some (.int ((2 ^ (k + 1) : Nat) : Int)), y, z] ∧ H fp = none ∧ Ex H H2 ∧ H2 fp = some (.lst (L.map V.int)) ∧ L.length = 2 ^ s ∧ ∀ j, j < 2 ^ s → L.getD j 0 = fast (k + 1) f j,
      fun σ2 H2 hN => ⟨s - (k + 1), by omega, k + 1, by omega, rfl, hN⟩, ?_⟩
    have hH3 := e3 fp _ hH
    refine q_asgL (xs := L.map V.int) (el_list (ev_var rfl) (sq_of hH3)) fun l H4 hl e4 h4 => ?_
    have hlf : fp ≠ l := ne_of_none hH3 hl
    have hlH : H l = none := fresh_back (ex.trans e3) hl
    refine q_forR1 (n := ((2 ^ s : Nat) : Int)) (ea_cons (ev_is (ev_lenM (ev_var rfl) (sq_of (e4 fp _ hH3))) (by rw [hL])) ea_nil) ⟨by omega, by omega⟩
      (fun i σ H' => (∃ y, σ = [some (.ref a), some (.ref fp), some (.int ((2 ^ k : Nat) : Int)), some (.ref l), y]) ∧ Ex H H' ∧ H' fp = some (.lst (L.map V.int)) ∧ ∃ M : List Int, H' l = some (.lst (M.map V.int)) ∧ M.length = 2 ^ s ∧ ∀ j, j < 2 ^ s → M.getD j 0 = half (2 ^ k) (2 ^ s) i (fast k f) j)
      (fun H5 e5 => ⟨⟨z, rfl⟩, ((ex.trans e3).trans e4).trans e5, e5 fp _ (e4 fp _ hH3), L, e5 l _ h4, hL, fun j hj' => by rw [hj j hj']; unfold half; split <;> rw [if_neg (Nat.not_lt_zero _)]⟩) (fun i σ H' hi hp => ?_) (fun σ H' hp => ?_)
    · obtain ⟨⟨y', rfl⟩, ex', hf', M, hM, hMl, hMj⟩ := hp
      have hi1 : i < 2 ^ s := by omega
      have hdiv : ((i : Int) / ((2 ^ k : Nat) : Int) % 2 = 0) ↔ i / 2 ^ k % 2 = 0 := by
        rw [← Int.natCast_ediv]
        omega
      refine s_when (b := decide (i / 2 ^ k % 2 = 0)) (et_is (et_test (ev_op (ev_op (ev_op (ev_var rfl) (ev_var rfl) (rv_div (by omega) (by omega))) ev_c (rv_mod (by decide))) ev_c rv_eqI)) (decide_eq_decide.mpr hdiv)) (fun hb2 H5 e5 => ?_) (fun hb2 H5 e5 => ?_)
      · have he := of_decide_eq_true hb2
        have hiw := half_lt hs hks hi1 he
        have hf5 := e5 fp _ hf'
        have hM5 := e5 l _ hM
        refine q_setL (j := i) (v := .int (fast k f i + fast k f (i + 2 ^ k))) hM5 (ev_is (ev_op (ev_op (ev_var rfl) (ev_var rfl) (rv_ixN (sq_of hf5) rfl (by omega))) (ev_op (ev_var rfl) (ev_op (ev_var rfl) (ev_var rfl) rv_add) (rv_ixN (k := i + 2 ^ k) (sq_of hf5) (by omega) (by omega))) rv_add) (by rw [hj i hi1, hj _ hiw])) (ev_var rfl) (ev_var rfl) (by rw [List.length_map]; omega) fun H6 e6 => ?_
        have hf6 : (upd H6 l (.lst ((M.map V.int).set i (.int (fast k f i + fast k f (i + 2 ^ k)))))) fp = some (.lst (L.map V.int)) := by
          rw [upd_ne hlf]
          exact e6 fp _ hf5
        refine s_setL (j := i + 2 ^ k) (v := .int (fast k f i - fast k f (i + 2 ^ k))) upd_same (ev_is (ev_op (ev_op (ev_var rfl) (ev_var rfl) (rv_ixN (sq_of hf6) rfl (by omega))) (ev_op (ev_var rfl) (ev_op (ev_var rfl) (ev_var rfl) rv_add) (rv_ixN (k := i + 2 ^ k) (sq_of hf6) (by omega) (by omega))) rv_sub) (by rw [hj i hi1, hj _ hiw])) (ev_var rfl) (ev_is (ev_op (ev_var rfl) (ev_var rfl) rv_add) (by rw [Int.natCast_add])) (by rw [List.length_set, List.length_map]; omega) fun H7 e7 => ?_
        refine ⟨⟨some (.int i), rfl⟩, Ex.mut ((Ex.mut ((ex'.trans e5).trans e6) hlH).trans e7) hlH, ?_, (M.set i (fast k f i + fast k f (i + 2 ^ k))).set (i + 2 ^ k) (fast k f i - fast k f (i + 2 ^ k)), ?_, by rw [List.length_set, List.length_set, hMl], fun j hj' => ?_⟩
        · rw [upd_ne hlf]
          exact e7 fp _ hf6
        · rw [upd_same, List.map_set, List.map_set]
        · rw [getD_set (by rw [List.length_set]; omega), getD_set (by omega)]
          exact half_step hs hks hi1 hMj he j hj'
      · have he := of_decide_eq_false hb2
        exact ⟨⟨some (.int i), rfl⟩, ex'.trans e5, e5 fp _ hf', M, e5 l _ hM, hMl, fun j hj' => by rw [hMj j hj', half_skip hks he]⟩
    · obtain ⟨⟨y', rfl⟩, ex', hf', M, hM, hMl, hMj⟩ := hp
      refine q_asg (ev_var rfl) fun H5 e5 => ?_
      refine s_asg (ev_op ev_c (ev_var rfl) (rv_mul (a := 2) (b := 10) (by decide) (by omega) (by decide) (by decide) (by decide))) fun H6 e6 => ?_
      refine ⟨l, M, some (.ref l), y', ?_, hlH, (ex'.trans e5).trans e6, e6 l _ (e5 l _ hM), hMl, fun j hj' => ?_⟩
      · have e : (2 : Int) * ((2 ^ k : Nat) : Int) = ((2 ^ (k + 1) : Nat) : Int) := by
          rw [Nat.pow_succ]
          omega
        rw [e]
        rfl
      · rw [hMj j hj', Int.toNat_natCast, half_all j hj']
        rfl
  · have hge : ¬ 2 ^ k < 2 ^ s := by have := of_decide_eq_false hb; omega
    have hks : k = s := by
      refine Nat.le_antisymm hk (Nat.le_of_not_lt fun q => hge ?_)
      exact Nat.pow_lt_pow_right (by decide) q
    subst hks
    refine s_ret (ev_var rfl) fun H4 e4 => q fp H4 hfp ((ex.trans e3).trans e4) (e4 fp _ (e3 fp _ ?_))
    have eL : L = sumsL ns := by
      unfold sumsL
      rw [hn]
      refine ints_ext hL fun c hc => ?_
      rw [hj c hc]
      unfold sumAt
      rw [hn]
      refine fast_eq hs (fun j hj2 => ?_) hc
      show ns.getD j 0 = 0
      rw [List.getD_eq_getElem?_getD, List.getElem?_eq_none (by omega)] <;> rfl
    rw [← eL]
    exact hH
end Sg
namespace Sg
open PySem PySem.Spec PyProof.Rows L2 Evl
theorem el_catS {σ : L2.St} {H : Hp} {ta tb : TE} {l : Addr} {xs zs : List V} (ha : Ev ta σ H (.ref l)) (hl : H l = some (.lst xs)) (hb : EvL tb σ H zs) (hz : xs.length + zs.length ≤ 100000) : EvL (tOp rCat ta tb) σ H (xs ++ zs) := fun H0 e0 Q q =>
  ha H0 e0 _ fun H1 e1 => hb H1 (e0.trans e1) _ fun p H2 np e2 hp => ⟨l, p, xs, zs, rfl, rfl, (e0.trans (e1.trans e2)) l _ hl, hp, sz_of hz, fun r hr => q r _ (fresh_back (e1.trans e2) hr) ((e1.trans e2).trans (Ex.new hr)) upd_same⟩
theorem row_abs {ns : List Int} (h : IsRow ns) : ∀ x ∈ ns, x.natAbs < 2 ^ 67 := fun x hx => by
  have := h.2 x hx
  omega
theorem pure_tied {K : PySem.W.Frag} (vs : List V) (H : Hp) (Q : VK) (E : XK) (h : sp_tied K vs H Q E) : t_tied K E { nx := fun _ H' => Q .non H', rt := Q } (start N_tied vs) H := by
  obtain ⟨a, b, ns, ms, rfl, hS, hT, q1, q2, q3⟩ := h
  refine ⟨_, rfl, a, ns, rfl, hS, fun r1 H1 e1 => ?_, fun n H1 e1 => q3 (fun z => n z.1) H1 e1⟩
  have hS1 := ex_l e1 hS
  have hT1 := ex_l e1 hT
  refine ⟨_, rfl, b, ms, rfl, hT1, fun r2 H2 e2 => ?_, fun n H2 e2 => q3 (fun z => n z.2) H2 (e1.trans e2)⟩
  have hS2 := ex_l e2 hS1
  have hT2 := ex_l e2 hT1
  have p1 := row_pos r1
  have p2 := row_pos r2
  dsimp only
  refine q_when (b := decide ((32 : Int) < (ns.length : Int) * (ms.length : Int))) (et_test (ev_op (ev_op (ev_lenS (evs_var rfl hS2)) (ev_lenS (evs_var rfl hT2)) (rv_mul (a := 6) (b := 6) (by omega) (by omega) (by decide) (by decide) (by decide))) ev_c rv_gt)) (fun hb H3 e3 => ?_) (fun hb H3 e3 => ?_)
  · have hb := of_decide_eq_true hb
    exact q2 r1 r2 (fun z => by
      have : ((ns.length * ms.length : Nat) : Int) = (ns.length : Int) * (ms.length : Int) := Int.natCast_mul _ _
      omega) H3 ((e1.trans e2).trans e3)
  · have hb := of_decide_eq_false hb
    have hle : ns.length * ms.length ≤ 32 := by
      have : ((ns.length * ms.length : Nat) : Int) = (ns.length : Int) * (ms.length : Int) := Int.natCast_mul _ _
      omega
    have hS3 := ex_l e3 hS2
    have hT3 := ex_l e3 hT2
    refine q_asgL (el_lst ea_nil (by decide)) fun o H4 no e4 h4 => ?_
    refine q_forLn (xs := ms.map V.int) (ev_var rfl) (ex_l e4 hT3) (fun i σ H' => ∃ (p : Addr) (y : Option V), σ = [some (.ref a), some (.ref b), some (.ref p), y, none] ∧ Ex H3 H' ∧ H3 p = none ∧ H' p = some (.lst ((tieN ns ms i).map V.int)))
      (fun H5 e5 => ⟨o, none, rfl, e4.trans e5, no, by rw [tieN_zero]; exact e5 o _ h4⟩) (fun i σ H' _ hp => by
        obtain ⟨p, y, rfl, ex, np, hH⟩ := hp
        exact ex_l ex hT3) (fun i x σ H' hx hp => ?_) (fun σ H' hp => ?_)
    · obtain ⟨p, y, rfl, ex, np, hH⟩ := hp
      obtain ⟨d, hd, rfl⟩ := int_of_map hx
      have hi : i < ms.length := (List.getElem?_eq_some_iff.mp hd).1
      have ed : ms.getD i 0 = d := by rw [List.getD_eq_getElem?_getD, hd] <;> rfl
      have hil : i * ns.length ≤ 32 * 32 := Nat.mul_le_mul (by omega) (by omega)
      refine s_asgL (xs := (tieN ns ms (i + 1)).map V.int) (by
        rw [tieN_succ, List.map_append, List.map_map]
        refine el_catS (ev_var rfl) hH (el_mapS (fun x => .int (x * ms.getD i 0)) (evs_var rfl (ex_l ex hS3)) (by omega) (fun _ => rfl) fun n hn H5 e5 => ?_) ?_
        · rw [ed]
          exact ev_op (ev_var rfl) (ev_var rfl) (rv_mul (row_abs r1 n hn) (row_abs r2 d (List.mem_of_getElem? hd)) (by decide) (by decide) (by decide))
        · unfold tieN
          rw [List.length_map, List.length_map, List.length_range, List.length_map]
          omega) fun p2 H5 np2 e5 h5 => ?_
      exact ⟨p2, some (.int d), rfl, ex.trans e5, fresh_back ex np2, h5⟩
    · obtain ⟨p, y, rfl, ex, np, hH⟩ := hp
      rw [List.length_map] at hH
      exact s_ret (ev_var rfl) fun H6 e6 => q1 r1 r2 hle p H6 (fresh_back ((e1.trans e2).trans e3) np) (((e1.trans e2).trans e3).trans (ex.trans e6)) (e6 p _ hH)
end Sg
namespace Sg
open PySem PySem.Spec PyProof.Rows L2 Evl
theorem pure_ask_steps {K : PySem.W.Frag} (vs : List V) (H : Hp) (Q : VK) (E : XK) (h : sp_ask_steps K vs H Q E) : t_ask_steps K E { nx := fun _ H' => Q .non H', rt := Q } (start N_ask_steps vs) H := by
  obtain ⟨s, rfl, q1, q2⟩ := h
  refine s_when (b := !decide (0 ≤ s ∧ s ≤ 5)) (et_is (et_not (et_test (ev_chain ev_c (ev_var rfl) rv_le ev_c rv_le))) (by rw [Bool.decide_and])) (fun hb H1 e1 => ?_) (fun hb H1 e1 => ?_)
  · exact q2 (not_t hb) H1 e1
  · exact q1 (not_f hb) H1 e1
end Sg
namespace Sg
open PySem PySem.Spec PyProof.Rows L2 Evl
theorem pure_are_signs {K : PySem.W.Frag} (vs : List V) (H : Hp) (Q : VK) (E : XK) (h : sp_are_signs K vs H Q E) : t_are_signs K { nx := fun _ H' => Q .non H', rt := Q } (start N_are_signs vs) H := by
  obtain ⟨a, ns, rfl, hS, hl, q⟩ := h
  have e : ((ns.map fun x => decide (x = 1 ∨ x = -1)).all id) = decide (Signs ns) := by
    rw [List.all_map]
    by_cases h : Signs ns
    · rw [decide_eq_true h, List.all_eq_true]
      exact fun x hx => decide_eq_true (h x hx)
    · rw [decide_eq_false h, List.all_eq_false]
      unfold Signs at h
      simp only [Classical.not_forall] at h
      obtain ⟨x, hx, hn⟩ := h
      exact ⟨x, hx, by simpa using hn⟩
  rw [← e] at q
  refine s_ret (ev_allL ?_) fun H1 e1 => q H1 e1
  rw [List.map_map]
  exact el_mapS (fun x => .bl (decide (x = 1 ∨ x = -1))) (evs_var rfl hS) (by omega) (fun _ => rfl) fun n _ H1 e1 => ev_sign1 (ev_var rfl)
end Sg
namespace Sg
open PySem PySem.Spec PyProof.Rows L2 Evl
theorem pure_ask_signs {K : PySem.W.Frag} (vs : List V) (H : Hp) (Q : VK) (E : XK) (h : sp_ask_signs K vs H Q E) : t_ask_signs K E { nx := fun _ H' => Q .non H', rt := Q } (start N_ask_signs vs) H := by
  obtain ⟨a, ns, rfl, hS, hl, q1, q2⟩ := h
  refine s_when (b := !decide (Signs ns)) (et_not (et_B (ev_callS (evs_var rfl hS) fun p H1 _ hp Q2 E2 r2 => ⟨p, ns, rfl, hp, hl, r2⟩))) (fun hb H1 e1 => ?_) (fun hb H1 e1 => ?_)
  · exact q2 (not_t hb) H1 e1
  · exact q1 (not_f hb) H1 e1
end Sg
namespace Sg
open PySem PySem.Spec PyProof.Rows L2 Evl
theorem pure_nearest {K : PySem.W.Frag} (vs : List V) (H : Hp) (Q : VK) (E : XK) (h : sp_nearest K vs H Q E) : t_nearest K E { nx := fun _ H' => Q .non H', rt := Q } (start N_nearest vs) H := by
  obtain ⟨a, ns, rfl, hS, q1, q2, q3⟩ := h
  refine ⟨_, rfl, a, ns, rfl, hS, fun r H1 e1 => ?_, fun n H1 e1 => q3 n H1 e1⟩
  have hp := row_pos r
  refine ⟨_, rfl, a, ns, rfl, ex_l e1 hS, by omega, fun sg1 H2 e2 => ?_, fun n H2 e2 => q2 r n H2 (e1.trans e2)⟩
  have hS2 := ex_l (e1.trans e2) hS
  refine q_asgL (xs := (sumsL ns).map V.int) (el_callS (evs_var rfl hS2) fun p H3 _ hp3 Q3 E3 r3 => ⟨p, ns, rfl, hp3, r.1, r3⟩) fun fp H3 hf3 e3 h3 => ?_
  refine q_asg ev_c fun H4 e4 => ?_
  have hH0 : H fp = none := fresh_back (e1.trans e2) hf3
  have e14 := ((e1.trans e2).trans e3).trans e4
  have hS4 := ex_l e4 (ex_l e3 hS2)
  have hF4 : SqL K H4 fp ((sumsL ns).map V.int) := sq_of (e4 fp _ h3)
  refine q_forR1 (n := (ns.length : Int)) (ea_cons (ev_lenS (evs_var rfl hS4)) ea_nil) ⟨by omega, by omega⟩
    (fun i σ H' => (∃ v x3 x4 x5 x6, σ = [some (.ref a), some (.ref fp), some v, x3, x4, x5, x6] ∧ BestV (candV ns) H' (bestJ (farJ ns) (2 * i)) v ∧ (∀ p, v = .ref p → H p = none)) ∧ Ex H4 H')
    (fun H5 e5 => ⟨⟨.non, none, none, none, none, rfl, rfl, fun p z => by cases z⟩, e5⟩) (fun i σ H' hi hpv => ?_) (fun σ H' hpv => ?_)
  · obtain ⟨⟨v, x3, x4, x5, x6, rfl, hb, hv⟩, ex⟩ := hpv
    have hi1 : i < ns.length := by omega
    refine s_forNU (K := K) (xs := [.bl false, .bl true]) (eu_tup (ea_cons ev_c (ea_cons ev_c ea_nil)) (by show 2 ≤ 100000; decide))
      (fun tp k σ H' => (∃ v x4 x5 x6, σ = [some (.ref a), some (.ref fp), some v, some (.int i), x4, x5, x6] ∧ BestV (candV ns) H' (bestJ (farJ ns) (2 * i + k)) v ∧ (∀ p, v = .ref p → H p = none)) ∧ Ex H4 H' ∧ H' tp = some (.tup [.bl false, .bl true]))
      (fun tp H5 _ e5 h5 => ⟨⟨v, x4, x5, x6, rfl, hb.mono e5, hv⟩, ex.trans e5, h5⟩) (fun tp k σ H' _ hpv => st_of hpv.2.2) (fun tp k x σ H' hx hpv => ?_) (fun tp σ H' hpv => ?_)
    · obtain ⟨⟨v, x4, x5, x6, rfl, hb, hv⟩, ex, htp⟩ := hpv
      obtain ⟨t, rfl, hk, ht⟩ : ∃ t : Bool, x = .bl t ∧ k < 2 ∧ t = decide (k = 1) := by
        match k, hx with
        | 0, hx => cases hx; exact ⟨false, rfl, by decide, rfl⟩
        | 1, hx => cases hx; exact ⟨true, rfl, by decide, rfl⟩
        | n + 2, hx => cases hx
      obtain ⟨j, hj⟩ : ∃ j, j = 2 * i + k := ⟨_, rfl⟩
      rw [← hj] at hb
      have hj2 : j / 2 = i ∧ j % 2 = k := by omega
      have hfac : facJ j = if t then -1 else 1 := by
        unfold facJ
        rw [hj2.2, ht]
        by_cases h1 : k = 1
        · rw [if_pos h1, decide_eq_true h1] <;> rfl
        · rw [if_neg h1, decide_eq_false h1] <;> rfl
      have hfar := far_eq sg1 i (facJ_pm j)
      have hfj : apartN ns i (facJ j) = farJ ns j := by
        unfold farJ
        rw [hj2.1]
      rw [hfj] at hfar
      have hSx := ex_l ex hS4
      have hFx := ex_l ex hF4
      refine q_asg (v := .int (sumAt ns i)) (ev_is (evs_ix (evs_var rfl hFx) (ev_var rfl) rfl (by rw [sumsL_length]; exact hi1)) (by rw [getD_sumsL hi1])) fun H5 e5 => ?_
      refine q_ifAsg (b := t) (v := .int (facJ j * sumAt ns i)) (et_B (ev_var rfl)) (fun hb2 => ?_) (fun hb2 => ?_) fun H6 e6 => ?_
      · refine ev_is (ev_op ev_c (ev_var rfl) rv_sub) ?_
        rw [hfac, hb2, Int.zero_sub]
        show V.int _ = V.int (-1 * _)
        rw [Int.neg_mul, Int.one_mul]
      · rw [hfac, hb2, if_neg Bool.false_ne_true, Int.one_mul]
        rfl
      refine q_asg (v := .int (farJ ns j : Nat)) (ev_is (ev_op (ev_op (ev_lenS (evs_var rfl (ex_l (e5.trans e6) hSx))) (ev_var rfl) rv_sub) ev_c (rv_div (by decide) (by decide))) (by rw [hfar])) fun H7 e7 => ?_
      have e57 := (e5.trans e6).trans e7
      have hn := bestJ_next (farJ ns) j
      have hjk : 2 * i + (k + 1) = j + 1 := by omega
      refine s_when (et_best (K := K) (f := farJ ns) (d := candV ns) (hb.mono e57) (ev_var rfl) (ev_var rfl) fun b => rfl) (fun hb2 H8 e8 => ?_) (fun hb2 H8 e8 => ?_)
      · refine s_asgU (xs := candV ns j) (by
          unfold candV
          rw [hj2.1, hj2.2, ← ht]
          exact eu_tup (ea_cons (ev_var rfl) (ea_cons (ev_var rfl) (ea_cons (ev_var rfl) ea_nil))) (by show 3 ≤ 100000; decide)) fun p H9 hp9 e9 h9 => ?_
        rw [if_pos hb2] at hn
        refine ⟨⟨.ref p, some (.bl t), some (.int (facJ j * sumAt ns i)), some (.int (farJ ns j : Nat)), rfl, ?_, fun p' z => ?_⟩, ((ex.trans e57).trans e8).trans e9, e9 tp _ (e8 tp _ (e57 tp _ htp))⟩
        · rw [hjk, hn]
          exact ⟨p, rfl, h9⟩
        · cases z
          exact fresh_back (((e14.trans ex).trans e57).trans e8) hp9
      · rw [if_neg (by rw [hb2]; exact Bool.false_ne_true)] at hn
        refine ⟨⟨v, some (.bl t), some (.int (facJ j * sumAt ns i)), some (.int (farJ ns j : Nat)), rfl, ?_, hv⟩, (ex.trans e57).trans e8, e8 tp _ (e57 tp _ htp)⟩
        rw [hjk, hn]
        exact hb.mono (e57.trans e8)
    · obtain ⟨⟨v, x4, x5, x6, rfl, hb, hv⟩, ex, htp⟩ := hpv
      have e2i : 2 * i + [V.bl false, V.bl true].length = 2 * (i + 1) := by show 2 * i + 2 = _; omega
      rw [e2i] at hb
      exact ⟨⟨v, some (.int i), x4, x5, x6, rfl, hb, hv⟩, ex⟩
  · obtain ⟨⟨v, x3, x4, x5, x6, rfl, hb, hv⟩, ex⟩ := hpv
    rw [Int.toNat_natCast, (nearJ_some hp.1).1] at hb
    obtain ⟨p, rfl, hpt⟩ := hb
    exact s_ret (ev_var rfl) fun H5 e5 => q1 r sg1 p H5 (hv p rfl) ((e14.trans ex).trans e5) (e5 p _ hpt)
end Sg
namespace Sg
open PySem PySem.Spec PyProof.Rows L2 Evl
theorem pure_is_flat {K : PySem.W.Frag} (vs : List V) (H : Hp) (Q : VK) (E : XK) (h : sp_is_flat K vs H Q E) : t_is_flat K E { nx := fun _ H' => Q .non H', rt := Q } (start N_is_flat vs) H := by
  obtain ⟨a, ns, rfl, hS, q1, q2, q3⟩ := h
  refine ⟨_, rfl, a, ns, rfl, hS, fun r H1 e1 => ?_, fun n H1 e1 => q3 n H1 e1⟩
  have hS1 := ex_l e1 hS
  have hp := row_pos r
  refine ⟨_, rfl, a, ns, rfl, hS1, by omega, fun sg H2 e2 => ?_, fun n H2 e2 => q2 r n H2 (e1.trans e2)⟩
  have hS2 := ex_l e2 hS1
  dsimp only
  have el : EvL (tLc (iList K (tCall (sp_summed K) [] E0 (tCons (tVar 0) tNil))) (gName 1) tYes (tCB rAbs (tCons (tVar 1) tNil)) [1]) [some (.ref a), none] H2 ((absL (sumsL ns)).map V.int) := by
    unfold absL
    rw [List.map_map]
    exact el_mapS (fun i => .int (if i < 0 then -i else i)) (evs_new (el_callS (evs_var rfl hS2) fun p H3 _ hp3 Q3 E3 r3 => ⟨p, ns, rfl, hp3, r.1, r3⟩)) (by rw [sumsL_length]; omega) (fun _ => rfl) fun n _ H3 e3 H4 e4 Q4 q4 => ⟨_, rfl, n, rfl, q4 H4 (Ex.refl H4)⟩
  have ev : Ev (tLenSet K (tLc (iList K (tCall (sp_summed K) [] E0 (tCons (tVar 0) tNil))) (gName 1) tYes (tCB rAbs (tCons (tVar 1) tNil)) [1])) [some (.ref a), none] H2 (.int ((onceL (absL (sumsL ns))).length : Nat)) := fun H3 e3 Q3 q3 =>
    el H3 e3 _ fun p H4 _ e4 h4 => ⟨p, _, rfl, sq_of h4, by unfold absL; rw [List.length_map, sumsL_length]; omega, q3 H4 e4⟩
  exact s_ret (v := .bl (flatD ns)) (ev_is (ev_op ev ev_c rv_eqI) (congrArg V.bl (once_flat hp.1))) fun H3 e3 => q1 r sg H3 ((e1.trans e2).trans e3)
end Sg
namespace Sg
open PySem PySem.Spec PyProof.Rows L2 Evl
theorem pure_flat {K : PySem.W.Frag} (hT : ∀ H : Hp, SqT K H (He.ga K "FLAT_FOUR") [.int 1, .int 1, .int 1, .int (-1)]) (vs : List V) (H : Hp) (Q : VK) (E : XK) (h : sp_flat K vs H Q E) : t_flat K E { nx := fun _ H' => Q .non H', rt := Q } (start N_flat vs) H := by
  obtain ⟨s, rfl, q1, q2, q3⟩ := h
  refine ⟨_, rfl, s, rfl, fun hs H1 e1 => ?_, fun n H1 e1 => q3 n H1 e1⟩
  dsimp only
  refine q_when (b := decide (s % 2 = 1)) (et_test (ev_op (ev_op (ev_var rfl) ev_c (rv_mod (by decide))) ev_c rv_eqI)) (fun hb H2 e2 => ?_) (fun hb H2 e2 => ?_)
  · have hb := of_decide_eq_true hb
    exact q2 hs (by omega) H2 (e1.trans e2)
  · have hb := of_decide_eq_false hb
    have hm : s % 2 = 0 := by omega
    refine q_asgL (xs := ([1] : List Int).map V.int) (el_lst (ea_cons ev_c ea_nil) (by decide)) fun o H3 no e3 h3 => ?_
    refine q_forR1 (n := s / 2) (ea_cons (ev_op (ev_var rfl) ev_c (rv_div (by decide) (by decide))) ea_nil) ⟨by omega, by omega⟩
      (fun i σ H' => (∃ (p : Addr) (y : Option V), σ = [some (.int s), some (.ref p), y] ∧ H p = none ∧ H' p = some (.lst ((flatL i).map V.int))) ∧ Ex H H')
      (fun H4 e4 => ⟨⟨o, none, rfl, fresh_back (e1.trans e2) no, e4 o _ h3⟩, ((e1.trans e2).trans e3).trans e4⟩) (fun i σ H' hi hp => ?_) (fun σ H' hp => ?_)
    · obtain ⟨⟨p, y, rfl, np, hH⟩, ex⟩ := hp
      have hi2 : i < 2 := by omega
      have hl : (flatL i).length ≤ 4 ∧ (flatL i).length ∈ [1, 2, 4, 8, 16, 32] := by
        rw [flatL_len]
        have : i = 0 ∨ i = 1 := by omega
        rcases this with rfl | rfl <;> decide
      refine s_asgL (xs := (flatL (i + 1)).map V.int) (fun H4 e4 Q4 q4 => ?_) fun p2 H4 np2 e4 h4 => ⟨⟨p2, some (.int i), rfl, fresh_back ex np2, h4⟩, ex.trans e4⟩
      refine el_callSS (ns := flatL i) (ms := [1, 1, 1, -1]) (evs_var rfl (sq_of hH)) (fun H5 e5 Q5 q5 => ?_) (fun pa pb H5 _ ha hb Q5 E5 r5 => ⟨pa, pb, _, _, rfl, ha, hb, fun _ _ _ => r5, fun _ _ n => absurd (by show (flatL i).length * 4 ≤ 32; omega) n, fun n => absurd ⟨signs_isRow hl.2 (flatL_signs i), signs_isRow (by decide) (by decide)⟩ n⟩) H4 e4 Q4 q4
      exact ⟨_, _, rfl, .inr (hT H5), fun l nl => q5 l _ (Ex.new nl) (sq_of upd_same)⟩
    · obtain ⟨⟨p, y, rfl, np, hH⟩, ex⟩ := hp
      exact s_ret (ev_var rfl) fun H4 e4 => q1 hs hm p H4 np (ex.trans e4) (e4 p _ hH)
end Sg
namespace Sg
open PySem PySem.Spec PyProof.Rows L2 Evl
/-! ### the readings of the law's helpers -/
theorem pure_law_cell_at {K : PySem.W.Frag} (vs : List V) (H : Hp) (Q : VK) (E : XK) (h : sp_law_cell_at K vs H Q E) : t_law_cell_at K { nx := fun _ H' => Q .non H', rt := Q } (start N__law_cell_at vs) H := by
  obtain ⟨a, ns, k, rfl, hS, q⟩ := h
  refine q_when (b := decide ((k : Int) < ns.length)) (et_test (ev_op (ev_var rfl) (ev_lenM (ev_var rfl) hS) rv_lt)) (fun hb H1 e1 => ?_) (fun hb H1 e1 => ?_)
  · have hk : k < ns.length := by have := of_decide_eq_true hb; omega
    exact s_ret (ev_op (ev_var rfl) (ev_var rfl) (rv_ixN (ex_l e1 hS) rfl hk)) fun H2 e2 => q H2 (e1.trans e2)
  · have hk : ¬ k < ns.length := by have := of_decide_eq_false hb; omega
    have e0 : cellAt ns k = 0 := by
      unfold cellAt
      rw [List.getD_eq_getElem?_getD, List.getElem?_eq_none (by omega)] <;> rfl
    rw [e0] at q
    exact s_ret ev_c fun H2 e2 => q H2 (e1.trans e2)
end Sg
namespace Sg
open PySem PySem.Spec PyProof.Rows L2 Evl
theorem pure_law_whole {K : PySem.W.Frag} (vs : List V) (H : Hp) (Q : VK) (E : XK) (h : sp_law_whole K vs H Q E) : t_law_whole K { nx := fun _ H' => Q .non H', rt := Q } (start N__law_whole vs) H := by
  obtain ⟨i, rfl, q⟩ := h
  exact s_ret (ev_andV (a := true) (b := true) (ev_isint (ev_var rfl)) fun _ => ev_notV (a := false) (ev_isbool (ev_var rfl))) fun H2 e2 => q H2 e2
end Sg
namespace Sg
open PySem PySem.Spec PyProof.Rows L2 Evl
theorem pure_law_next {K : PySem.W.Frag} (vs : List V) (H : Hp) (Q : VK) (E : XK) (h : sp_law_next K vs H Q E) : t_law_next K { nx := fun _ H' => Q .non H', rt := Q } (start N__law_next vs) H := by
  obtain ⟨i, rfl, q⟩ := h
  refine q_asg (ev_op (ev_op (ev_var rfl) ev_c rv_add) ev_c (rv_mod (by decide))) fun H1 e1 => ?_
  have b1 : ((i + 7919) % 2147483647).natAbs < 2 ^ 40 := by omega
  refine s_ret (ev_op (ev_op (ev_op (ev_op (ev_var rfl) (ev_var rfl) (rv_mul b1 b1 (by decide) (by decide) (by decide))) (ev_op ev_c (ev_var rfl) (rv_mul (a := 20) (by decide) b1 (by decide) (by decide) (by decide))) rv_add) ev_c rv_add) ev_c (rv_mod (by decide))) fun H2 e2 => ?_
  exact q H2 (e1.trans e2)
end Sg
namespace Sg
open PySem PySem.Spec PyProof.Rows L2 Evl
theorem pure_law_row {K : PySem.W.Frag} (vs : List V) (H : Hp) (Q : VK) (E : XK) (h : sp_law_row K vs H Q E) : t_law_row K { nx := fun _ H' => Q .non H', rt := Q } (start N__law_row vs) H := by
  obtain ⟨c, s, w, g, rfl, hs, hg, hg2, q⟩ := h
  have h32 : 2 ^ s ≤ 32 := by
    rcases pow_cases hs with rfl | rfl | rfl | rfl | rfl | rfl <;> decide
  have ha := at_six hs
  generalize 2 ^ s = n at ha h32 q
  refine q_asgL (el_lst ea_nil (by decide)) fun o H1 ho e1 h1 => ?_
  refine q_forR1 (n := (n : Int)) (ea_cons (ev_tab el_six (ev_var rfl) ha) ea_nil) ⟨by omega, by omega⟩
    (fun i σ H' => (∃ y z, σ = [some (.int (lawCell c i)), some (.int s), some (.int w), some (.int g), some (.ref o), y, z]) ∧ Ex H H' ∧ H' o = some (.lst (((lawRow c n w g).take i).map V.int)))
    (fun H2 e2 => ⟨⟨none, none, rfl⟩, e1.trans e2, e2 o _ h1⟩) (fun i σ H' hi hp => ?_) (fun σ H' hp => ?_)
  · obtain ⟨⟨y, z, rfl⟩, ex, hH⟩ := hp
    have hi1 : i < n := by omega
    have hbd := lawCell_bd c i
    refine q_asg (v := .int (lawCell c (i + 1))) (ev_call1 (ev_op (ev_op (ev_var rfl) ev_c (rv_mod (by decide))) (ev_op ev_c (ev_var rfl) (rv_mul (a := 5) (b := 6) (by decide) (by omega) (by decide) (by decide) (by decide))) rv_add) (spv fun H3 _ Q3 E3 q3 => ⟨_, rfl, q3⟩)) fun H2 e2 => ?_
    generalize hc : lawCell c (i + 1) = cell at hbd ⊢
    refine q_asg (v := .int (cell / 7 % 2000001 - 1000000)) (ev_op (ev_op (ev_op (ev_var rfl) ev_c (rv_div (by decide) (by decide))) ev_c (rv_mod (by decide))) ev_c rv_sub) fun H3 e3 => ?_
    have bn : (cell / 7 % 2000001 - 1000000).natAbs < 2 ^ 21 := by omega
    have bg : g.natAbs < 2 ^ 60 := by omega
    have b64 : (cell / 64 % g).natAbs < 2 ^ 60 := by
      have z1 := Int.emod_nonneg (cell / 64) (show g ≠ 0 by omega)
      have z2 := Int.emod_lt_of_pos (cell / 64) hg
      generalize cell / 64 % g = z at z1 z2
      omega
    refine q_ifAsg (b := decide (w / 4 % 2 = 1)) (v := .int (num1 cell w g)) (et_test (ev_op (ev_op (ev_op (ev_var rfl) ev_c (rv_div (by decide) (by decide))) ev_c (rv_mod (by decide))) ev_c rv_eqI)) (fun hb => ?_) (fun hb => ?_) fun H4 e4 => ?_
    · refine ev_is (ev_op (ev_op (ev_var rfl) (ev_var rfl) (rv_mul bn bg (by decide) (by decide) (by decide))) (ev_op (ev_op ev_c (ev_op ev_c (ev_int1b (ev_op (ev_var rfl) ev_c rv_lt)) (rv_mul (a := 2) (b := 2) (by decide) (by split <;> decide) (by decide) (by decide) (by decide))) rv_sub) (ev_op (ev_op (ev_var rfl) ev_c (rv_div (by decide) (by decide))) (ev_var rfl) (rv_mod hg)) (rv_mul (a := 2) (by split <;> decide) b64 (by decide) (by decide) (by decide))) rv_add) ?_
      unfold num1
      rw [if_pos (of_decide_eq_true hb)]
      simp only [decide_eq_true_eq]
    · unfold num1
      rw [if_neg (of_decide_eq_false hb)]
      rfl
    generalize hn1 : num1 cell w g = n1
    refine q_ifAsg (b := decide (w % 4 = 0)) (v := .int (num2 cell w n1)) (et_test (ev_op (ev_op (ev_var rfl) ev_c (rv_mod (by decide))) ev_c rv_eqI)) (fun hb => ?_) (fun hb => ?_) fun H5 e5 => ?_
    · refine ev_is (ev_op ev_c (ev_op ev_c (ev_op (ev_op (ev_var rfl) ev_c (rv_div (by decide) (by decide))) ev_c (rv_mod (by decide))) (rv_mul (a := 2) (b := 2) (by decide) (by omega) (by decide) (by decide) (by decide))) rv_sub) ?_
      unfold num2
      rw [if_pos (of_decide_eq_true hb)]
    · unfold num2
      rw [if_neg (of_decide_eq_false hb)]
      rfl
    generalize hn2 : num2 cell w n1 = n2
    refine q_ifAsg (b := decide (w % 4 = 1)) (v := .int (num3 cell w n2)) (et_test (ev_op (ev_op (ev_var rfl) ev_c (rv_mod (by decide))) ev_c rv_eqI)) (fun hb => ?_) (fun hb => ?_) fun H6 e6 => ?_
    · refine ev_is (ev_op (ev_op (ev_op (ev_var rfl) ev_c (rv_div (by decide) (by decide))) ev_c (rv_mod (by decide))) ev_c rv_sub) ?_
      unfold num3
      rw [if_pos (of_decide_eq_true hb)]
    · unfold num3
      rw [if_neg (of_decide_eq_false hb)]
      rfl
    generalize hn3 : num3 cell w n2 = n3
    refine q_ifAsg (b := decide (w % 4 = 3) && decide (0 < cell / 14000007 % 3)) (v := .int (num4 cell w n3)) (et_and (et_test (ev_op (ev_op (ev_var rfl) ev_c (rv_mod (by decide))) ev_c rv_eqI)) (fun _ => et_test (ev_op (ev_op (ev_op (ev_var rfl) ev_c (rv_div (by decide) (by decide))) ev_c (rv_mod (by decide))) ev_c rv_gt))) (fun hb => ?_) (fun hb => ?_) fun H7 e7 => ?_
    · refine ev_is ev_c ?_
      unfold num4
      rw [if_pos (by simpa using hb)]
    · unfold num4
      rw [if_neg (by simpa using hb)]
      rfl
    generalize hn4 : num4 cell w n3 = n4
    have eH : H7 o = some (.lst (((lawRow c n w g).take i).map V.int)) := e7 o _ (e6 o _ (e5 o _ (e4 o _ (e3 o _ (e2 o _ hH)))))
    refine s_app eH (ev_var rfl) (ev_var (v := .int n4) rfl) (by rw [List.length_map, List.length_take]; omega) fun H8 e8 => ?_
    refine ⟨⟨some (.int i), some (.int n4), ?_⟩, Ex.mut ((((((((ex.trans e2).trans e3).trans e4).trans e5).trans e6).trans e7)).trans e8) ho, ?_⟩
    · rfl
    · rw [upd_same]
      have en : lawNum (lawCell c (i + 1)) w g = n4 := by
        unfold lawNum
        rw [hc, hn1, hn2, hn3, hn4]
      unfold lawRow
      rw [range_take _ hi1, en]
  · obtain ⟨⟨y, z, rfl⟩, ex, hH⟩ := hp
    refine s_ret (ev_var rfl) fun H2 e2 => q o H2 ho (ex.trans e2) (e2 o _ ?_)
    rw [hH, Int.toNat_natCast]
    unfold lawRow
    rw [range_take_all]
end Sg
namespace Sg
open PySem PySem.Spec PyProof.Rows L2 Evl
theorem pure_law_sign {K : PySem.W.Frag} (vs : List V) (H : Hp) (Q : VK) (E : XK) (h : sp_law_sign K vs H Q E) : t_law_sign K { nx := fun _ H' => Q .non H', rt := Q } (start N__law_sign vs) H := by
  obtain ⟨p, c, rfl, q⟩ := h
  refine q_asg ev_c fun H1 e1 => ?_
  refine q_forNLn (xs := [.int 1, .int 2, .int 4, .int 8, .int 16]) (el_lst (ea_cons ev_c (ea_cons ev_c (ea_cons ev_c (ea_cons ev_c (ea_cons ev_c ea_nil))))) (by decide))
    (fun b i σ H' => (∃ y, σ = [some (.int p), some (.int c), some (.int ((([1, 2, 4, 8, 16] : List Int).take i).foldl (sgStep p c) 1)), y]) ∧ Ex H H' ∧ H' b = some (.lst [.int 1, .int 2, .int 4, .int 8, .int 16]))
    (fun b H2 _ e2 hb => ⟨⟨none, rfl⟩, e1.trans e2, hb⟩) (fun b i σ H' _ hp => sq_of hp.2.2) (fun b i x σ H' hx hp => ?_) (fun b σ H' hp => ?_)
  · obtain ⟨⟨y, rfl⟩, ex, hb⟩ := hp
    obtain ⟨w, hw, rfl, h0, h1⟩ : ∃ w : Int, ([1, 2, 4, 8, 16] : List Int)[i]? = some w ∧ x = .int w ∧ 0 < w ∧ w < 1073741824 := by
      match i, hx with
      | 0, hx => cases hx; exact ⟨1, rfl, rfl, by decide, by decide⟩
      | 1, hx => cases hx; exact ⟨2, rfl, rfl, by decide, by decide⟩
      | 2, hx => cases hx; exact ⟨4, rfl, rfl, by decide, by decide⟩
      | 3, hx => cases hx; exact ⟨8, rfl, rfl, by decide, by decide⟩
      | 4, hx => cases hx; exact ⟨16, rfl, rfl, by decide, by decide⟩
      | n + 5, hx => cases hx
    have st := take_fold (sgStep p c) 1 hw
    refine s_when (b := decide (p / w % 2 = 1) && decide (c / w % 2 = 1)) (et_and (et_test (ev_op (ev_op (ev_op (ev_var rfl) (ev_var rfl) (rv_div h0 h1)) ev_c (rv_mod (by decide))) ev_c rv_eqI)) (fun _ => et_test (ev_op (ev_op (ev_op (ev_var rfl) (ev_var rfl) (rv_div h0 h1)) ev_c (rv_mod (by decide))) ev_c rv_eqI))) (fun hb' H2 e2 => ?_) (fun hb' H2 e2 => ?_)
    · refine s_asg (ev_op ev_c (ev_var rfl) rv_sub) fun H3 e3 => ⟨⟨some (.int w), ?_⟩, (ex.trans e2).trans e3, e3 b _ (e2 b _ hb)⟩
      have e : sgStep p c ((([1, 2, 4, 8, 16] : List Int).take i).foldl (sgStep p c) 1) w = 0 - (([1, 2, 4, 8, 16] : List Int).take i).foldl (sgStep p c) 1 := by
        unfold sgStep
        rw [if_pos]
        simpa using hb'
      rw [st, e]
      rfl
    · refine ⟨⟨some (.int w), ?_⟩, ex.trans e2, e2 b _ hb⟩
      have e : sgStep p c ((([1, 2, 4, 8, 16] : List Int).take i).foldl (sgStep p c) 1) w = (([1, 2, 4, 8, 16] : List Int).take i).foldl (sgStep p c) 1 := by
        show (if p / w % 2 = 1 ∧ c / w % 2 = 1 then _ else _) = _
        rw [if_neg]
        simpa using hb'
      rw [st, e]
      rfl
  · obtain ⟨⟨y, rfl⟩, ex, hb⟩ := hp
    exact s_ret (ev_var rfl) fun H2 e2 => q H2 (ex.trans e2)
end Sg
namespace Sg
open PySem PySem.Spec PyProof.Rows L2 Evl
theorem pure_law_sums {K : PySem.W.Frag} (vs : List V) (H : Hp) (Q : VK) (E : XK) (h : sp_law_sums K vs H Q E) : t_law_sums K { nx := fun _ H' => Q .non H', rt := Q } (start N__law_sums vs) H := by
  obtain ⟨a, ns, rfl, hS, hl, hb, q⟩ := h
  refine q_asgL (el_lst ea_nil (by decide)) fun o H1 ho e1 h1 => ?_
  refine q_forR1 (n := (ns.length : Int)) (ea_cons (ev_lenM (ev_var rfl) (ex_l e1 hS)) ea_nil) ⟨by omega, by omega⟩
    (fun i σ H' => (∃ y, σ = [some (.ref a), some (.ref o), y, none]) ∧ Ex H H' ∧ H' o = some (.lst ((((List.range ns.length).map (sumAt ns)).take i).map V.int)))
    (fun H2 e2 => ⟨⟨none, rfl⟩, e1.trans e2, e2 o _ h1⟩) (fun i σ H' hi hp => ?_) (fun σ H' hp => ?_)
  · obtain ⟨⟨y, rfl⟩, ex, hH⟩ := hp
    have hi1 : i < ns.length := by omega
    refine s_app hH (ev_var rfl) (v := .int (sumAt ns i)) ?_ (by rw [List.length_map, List.length_take, List.length_map, List.length_range]; omega) fun H2 e2 => ?_
    · refine ev_sumL (ns := (List.range ns.length).map fun (p : Nat) => sg p i * ns.getD p 0) ?_
      have el := el_lcR1 (σ := [some (.ref a), some (.ref o), some (.int i), none]) (H := H') (t := tYes) (te := tOp rMulI (tCall (sp_law_sign K) [] E0 (tCons (tVar 3) (tCons (tVar 2) tNil))) (tOp (rIxL K) (tVar 0) (tVar 3))) (ta := tCons (tCB (rLenS K) (tCons (tVar 0) tNil)) tNil) (j := 3) (vs := [3]) (n := (ns.length : Int))
        (fun _ => true) (fun p => .int (sg p i * ns.getD p 0)) (ea_cons (ev_lenM (ev_var rfl) (ex_l ex hS)) ea_nil) ⟨by omega, by omega⟩ (fun _ => rfl) (fun _ _ _ _ => et_yes) (fun p H3 e3 hp _ => ?_)
      · rw [given_yes_all, Int.toNat_natCast] at el
        rw [List.map_map]
        exact el
      · have hp1 : p < ns.length := by omega
        have hbp : (ns.getD p 0).natAbs < 2 ^ 100 := by
          rw [List.getD_eq_getElem?_getD, List.getElem?_eq_getElem hp1]
          exact hb _ (List.getElem_mem hp1)
        exact ev_op (ev_call2 (z := .int (sg p i)) (ev_var rfl) (ev_var rfl) (spv fun H4 _ Q4 E4 q4 => ⟨_, _, rfl, q4⟩)) (ev_op (ev_var rfl) (ev_var rfl) (rv_ixN (ex_l (ex.trans e3) hS) rfl hp1)) (rv_mul (a := 2) (sg_abs _ _) hbp (by decide) (by decide) (by decide))
    · refine ⟨⟨some (.int i), rfl⟩, Ex.mut (ex.trans e2) ho, ?_⟩
      rw [upd_same, List.take_add_one, List.getElem?_map, List.getElem?_range hi1, List.map_append]
      rfl
  · obtain ⟨⟨y, rfl⟩, ex, hH⟩ := hp
    refine s_ret (ev_var rfl) fun H2 e2 => q o H2 ho (ex.trans e2) (e2 o _ ?_)
    rw [hH, Int.toNat_natCast, List.take_of_length_le (by rw [List.length_map, List.length_range]; exact Nat.le_refl _)]
    rfl
end Sg
namespace Sg
open PySem PySem.Spec PyProof.Rows L2 Evl
theorem pure_law_alike {K : PySem.W.Frag} (vs : List V) (H : Hp) (Q : VK) (E : XK) (h : sp_law_alike K vs H Q E) : t_law_alike K { nx := fun _ H' => Q .non H', rt := Q } (start N__law_alike vs) H := by
  obtain ⟨a, b, ns, ms, rfl, hS, hT, hl, q⟩ := h
  refine q_when (b := !decide ((ns.length : Int) = ms.length)) (et_is (et_or (et_not (et_B (ev_islist (ev_var rfl) hS))) (fun _ => et_test (ev_op (ev_lenM (ev_var rfl) hS) (ev_lenM (ev_var rfl) hT) rv_neI))) (by rfl)) (fun hb H1 e1 => ?_) (fun hb H1 e1 => ?_)
  · have hne : ¬ ns = ms := fun e => by
      rw [e, decide_eq_true rfl] at hb
      cases hb
    rw [decide_eq_false hne] at q
    exact s_ret ev_c fun H2 e2 => q H2 (e1.trans e2)
  · have hlen : ns.length = ms.length := by
      have : (ns.length : Int) = ms.length := by simpa using hb
      omega
    refine q_forR1 (n := (ms.length : Int)) (ea_cons (ev_lenM (ev_var rfl) (ex_l e1 hT)) ea_nil) ⟨by omega, by omega⟩
      (fun i σ H' => (∃ y, σ = [some (.ref a), some (.ref b), y]) ∧ Ex H H' ∧ ∀ k, k < i → ns.getD k 0 = ms.getD k 0)
      (fun H2 e2 => ⟨⟨none, rfl⟩, e1.trans e2, fun k hk => absurd hk (Nat.not_lt_zero _)⟩) (fun i σ H' hi hp => ?_) (fun σ H' hp => ?_)
    · obtain ⟨⟨y, rfl⟩, ex, hh⟩ := hp
      have hi2 : i < ms.length := by omega
      have hi1 : i < ns.length := by omega
      refine s_when (b := !decide (ns.getD i 0 = ms.getD i 0)) (et_is (et_or (et_not (et_B (ev_call1 (z := .bl true) (ev_op (ev_var rfl) (ev_var rfl) (rv_ixN (ex_l ex hS) rfl hi1)) (spv fun H3 _ Q3 E3 q3 => ⟨_, rfl, q3⟩)))) (fun _ => et_test (ev_op (ev_op (ev_var rfl) (ev_var rfl) (rv_ixN (ex_l ex hS) rfl hi1)) (ev_op (ev_var rfl) (ev_var rfl) (rv_ixN (ex_l ex hT) rfl hi2)) rv_neI))) (by rfl)) (fun hb2 H2 e2 => ?_) (fun hb2 H2 e2 => ?_)
      · have hne : ¬ ns = ms := fun e => by
          rw [e, decide_eq_true rfl] at hb2
          cases hb2
        rw [decide_eq_false hne] at q
        exact s_ret ev_c fun H3 e3 => q H3 ((ex.trans e2).trans e3)
      · refine ⟨⟨some (.int i), rfl⟩, ex.trans e2, fun k hk => ?_⟩
        by_cases hki : k = i
        · rw [hki]
          simpa using hb2
        · exact hh k (by omega)
    · obtain ⟨⟨y, rfl⟩, ex, hh⟩ := hp
      have he : ns = ms := by
        refine List.ext_getElem hlen fun k h1 h2 => ?_
        have z := hh k (by simpa using h2)
        rwa [List.getD_eq_getElem?_getD, List.getD_eq_getElem?_getD, List.getElem?_eq_getElem h1, List.getElem?_eq_getElem h2] at z
      rw [decide_eq_true he] at q
      exact s_ret ev_c fun H3 e3 => q H3 (ex.trans e3)
end Sg
namespace Sg
open PySem PySem.Spec PyProof.Rows L2 Evl
section
variable {K : PySem.W.Frag} {σ : L2.St} {H : Hp} {ta tb te : TE}
theorem el_cat {l : Addr} {xs zs : List V} (ha : Ev ta σ H (.ref l)) (hl : H l = some (.lst xs)) (hb : EvL tb σ H zs) (hz : xs.length + zs.length ≤ 100000) : EvL (tOp rCat ta tb) σ H (xs ++ zs) := fun H0 e0 Q q =>
  ha H0 e0 _ fun H1 e1 => hb H1 (e0.trans e1) _ fun p H2 np e2 hp => ⟨l, p, xs, zs, rfl, rfl, (e0.trans (e1.trans e2)) l _ hl, hp, sz_of hz, fun r hr => q r _ (fresh_back (e1.trans e2) hr) ((e1.trans e2).trans (Ex.new hr)) upd_same⟩
theorem ev_isE {D a : Addr} {c : V} {cv : Value} {b : Bool} {i : Nat} (h : σ[i]? = some (some (.ref a))) (hc : ∀ u, RelV c u → u = cv) (hk : PySem.W.kitOne K (.ref D) cv = some b) : Ev (tCB (rIsE K D a) (tCons (tVar i) (tCons (tC c) tNil))) σ H (.bl b) := fun H1 e Q q =>
  ⟨_, h, c, cv, b, rfl, hc, hk, q H1 (Ex.refl H1)⟩
theorem ev_countV {l : Addr} {xs : List V} {y : V} {n : Nat} (ha : Ev ta σ H (.ref l)) (hl : SqL K H l xs) (hb : Ev tb σ H y) (fy : flatV y = true) (fx : xs.all flatV = true) (hn : (xs.countP fun z => eqV z y) = n) : Ev (tBM K "list" (rCountV K) ta (tCons tb tNil)) σ H (.int (n : Int)) := fun H0 e0 Q q =>
  ha H0 e0 _ fun H1 e1 => ⟨Or.inl ⟨rfl, xs, ex_l (e0.trans e1) hl⟩, hb H1 (e0.trans e1) _ fun H2 e2 => ⟨l, xs, y, rfl, rfl, ex_l ((e0.trans e1).trans e2) hl, fy, fx, by
    rw [hn]
    exact q H2 (e1.trans e2)⟩⟩
theorem ev_indexV {l : Addr} {xs : List V} {y z : V} {j : Nat} (ha : Ev ta σ H (.ref l)) (hl : SqL K H l xs) (hb : Ev tb σ H y) (fy : flatV y = true) (fx : xs.all flatV = true) (hj : xs[j]? = some z) (hz : eqV z y = true) (hno : ∀ (m : Nat) (z' : V), m < j → xs[m]? = some z' → eqV z' y = false) :
    Ev (tBM K "list" (rIndex K) ta (tCons tb tNil)) σ H (.int (j : Int)) := fun H0 e0 Q q =>
  ha H0 e0 _ fun H1 e1 => ⟨Or.inl ⟨rfl, xs, ex_l (e0.trans e1) hl⟩, hb H1 (e0.trans e1) _ fun H2 e2 => ⟨l, xs, y, j, z, rfl, rfl, ex_l ((e0.trans e1).trans e2) hl, fy, fx, hj, hz, hno, q H2 (e1.trans e2)⟩⟩
end
def kindBs (c : Str) : List Bool := [c == "NoRow", c == "NoSums", c == "NoMatch", c == "TooLong", c == "NoStep", c == "NoSigns", c == "NoChoice", c == "NoFlat", c == "NoNote"]
def kindWs : List V := [.str "row", .str "sums", .str "match", .str "long", .str "step", .str "signs", .str "choice", .str "flat", .str "note"]
theorem kind_flat (bs : List Bool) : (bs.map V.bl).all flatV = true := by
  rw [List.all_map]
  exact List.all_eq_true.mpr fun _ _ => rfl
def oneHot (j : Nat) : List Bool := (List.range 9).map (fun i => i == j)
theorem kind_at {c t : Str} (h : (c, t) ∈ kindTab) : ∃ j, j < 9 ∧ kindBs c = oneHot j ∧ kindWs[j]? = some (.str t) := by
  unfold kindTab at h
  simp only [List.mem_cons, List.not_mem_nil, or_false, Prod.mk.injEq] at h
  rcases h with ⟨rfl, rfl⟩ | ⟨rfl, rfl⟩ | ⟨rfl, rfl⟩ | ⟨rfl, rfl⟩ | ⟨rfl, rfl⟩ | ⟨rfl, rfl⟩ | ⟨rfl, rfl⟩ | ⟨rfl, rfl⟩ | ⟨rfl, rfl⟩
  · exact ⟨0, by decide, by decide +kernel, rfl⟩
  · exact ⟨1, by decide, by decide +kernel, rfl⟩
  · exact ⟨2, by decide, by decide +kernel, rfl⟩
  · exact ⟨3, by decide, by decide +kernel, rfl⟩
  · exact ⟨4, by decide, by decide +kernel, rfl⟩
  · exact ⟨5, by decide, by decide +kernel, rfl⟩
  · exact ⟨6, by decide, by decide +kernel, rfl⟩
  · exact ⟨7, by decide, by decide +kernel, rfl⟩
  · exact ⟨8, by decide, by decide +kernel, rfl⟩
theorem hot_count : ∀ j, j < 9 → (((oneHot j).map V.bl).countP fun z => eqV z (.bl true)) = 1 := by decide
theorem hot_at {j : Nat} (h : j < 9) : ((oneHot j).map V.bl)[j]? = some (.bl true) := by
  unfold oneHot
  rw [List.getElem?_map, List.getElem?_map, List.getElem?_range h]
  show some (V.bl (j == j)) = _
  rw [beq_self_eq_true]
theorem hot_no {j : Nat} (h : j < 9) (m : Nat) (z : V) (hm : m < j) (hz : ((oneHot j).map V.bl)[m]? = some z) : eqV z (.bl true) = false := by
  unfold oneHot at hz
  rw [List.getElem?_map, List.getElem?_map, List.getElem?_range (by omega)] at hz
  cases hz
  show eqV (V.bl (m == j)) (.bl true) = false
  rw [beq_eq_false_iff_ne.mpr (by omega)] <;> rfl
theorem kind_in {x y : Str} {j : Nat} (h : kindTab[j]? = some (x, y)) : (x, y) ∈ kindTab := List.mem_of_getElem? h
theorem pure_law_kind {K : PySem.W.Frag} (T : KindsOk K) (c : Str) (a : Addr) (t : Str) (hc : (c, t) ∈ kindTab) (H : Hp) (Q : VK) (E : XK) (q : RetV (.str t) H Q) : t_law_kind K (He.ga K c) a { nx := fun _ H' => Q .non H', rt := Q } (start N__law_kind [.ref a]) H := by
  have rel : ∀ (x : Addr) (u : Value), RelV (.ref x) u → u = .ref x := fun _ _ h => h
  have one : ∀ {σ : L2.St} {H : Hp} {x y : Str} (j : Nat), σ[0]? = some (some (.ref a)) → kindTab[j]? = some (x, y) → Ev (tCB (rIsE K (He.ga K c) a) (tCons (tVar 0) (tCons (tC (.ref (He.ga K x))) tNil))) σ H (.bl (c == x)) := fun {σ H x y} j hσ hj =>
    ev_isE hσ (rel _) (T.is (c, t) hc (x, y) (kind_in hj))
  obtain ⟨j, hj, hb, hw⟩ := kind_at hc
  refine q_asgL (xs := [.bl (c == "NoRow"), .bl (c == "NoSums"), .bl (c == "NoMatch"), .bl (c == "TooLong")]) (el_lst (ea_cons (one 0 rfl rfl) (ea_cons (one 1 rfl rfl) (ea_cons (one 2 rfl rfl) (ea_cons (one 3 rfl rfl) ea_nil)))) (by show 4 ≤ 100000; decide)) fun p H1 np e1 h1 => ?_
  refine q_asgL (el_cat (ev_var rfl) h1 (zs := [.bl (c == "NoStep"), .bl (c == "NoSigns"), .bl (c == "NoChoice"), .bl (c == "NoFlat")]) (el_lst (ea_cons (one 4 rfl rfl) (ea_cons (one 5 rfl rfl) (ea_cons (one 6 rfl rfl) (ea_cons (one 7 rfl rfl) ea_nil)))) (by show 4 ≤ 100000; decide)) (by show 4 + 4 ≤ 100000; decide)) fun r H2 nr e2 h2 => ?_
  refine q_app h2 (ev_var rfl) (one 8 rfl rfl) (by show 8 < 100000; decide) fun H3 e3 => ?_
  have hl : (upd H3 r (.lst (([.bl (c == "NoRow"), .bl (c == "NoSums"), .bl (c == "NoMatch"), .bl (c == "TooLong")] ++ [.bl (c == "NoStep"), .bl (c == "NoSigns"), .bl (c == "NoChoice"), .bl (c == "NoFlat")]) ++ [.bl (c == "NoNote")]))) r = some (.lst ((oneHot j).map V.bl)) := by
    rw [upd_same, ← hb]
    rfl
  have ex0 : Ex H (upd H3 r (.lst (([.bl (c == "NoRow"), .bl (c == "NoSums"), .bl (c == "NoMatch"), .bl (c == "TooLong")] ++ [.bl (c == "NoStep"), .bl (c == "NoSigns"), .bl (c == "NoChoice"), .bl (c == "NoFlat")]) ++ [.bl (c == "NoNote")]))) := Ex.mut ((e1.trans e2).trans e3) (fresh_back e1 nr)
  revert hl ex0
  generalize upd H3 r (.lst (([.bl (c == "NoRow"), .bl (c == "NoSums"), .bl (c == "NoMatch"), .bl (c == "TooLong")] ++ [.bl (c == "NoStep"), .bl (c == "NoSigns"), .bl (c == "NoChoice"), .bl (c == "NoFlat")]) ++ [.bl (c == "NoNote")])) = H4
  intro hl ex0
  have ve : ∀ u, RelV (.ty "ValueError") u → u = .type "ValueError" := fun _ h => h
  refine q_when (b := false) (et_is (et_or (et_not (et_B (ev_isE (by rfl) ve (T.ve (c, t) hc)))) fun _ => et_test (ev_op (ev_countV (ev_var rfl) (sq_of hl) ev_c rfl (kind_flat _) (hot_count j hj)) ev_c rv_neI)) rfl) (fun hb => nomatch hb) (fun _ H5 e5 => ?_)
  refine s_ret (ev_tab (xs := kindWs) (i := (j : Int)) (el_lst (ea_cons ev_c (ea_cons ev_c (ea_cons ev_c (ea_cons ev_c (ea_cons ev_c (ea_cons ev_c (ea_cons ev_c (ea_cons ev_c (ea_cons ev_c ea_nil))))))))) (by decide)) (ev_indexV (ev_var rfl) (ex_l e5 (sq_of hl)) ev_c rfl (kind_flat _) (hot_at hj) rfl (hot_no hj)) (atI_nat hw)) fun H6 e6 => q H6 ((ex0.trans e5).trans e6)
end Sg
namespace Sg
open PySem PySem.Spec PyProof.Rows L2 Evl
section
variable {K : PySem.W.Frag} {σ : L2.St} {H : Hp} {ta tb tc te tl : TE}
theorem ev_allSigns {ns : List Int} {j : Nat} {vs : List Nat} (h : EvS K tl σ H ns) (hz : ns.length ≤ 1000) (hw : ∀ x, wipe ((wipe σ vs).set j (some x)) vs = wipe σ vs) (he : ∀ n : Int, ((wipe σ vs).set j (some (.int n)))[j]? = some (some (.int n))) :
    Ev (tCB (rAll K) (tCons (tLc (iList K tl) (gName j) tYes (tOp (rIn K false) (tVar j) (tTup (tCons (tC (.int 1)) (tCons (tUn rNegI (tC (.int 1))) tNil)))) vs) tNil)) σ H (.bl (decide (Signs ns))) := by
  have e : ((ns.map fun x => decide (x = 1 ∨ x = -1)).all id) = decide (Signs ns) := by
    rw [List.all_map]
    by_cases h : Signs ns
    · rw [decide_eq_true h, List.all_eq_true]
      exact fun x hx => decide_eq_true (h x hx)
    · rw [decide_eq_false h, List.all_eq_false]
      unfold Signs at h
      simp only [Classical.not_forall] at h
      obtain ⟨x, hx, hn⟩ := h
      exact ⟨x, hx, by simpa using hn⟩
  rw [← e]
  refine ev_allL ?_
  rw [List.map_map]
  exact el_mapS (fun x => .bl (decide (x = 1 ∨ x = -1))) h (by omega) hw fun n _ H1 e1 => ev_sign1 (ev_var (he n))
theorem ev_abs {i : Int} (h : Ev te σ H (.int i)) : Ev (tCB rAbs (tCons te tNil)) σ H (.int (if i < 0 then -i else i)) := fun H1 e Q q => h H1 e _ fun H2 e2 => ⟨i, rfl, q H2 e2⟩
theorem ev_isF {E : XK} {ns : List Int} (h : EvS K te σ H ns) (r : IsRow ns) (s : Signs ns) : Ev (tCall (sp_is_flat K) [] E (tCons te tNil)) σ H (.bl (flatD ns)) := ev_callS h fun p H1 _ hp Q E q => ⟨p, ns, rfl, hp, fun _ _ => q, fun _ n => absurd s n, fun n => absurd r n⟩
theorem ev_lawF {E : XK} {ns : List Int} (h : EvS K te σ H ns) (r : IsRow ns) : Ev (tCall (sp_law_is_flat K) [] E (tCons te tNil)) σ H (.bl (flatD ns)) := ev_callS h fun p H1 _ hp Q E q => ⟨p, ns, rfl, hp, r, q⟩
theorem ev_held {E : XK} {ns : List Int} (h : EvS K te σ H ns) (r : IsRow ns) (s : Signs ns) : Ev (tCall (sp_law_held K) [] E (tCons te tNil)) σ H (.bl true) := ev_callS h fun p H1 _ hp Q E q => ⟨p, ns, rfl, hp, r, s, q⟩
theorem el_flat {E : XK} {i : Int} {k : Nat} (h : Ev te σ H (.int i)) (e : i = ((2 * k : Nat) : Int)) (hk : k ≤ 2) : EvL (tCall (sp_flat K) [] E (tCons te tNil)) σ H ((flatL k).map V.int) := fun H0 e0 Q q =>
  h H0 e0 _ fun H1 e1 => ⟨i, rfl, fun _ _ => by
    rw [show (i / 2).toNat = k by omega]
    exact fun p H2 np e2 h2 => q p H2 (fresh_back e1 np) (e1.trans e2) h2, fun _ n => absurd (by omega) n, fun n => absurd (by omega) n⟩
theorem ev_ixU {xs : List V} {i : Int} {v : V} (h : EvU ta σ H xs) (ha : atI xs i = some v) : Ev (tOp (rIxT K) ta (tC (.int i))) σ H v := fun H0 e0 Q q => h H0 e0 _ fun p H1 _ e1 hp => rv_ixT (st_of hp) ha H1 (Ex.refl H1) _ fun H2 e2 => q H2 (e1.trans e2)
theorem all_same {ns : List Int} (h0 : 0 < ns.length) : ((sumsL ns).map fun x => decide ((if x < 0 then -x else x) = (if (sumsL ns).getD 0 0 < 0 then -(sumsL ns).getD 0 0 else (sumsL ns).getD 0 0))).all id = flatD ns := by
  unfold flatD
  rw [List.all_map]
  by_cases h : ∀ c, c < ns.length → (sumAt ns c).natAbs = (sumAt ns 0).natAbs
  · rw [decide_eq_true h, List.all_eq_true]
    intro x hx
    obtain ⟨c, hc, rfl⟩ := List.mem_map.mp hx
    have hc := List.mem_range.mp hc
    refine decide_eq_true ?_
    rw [getD_sumsL h0]
    exact (abs_eq _ _).mpr (h c hc)
  · rw [decide_eq_false h, List.all_eq_false]
    simp only [Classical.not_forall] at h
    obtain ⟨c, hc, hn⟩ := h
    refine ⟨sumAt ns c, List.mem_map.mpr ⟨c, List.mem_range.mpr hc, rfl⟩, ?_⟩
    show ¬ decide _ = true
    rw [getD_sumsL h0]
    exact fun z => hn ((abs_eq _ _).mp (of_decide_eq_true z))
theorem pure_law_is_flat (vs : List V) (H : Hp) (Q : VK) (E : XK) (h : sp_law_is_flat K vs H Q E) : t_law_is_flat K { nx := fun _ H' => Q .non H', rt := Q } (start N__law_is_flat vs) H := by
  obtain ⟨a, ns, rfl, hS, r, q⟩ := h
  have p := row_pos r
  refine q_asgL (el_law_sumsS (evs_var rfl hS) (by omega) (fun x hx => by have := r.2 x hx; omega)) fun fp H1 nf e1 h1 => ?_
  have hF : SqL K H1 fp ((sumsL ns).map V.int) := sq_of h1
  rw [← all_same p.1] at q
  refine s_ret (ev_allL ?_) fun H2 e2 => q H2 (e1.trans e2)
  rw [List.map_map]
  exact el_mapS (fun x => .bl (decide ((if x < 0 then -x else x) = (if (sumsL ns).getD 0 0 < 0 then -(sumsL ns).getD 0 0 else (sumsL ns).getD 0 0)))) (evs_var rfl hF) (by rw [sumsL_length]; omega) (fun _ => rfl) fun n _ H3 e3 => ev_op (ev_abs (ev_var rfl)) (ev_abs (evs_ix (k := 0) (evs_var rfl (ex_l e3 hF)) ev_c rfl (by rw [sumsL_length]; exact p.1))) rv_eqI
theorem pure_law_held (vs : List V) (H : Hp) (Q : VK) (E : XK) (h : sp_law_held K vs H Q E) : t_law_held K { nx := fun _ H' => Q .non H', rt := Q } (start N__law_held vs) H := by
  obtain ⟨a, ns, rfl, hS, r, s, q⟩ := h
  refine q_asgL (el_list (ev_var rfl) hS) fun hp H1 nh e1 h1 => ?_
  have hH : SqL K H1 hp (ns.map V.int) := sq_of h1
  refine q_asg (v := .bl (flatD ns)) (ev_isF (evs_var rfl hH) r s) fun H2 e2 => ?_
  refine s_ret (v := .bl true) (ev_is (ev_andV (ev_isi (b := "bool") (a := "bool") (r := true) (x := .bl (flatD ns)) (ev_var rfl) (fun _ _ => .base (.bl _)) (by decide +kernel)) fun _ => ev_andV (ev_op (ev_var rfl) (ev_lawF (evs_var rfl (ex_l (e1.trans e2) hS)) r) (rv_eq rfl)) fun _ => ev_eqS (evs_var rfl (ex_l e2 hH)) (evs_var rfl (ex_l (e1.trans e2) hS))) (by rw [decide_eq_true rfl, decide_eq_true rfl] <;> rfl)) fun H3 e3 => q H3 ((e1.trans e2).trans e3)
theorem pure_law_tried (c1 : PySem.W.exmOne K (.ref (He.ga K "NoFlat")) (.ref (He.ga K "SignError")) = some true) (vs : List V) (H : Hp) (Q : VK) (E : XK) (h : sp_law_tried K vs H Q E) : t_law_tried K { nx := fun _ H' => Q .non H', rt := Q } (start N__law_tried vs) H := by
  obtain ⟨s, rfl, hs, q1, q2⟩ := h
  refine ⟨_, rfl, (s : Int), rfl, fun _ hs2 l H1 nl e1 h1 => ?_, fun _ hs2 H1 e1 => ?_, fun n => absurd ⟨by omega, by omega⟩ n⟩
  · rw [show ((s : Int) / 2).toNat = s / 2 by omega] at h1
    exact ⟨by show 2 ≤ sizeLine; decide, fun p np => q1 (by omega) l p _ nl (fresh_back e1 np) (e1.trans (Ex.new np)) (Ex.new np l _ h1) upd_same⟩
  · refine ⟨true, c1, fun _ x nx => ?_, fun z => nomatch z⟩
    refine ⟨_, rfl, rfl, _, _, rfl, rfl, ⟨"NoFlat", kind_in (j := 7) rfl, rfl⟩, fun H2 e2 => ?_⟩
    exact ⟨by show 2 ≤ sizeLine; decide, fun p np => q2 (by omega) p _ (fresh_back (e1.trans e2) np) ((e1.trans e2).trans (Ex.new np)) upd_same⟩
end
theorem even_pow : ∀ s, s ≤ 5 → s % 2 = 0 → s / 2 < 3 ∧ 4 ^ (s / 2) = 2 ^ s ∧ 2 * (s / 2) = s := by decide
theorem pure_law {K : PySem.W.Frag} (vs : List V) (H : Hp) (Q : VK) (E : XK) (h : sp_law K vs H Q E) : t_law K { nx := fun _ H' => Q .non H', rt := Q } (start N_law vs) H := by
  obtain ⟨a, ns, rfl, hS, hl, q⟩ := h
  obtain ⟨s, hs, es⟩ := steps_at (cellAt ns 0) (cellAt ns 1) 5 (by decide)
  refine q_asg (v := .int (s : Int)) (ev_is (ev_op (ev_op (ev_cell (k := 0) (ev_var rfl) ev_c hS) ev_c (rv_mod (by decide))) (ev_int1b (ev_op (ev_op (ev_cell (k := 1) (ev_var rfl) ev_c hS) ev_c (rv_mod (by decide))) ev_c rv_eqI)) rv_add) (congrArg V.int es)) fun H1 e1 => ?_
  have hs6 : s < 6 := by omega
  have h32 := pow_le' hs6
  have hn0 : 0 < 2 ^ s := Nat.two_pow_pos s
  have pw : 2 ^ s ∈ [1, 2, 4, 8, 16, 32] := pow_mem hs
  have hS1 := ex_l e1 hS
  refine q_asgL (el_law_row (g := 900000000000) (s := s) (ev_cell (k := 2) (ev_var rfl) ev_c hS1) (ev_var rfl) ev_c (ev_op (x := .int 9) ev_c (ev_pow (n := 0) (by decide) (by decide) ev_c ev_c) (rv_mul (a := 4) (b := 40) (by decide) (by decide) (by decide) (by decide) (by decide))) hs (by decide) (by decide)) fun rp H2 hr2 e2 h2 => ?_
  have hln := lawRow_length (cellAt ns 2) (2 ^ s) 0 900000000000
  have hsg := lawRow_signs (cellAt ns 2) (2 ^ s) 900000000000
  generalize lawRow (cellAt ns 2) (2 ^ s) 0 900000000000 = row at h2 hln hsg
  have hir : IsRow row := signs_isRow (by rw [hln]; exact pw) hsg
  have hS2 := ex_l e2 hS1
  have hR2 : SqL K H2 rp (row.map V.int) := sq_of h2
  have held : ∀ {σ : L2.St} {H : Hp} {E : XK}, σ[2]? = some (some (.ref rp)) → Ex H2 H → Ev (tCall (sp_law_held K) [] E (tCons (tVar 2) tNil)) σ H (.bl true) := fun h e => ev_held (evs_var h (ex_l e hR2)) hir hsg
  refine ⟨_, rfl, s, rfl, hs, fun hev => ?_, fun hodd => ?_⟩
  · intro fl tp H3 nfl ntp e3 hfl htp
    obtain ⟨hk, h4, h2k⟩ := even_pow s hs hev
    have fln : (flatL (s / 2)).length = 2 ^ s := by rw [flatL_len, h4]
    have fsg := flatL_signs (s / 2)
    have frow : IsRow (flatL (s / 2)) := signs_isRow (by rw [fln]; exact pw) fsg
    have ffl := flat_is (s / 2) hk
    refine q_when (b := false) (et_is (et_not (et_B (held rfl e3))) rfl) (fun z => nomatch z) (fun _ H4 e4 => ?_)
    refine q_when (b := false) (et_is (et_test (ev_op (ev_op (ev_var rfl) ev_c (rv_mod (by decide))) ev_c rv_eqI)) (decide_eq_false (by omega))) (fun z => nomatch z) (fun _ H5 e5 => ?_)
    have e35 := e4.trans e5
    refine q_asg (v := .ref fl) (ev_op (ev_var rfl) ev_c (rv_ixT (st_of (e35 tp _ htp)) rfl)) fun H6 e6 => ?_
    have e36 := e35.trans e6
    have hF6 : SqL K H6 fl ((flatL (s / 2)).map V.int) := sq_of (e36 fl _ hfl)
    have hR6 := ex_l (e3.trans e36) hR2
    refine q_when (b := false) (et_is (et_or (et_test (ev_op (ev_op (ev_var rfl) ev_c (rv_ixT (st_of (e36 tp _ htp)) rfl)) ev_c (rv_ne rfl))) fun _ => et_or (et_not (et_B (ev_alikeS (evs_var rfl hF6) (evs_new (el_listS (evs_var rfl hF6))) (by omega)))) fun _ => et_test (ev_op (ev_lenS (evs_var rfl hF6)) (ev_lenS (evs_var rfl hR6)) rv_neI)) (by
      rw [fln, hln, decide_eq_true rfl, decide_eq_true rfl, decide_eq_true rfl] <;> rfl)) (fun z => nomatch z) (fun _ H7 e7 => ?_)
    have hF7 := ex_l e7 hF6
    refine q_when (b := false) (et_is (et_or (et_not (et_B (ev_allSigns (evs_var rfl hF7) (by omega) (fun _ => rfl) fun _ => rfl))) fun _ => et_not (et_B (ev_lawF (evs_var rfl hF7) frow))) (by rw [decide_eq_true fsg, ffl] <;> rfl)) (fun z => nomatch z) (fun _ H8 e8 => ?_)
    have hF8 := ex_l e8 hF7
    have hR8 := ex_l (e7.trans e8) hR6
    have fle := far_le hs6 hln fln hsg fsg ffl
    refine q_when (b := false) (et_is (et_test (ev_op (ev_ixU (v := .int (farJ row (nearJ row) : Nat)) (eu_nearS (evs_new (el_listS (evs_var rfl hR8))) hir hsg) rfl) (ev_ixU (v := .int (farJ (flatL (s / 2)) (nearJ (flatL (s / 2))) : Nat)) (eu_nearS (evs_new (el_listS (evs_var rfl hF8))) frow fsg) rfl) rv_gt)) (decide_eq_false (by omega))) (fun z => nomatch z) (fun _ H9 e9 => ?_)
    have hF9 := ex_l e9 hF8
    have hR9 := ex_l e9 hR8
    refine q_asgL (el_list (ev_var rfl) hF9) fun kp H10 nkp e10 hkp => ?_
    have hl10 : H10 fl = some (.lst ((flatL (s / 2)).map V.int)) := ((((e36.trans e7).trans e8).trans e9).trans e10) fl _ hfl
    refine q_app hl10 (ev_var rfl) ev_c (by rw [List.length_map]; omega) fun H11 e11 => ?_
    have nek : kp ≠ fl := fun z => by
      have y := (((e36.trans e7).trans e8).trans e9) fl _ hfl
      rw [z, y] at nkp
      cases nkp
    have exU : Ex H2 (upd H11 fl (.lst ((flatL (s / 2)).map V.int ++ [V.int 0]))) := Ex.mut ((((((e3.trans e36).trans e7).trans e8).trans e9).trans e10).trans e11) nfl
    have hkU : (upd H11 fl (.lst ((flatL (s / 2)).map V.int ++ [V.int 0]))) kp = some (.lst ((flatL (s / 2)).map V.int)) := by
      rw [upd_ne nek]
      exact e11 kp _ hkp
    revert exU hkU
    generalize upd H11 fl (.lst ((flatL (s / 2)).map V.int ++ [V.int 0])) = H12
    intro exU hkU
    refine q_asgL (el_flat (k := s / 2) (ev_var rfl) (by omega) (by omega)) fun gp H13 ngp e13 hgp => ?_
    have ex13 := exU.trans e13
    have hG13 : SqL K H13 gp ((flatL (s / 2)).map V.int) := sq_of hgp
    have hR13 := ex_l ex13 hR2
    refine q_when (b := false) (et_is (et_or (et_test (ev_op (ev_lenS (evs_var rfl hG13)) (ev_lenS (evs_var rfl hR13)) rv_neI)) fun _ => et_not (et_B (ev_lawF (evs_var rfl hG13) frow))) (by rw [fln, hln, ffl, decide_eq_true rfl] <;> rfl)) (fun z => nomatch z) (fun _ H14 e14 => ?_)
    refine q_asg (v := .ref kp) (ev_var rfl) fun H15 e15 => ?_
    have ex15 := (ex13.trans e14).trans e15
    have hS15 := ex_l ex15 hS2
    have hR15 := ex_l ex15 hR2
    have hK15 : SqL K H15 kp ((flatL (s / 2)).map V.int) := sq_of (((e13.trans e14).trans e15) kp _ hkU)
    obtain ⟨c, hc, ec⟩ := mod_at3 (cellAt ns 3) (2 ^ s) hn0
    refine q_asg (v := .int (c : Int)) (ev_is (ev_op (ev_cell (k := 3) (ev_var rfl) ev_c hS15) (ev_lenS (evs_var rfl hR15)) (rv_mod (by omega))) (congrArg V.int (by rw [hln]; exact ec))) fun H16 e16 => ?_
    have hR16 := ex_l e16 hR15
    have hK16 := ex_l e16 hK15
    have hS16 := ex_l e16 hS15
    have mln : (mixL (flatL (s / 2)) c).length = 2 ^ s := by rw [mix_length, fln]
    have msg := mix_signs fsg c
    have mrow : IsRow (mixL (flatL (s / 2)) c) := signs_isRow (by rw [mln]; exact pw) msg
    have mfl := mix_is (s / 2) hk c (by rw [h4]; exact hc)
    refine q_asgL (xs := (mixL (flatL (s / 2)) c).map V.int) (by
      unfold mixL
      rw [List.map_map, fln]
      exact el_mapR (n := 2 ^ s) (fun p => .int ((flatL (s / 2)).getD p 0 * sg (p : Nat) (c : Nat))) (ea_cons (ev_is (ev_lenS (evs_var rfl hR16)) (by rw [hln])) ea_nil) (by omega) (fun _ => rfl) fun p hp H17 e17 => ev_op (evs_ix (evs_var rfl (ex_l e17 hK16)) (ev_var rfl) rfl (by omega)) (ev_call2 (z := .int (sg (p : Nat) (c : Nat))) (ev_var rfl) (ev_var rfl) (spv fun H18 _ Q18 E18 q18 => ⟨_, _, rfl, q18⟩)) (rv_mul (a := 2) (b := 2) (by rcases getD_sign fsg (show p < (flatL (s / 2)).length by omega) with z | z <;> rw [z] <;> decide) (sg_abs _ _) (by decide) (by decide) (by decide))) fun mp H17 nmp e17 hmp => ?_
    have hM17 : SqL K H17 mp ((mixL (flatL (s / 2)) c).map V.int) := sq_of hmp
    refine q_asgL (el_list (ev_var rfl) hM17) fun op H18 nop e18 hop => ?_
    have hS18 := ex_l (e17.trans e18) hS16
    have hR18 := ex_l (e17.trans e18) hR16
    obtain ⟨j, hj, ej⟩ := mod_at3 (cellAt ns 4) (2 ^ s) hn0
    refine q_asg (v := .int (j : Int)) (ev_is (ev_op (ev_cell (k := 4) (ev_var rfl) ev_c hS18) (ev_lenS (evs_var rfl hR18)) (rv_mod (by omega))) (congrArg V.int (by rw [hln]; exact ej))) fun H19 e19 => ?_
    have ho19 := e19 op _ hop
    refine q_setL (j := j) (v := .int (0 - (mixL (flatL (s / 2)) c).getD j 0)) ho19 (ev_op ev_c (evs_ix (evs_var rfl (sq_of ho19)) (ev_var rfl) rfl (by omega)) rv_sub) (ev_var rfl) (ev_var rfl) (by rw [List.length_map]; omega) fun H20 e20 => ?_
    have neo : mp ≠ op := fun z => by
      rw [← z, hmp] at nop
      cases nop
    have exO : Ex H16 (upd H20 op (.lst (((mixL (flatL (s / 2)) c).map V.int).set j (.int (0 - (mixL (flatL (s / 2)) c).getD j 0))))) := Ex.mut (((e17.trans e18).trans e19).trans e20) (fresh_back e17 nop)
    have hmO : (upd H20 op (.lst (((mixL (flatL (s / 2)) c).map V.int).set j (.int (0 - (mixL (flatL (s / 2)) c).getD j 0))))) mp = some (.lst ((mixL (flatL (s / 2)) c).map V.int)) := by
      rw [upd_ne neo]
      exact ((e18.trans e19).trans e20) mp _ hmp
    have hoO : (upd H20 op (.lst (((mixL (flatL (s / 2)) c).map V.int).set j (.int (0 - (mixL (flatL (s / 2)) c).getD j 0))))) op = some (.lst (((mixL (flatL (s / 2)) c).set j (0 - (mixL (flatL (s / 2)) c).getD j 0)).map V.int)) := by
      rw [upd_same, List.map_set]
    revert exO hmO hoO
    generalize upd H20 op (.lst (((mixL (flatL (s / 2)) c).map V.int).set j (.int (0 - (mixL (flatL (s / 2)) c).getD j 0)))) = H21
    intro exO hmO hoO
    have osg : Signs ((mixL (flatL (s / 2)) c).set j (0 - (mixL (flatL (s / 2)) c).getD j 0)) := fun x hx => by
      rcases List.mem_or_eq_of_mem_set hx with hx | rfl
      · exact msg x hx
      · rcases getD_sign msg (show j < (mixL (flatL (s / 2)) c).length by omega) with z | z <;> rw [z] <;> decide
    have orow : IsRow ((mixL (flatL (s / 2)) c).set j (0 - (mixL (flatL (s / 2)) c).getD j 0)) := signs_isRow (by rw [List.length_set, mln]; exact pw) osg
    refine q_when (b := false) (et_is (et_or (et_not (et_B (ev_held (evs_var rfl (sq_of hmO)) mrow msg))) fun _ => et_or (et_not (et_B (ev_isF (evs_var rfl (sq_of hmO)) mrow msg))) fun _ => et_not (et_B (ev_held (evs_var rfl (sq_of hoO)) orow osg))) (by rw [mfl] <;> rfl)) (fun z => nomatch z) (fun _ H22 e22 => ?_)
    refine q_when (b := decide ((s : Int) = 4)) (et_test (ev_op (ev_var rfl) ev_c rv_eqI)) (fun hb H23 e23 => s_ret ev_c fun H24 _ => q H24) (fun hb H23 e23 => ?_)
    have hne : ¬ s = 4 := by have := of_decide_eq_false hb; omega
    have e223 := e22.trans e23
    have hS23 := ex_l (exO.trans e223) hS16
    obtain ⟨b, hb2, eb⟩ := mod_at3 (cellAt ns 5) 2 (by decide)
    have bln : (flatL b).length ≤ 4 ∧ (flatL b).length ∈ [1, 2, 4, 8, 16, 32] ∧ (mixL (flatL (s / 2)) c).length ≤ 4 := by
      have hs2 : s = 0 ∨ s = 2 := by omega
      have hb3 : b = 0 ∨ b = 1 := by omega
      rw [mln, flatL_len]
      rcases hs2 with rfl | rfl <;> rcases hb3 with rfl | rfl <;> decide
    have brow : IsRow (flatL b) := signs_isRow bln.2.1 (flatL_signs b)
    have hle : (mixL (flatL (s / 2)) c).length * (flatL b).length ≤ 32 := Nat.le_trans (Nat.mul_le_mul bln.2.2 bln.1) (by decide)
    refine q_asgL (el_tiedS (evs_var rfl (sq_of (e223 mp _ hmO))) (evs_new (el_flat (k := b) (ev_op (ev_is (ev_op (ev_cell (k := 5) (ev_var rfl) ev_c hS23) ev_c (rv_mod (by decide))) (congrArg V.int eb)) ev_c (rv_mul (a := 2) (b := 2) (by omega) (by decide) (by decide) (by decide) (by decide))) (by omega) (by omega))) mrow brow hle) fun xp H24 nxp e24 hxp => ?_
    have tsg := tie_signs msg (flatL_signs b)
    have trow : IsRow (tieL (mixL (flatL (s / 2)) c) (flatL b)) := signs_isRow (by
      have hs2 : s = 0 ∨ s = 2 := by omega
      have hb3 : b = 0 ∨ b = 1 := by omega
      rw [tieL_length, mln, flatL_len]
      rcases hs2 with rfl | rfl <;> rcases hb3 with rfl | rfl <;> decide) tsg
    have tfl := mix_tied (s / 2) (by omega) c (by rw [h4]; exact hc) b hb2
    exact s_ret (v := .bl true) (ev_is (ev_andV (ev_held (evs_var rfl (sq_of hxp)) trow tsg) fun _ => ev_isF (evs_var rfl (sq_of hxp)) trow tsg) (by rw [tfl] <;> rfl)) fun H25 _ => q H25
  · intro tp H3 ntp e3 htp
    have nfl := odd_not hs6 hodd hln hsg
    refine q_when (b := false) (et_is (et_not (et_B (held rfl e3))) rfl) (fun z => nomatch z) (fun _ H4 e4 => ?_)
    refine q_when (b := true) (et_is (et_test (ev_op (ev_op (ev_var rfl) ev_c (rv_mod (by decide))) ev_c rv_eqI)) (decide_eq_true (by omega))) (fun _ H5 e5 => ?_) (fun z => nomatch z)
    exact s_ret (v := .bl true) (ev_is (ev_andV (ev_op (ev_op (ev_var rfl) ev_c (rv_ixT (st_of ((e4.trans e5) tp _ htp)) rfl)) ev_c (rv_eq rfl)) fun _ => ev_notV (ev_isF (evs_var rfl (ex_l ((e3.trans e4).trans e5) hR2)) hir hsg)) (by rw [nfl, decide_eq_true rfl] <;> rfl)) fun H6 _ => q H6
end Sg
namespace Sg
open PySem PySem.Spec PyProof.Rows L2 Evl
/-! ### the text -/
def topS (i : Nat) : Stmt := PySem.Challenge.pw_signsums_k10_whole_flat.main.body.getD i (.Pass ⟨0, 0, 0, 0⟩)
abbrev s_ask_row : Stmt := topS 14
theorem sc_ask_row : FnScope N_ask_row ["row"] (defScope s_ask_row) := ⟨rfl, rfl, rfl, by decide +kernel, rfl, by decide +kernel, by decide +kernel⟩
abbrev s_summed : Stmt := topS 15
theorem sc_summed : FnScope N_summed ["row"] (defScope s_summed) := ⟨rfl, rfl, rfl, by decide +kernel, rfl, by decide +kernel, by decide +kernel⟩
abbrev s_tied : Stmt := topS 18
theorem sc_tied : FnScope N_tied ["one", "other"] (defScope s_tied) := ⟨rfl, rfl, rfl, by decide +kernel, rfl, by decide +kernel, by decide +kernel⟩
abbrev s_ask_steps : Stmt := topS 20
theorem sc_ask_steps : FnScope N_ask_steps ["steps"] (defScope s_ask_steps) := ⟨rfl, rfl, rfl, by decide +kernel, rfl, by decide +kernel, by decide +kernel⟩
abbrev s_are_signs : Stmt := topS 21
theorem sc_are_signs : FnScope N_are_signs ["row"] (defScope s_are_signs) := ⟨rfl, rfl, rfl, by decide +kernel, rfl, by decide +kernel, by decide +kernel⟩
abbrev s_ask_signs : Stmt := topS 22
theorem sc_ask_signs : FnScope N_ask_signs ["row"] (defScope s_ask_signs) := ⟨rfl, rfl, rfl, by decide +kernel, rfl, by decide +kernel, by decide +kernel⟩
abbrev s_nearest : Stmt := topS 23
theorem sc_nearest : FnScope N_nearest ["row"] (defScope s_nearest) := ⟨rfl, rfl, rfl, by decide +kernel, rfl, by decide +kernel, by decide +kernel⟩
abbrev s_is_flat : Stmt := topS 26
theorem sc_is_flat : FnScope N_is_flat ["row"] (defScope s_is_flat) := ⟨rfl, rfl, rfl, by decide +kernel, rfl, by decide +kernel, by decide +kernel⟩
abbrev s_flat : Stmt := topS 27
theorem sc_flat : FnScope N_flat ["steps"] (defScope s_flat) := ⟨rfl, rfl, rfl, by decide +kernel, rfl, by decide +kernel, by decide +kernel⟩
abbrev s__law_cell_at : Stmt := topS 29
theorem sc__law_cell_at : FnScope N__law_cell_at ["script", "k"] (defScope s__law_cell_at) := ⟨rfl, rfl, rfl, by decide +kernel, rfl, by decide +kernel, by decide +kernel⟩
abbrev s__law_whole : Stmt := topS 30
theorem sc__law_whole : FnScope N__law_whole ["found"] (defScope s__law_whole) := ⟨rfl, rfl, rfl, by decide +kernel, rfl, by decide +kernel, by decide +kernel⟩
abbrev s__law_next : Stmt := topS 31
theorem sc__law_next : FnScope N__law_next ["seed"] (defScope s__law_next) := ⟨rfl, rfl, rfl, by decide +kernel, rfl, by decide +kernel, by decide +kernel⟩
abbrev s__law_row : Stmt := topS 32
theorem sc__law_row : FnScope N__law_row ["cell", "steps", "way", "great"] (defScope s__law_row) := ⟨rfl, rfl, rfl, by decide +kernel, rfl, by decide +kernel, by decide +kernel⟩
abbrev s__law_sign : Stmt := topS 33
theorem sc__law_sign : FnScope N__law_sign ["place", "choice"] (defScope s__law_sign) := ⟨rfl, rfl, rfl, by decide +kernel, rfl, by decide +kernel, by decide +kernel⟩
abbrev s__law_sums : Stmt := topS 34
theorem sc__law_sums : FnScope N__law_sums ["row"] (defScope s__law_sums) := ⟨rfl, rfl, rfl, by decide +kernel, rfl, by decide +kernel, by decide +kernel⟩
abbrev s__law_alike : Stmt := topS 35
theorem sc__law_alike : FnScope N__law_alike ["found", "due"] (defScope s__law_alike) := ⟨rfl, rfl, rfl, by decide +kernel, rfl, by decide +kernel, by decide +kernel⟩
abbrev s__law_kind : Stmt := topS 36
theorem sc__law_kind : FnScope N__law_kind ["e"] (defScope s__law_kind) := ⟨rfl, rfl, rfl, by decide +kernel, rfl, by decide +kernel, by decide +kernel⟩
abbrev s__law_tried : Stmt := topS 37
theorem sc__law_tried : FnScope N__law_tried ["steps"] (defScope s__law_tried) := ⟨rfl, rfl, rfl, by decide +kernel, rfl, by decide +kernel, by decide +kernel⟩
abbrev s__law_is_flat : Stmt := topS 38
theorem sc__law_is_flat : FnScope N__law_is_flat ["row"] (defScope s__law_is_flat) := ⟨rfl, rfl, rfl, by decide +kernel, rfl, by decide +kernel, by decide +kernel⟩
abbrev s__law_held : Stmt := topS 39
theorem sc__law_held : FnScope N__law_held ["row"] (defScope s__law_held) := ⟨rfl, rfl, rfl, by decide +kernel, rfl, by decide +kernel, by decide +kernel⟩
abbrev s_law : Stmt := topS 40
theorem sc_law : FnScope N_law ["script"] (defScope s_law) := ⟨rfl, rfl, rfl, by decide +kernel, rfl, by decide +kernel, by decide +kernel⟩
/-! ### what the top has written -/
structure Txt (K : PySem.W.Frag) (mg : Str → Option Value) where
  ValueError : mg "ValueError" = none
  abs : mg "abs" = none
  all : mg "all" = none
  bool : mg "bool" = none
  int : mg "int" = none
  isinstance : mg "isinstance" = none
  len : mg "len" = none
  list : mg "list" = none
  range : mg "range" = none
  set : mg "set" = none
  sum : mg "sum" = none
  m_SignError : mg "SignError" = some (.ref (He.ga K "SignError"))
  x_SignError : XOk K (He.ga K "SignError")
  m_NoRow : mg "NoRow" = some (.ref (He.ga K "NoRow"))
  x_NoRow : XOk K (He.ga K "NoRow")
  m_NoSums : mg "NoSums" = some (.ref (He.ga K "NoSums"))
  x_NoSums : XOk K (He.ga K "NoSums")
  m_NoMatch : mg "NoMatch" = some (.ref (He.ga K "NoMatch"))
  x_NoMatch : XOk K (He.ga K "NoMatch")
  m_TooLong : mg "TooLong" = some (.ref (He.ga K "TooLong"))
  x_TooLong : XOk K (He.ga K "TooLong")
  m_NoStep : mg "NoStep" = some (.ref (He.ga K "NoStep"))
  x_NoStep : XOk K (He.ga K "NoStep")
  m_NoSigns : mg "NoSigns" = some (.ref (He.ga K "NoSigns"))
  x_NoSigns : XOk K (He.ga K "NoSigns")
  m_NoChoice : mg "NoChoice" = some (.ref (He.ga K "NoChoice"))
  x_NoChoice : XOk K (He.ga K "NoChoice")
  m_NoFlat : mg "NoFlat" = some (.ref (He.ga K "NoFlat"))
  x_NoFlat : XOk K (He.ga K "NoFlat")
  m_NoNote : mg "NoNote" = some (.ref (He.ga K "NoNote"))
  x_NoNote : XOk K (He.ga K "NoNote")
  m_LENGTHS : mg "LENGTHS" = some (.ref (He.ga K "LENGTHS"))
  v_LENGTHS : ∀ H : Hp, SqT K H (He.ga K "LENGTHS") [.int 1, .int 2, .int 4, .int 8, .int 16, .int 32]
  m_MOST : ∃ t, mg "MOST" = some (.int 100000000000000000000 t)
  m_MOST_LONG : ∃ t, mg "MOST_LONG" = some (.int 32 t)
  m_FLAT_FOUR : mg "FLAT_FOUR" = some (.ref (He.ga K "FLAT_FOUR"))
  v_FLAT_FOUR : ∀ H : Hp, SqT K H (He.ga K "FLAT_FOUR") [.int 1, .int 1, .int 1, .int (-1)]
  kinds : KindsOk K
  c_NoRow : PySem.W.exmOne K (.ref (He.ga K "NoRow")) (.ref (He.ga K "SignError")) = some true
  c_NoSums : PySem.W.exmOne K (.ref (He.ga K "NoSums")) (.ref (He.ga K "SignError")) = some true
  c_NoMatch : PySem.W.exmOne K (.ref (He.ga K "NoMatch")) (.ref (He.ga K "SignError")) = some true
  c_TooLong : PySem.W.exmOne K (.ref (He.ga K "TooLong")) (.ref (He.ga K "SignError")) = some true
  c_NoStep : PySem.W.exmOne K (.ref (He.ga K "NoStep")) (.ref (He.ga K "SignError")) = some true
  c_NoSigns : PySem.W.exmOne K (.ref (He.ga K "NoSigns")) (.ref (He.ga K "SignError")) = some true
  c_NoChoice : PySem.W.exmOne K (.ref (He.ga K "NoChoice")) (.ref (He.ga K "SignError")) = some true
  c_NoFlat : PySem.W.exmOne K (.ref (He.ga K "NoFlat")) (.ref (He.ga K "SignError")) = some true
  c_NoNote : PySem.W.exmOne K (.ref (He.ga K "NoNote")) (.ref (He.ga K "SignError")) = some true
  d_ask_row : FuncData
  g_ask_row : mg "ask_row" = some (.ref (He.ga K "ask_row"))
  F_ask_row : Fun K "ask_row" "ask_row" s_ask_row (He.ga K "ask_row") d_ask_row
  b_ask_row : Binds K d_ask_row ["row"] []
  d_summed : FuncData
  g_summed : mg "summed" = some (.ref (He.ga K "summed"))
  F_summed : Fun K "summed" "summed" s_summed (He.ga K "summed") d_summed
  b_summed : Binds K d_summed ["row"] []
  d_tied : FuncData
  g_tied : mg "tied" = some (.ref (He.ga K "tied"))
  F_tied : Fun K "tied" "tied" s_tied (He.ga K "tied") d_tied
  b_tied : Binds K d_tied ["one", "other"] []
  d_ask_steps : FuncData
  g_ask_steps : mg "ask_steps" = some (.ref (He.ga K "ask_steps"))
  F_ask_steps : Fun K "ask_steps" "ask_steps" s_ask_steps (He.ga K "ask_steps") d_ask_steps
  b_ask_steps : Binds K d_ask_steps ["steps"] []
  d_are_signs : FuncData
  g_are_signs : mg "are_signs" = some (.ref (He.ga K "are_signs"))
  F_are_signs : Fun K "are_signs" "are_signs" s_are_signs (He.ga K "are_signs") d_are_signs
  b_are_signs : Binds K d_are_signs ["row"] []
  d_ask_signs : FuncData
  g_ask_signs : mg "ask_signs" = some (.ref (He.ga K "ask_signs"))
  F_ask_signs : Fun K "ask_signs" "ask_signs" s_ask_signs (He.ga K "ask_signs") d_ask_signs
  b_ask_signs : Binds K d_ask_signs ["row"] []
  d_nearest : FuncData
  g_nearest : mg "nearest" = some (.ref (He.ga K "nearest"))
  F_nearest : Fun K "nearest" "nearest" s_nearest (He.ga K "nearest") d_nearest
  b_nearest : Binds K d_nearest ["row"] []
  d_is_flat : FuncData
  g_is_flat : mg "is_flat" = some (.ref (He.ga K "is_flat"))
  F_is_flat : Fun K "is_flat" "is_flat" s_is_flat (He.ga K "is_flat") d_is_flat
  b_is_flat : Binds K d_is_flat ["row"] []
  d_flat : FuncData
  g_flat : mg "flat" = some (.ref (He.ga K "flat"))
  F_flat : Fun K "flat" "flat" s_flat (He.ga K "flat") d_flat
  b_flat : Binds K d_flat ["steps"] []
  d__law_cell_at : FuncData
  g__law_cell_at : mg "_law_cell_at" = some (.ref (He.ga K "_law_cell_at"))
  F__law_cell_at : Fun K "_law_cell_at" "_law_cell_at" s__law_cell_at (He.ga K "_law_cell_at") d__law_cell_at
  b__law_cell_at : Binds K d__law_cell_at ["script", "k"] []
  d__law_whole : FuncData
  g__law_whole : mg "_law_whole" = some (.ref (He.ga K "_law_whole"))
  F__law_whole : Fun K "_law_whole" "_law_whole" s__law_whole (He.ga K "_law_whole") d__law_whole
  b__law_whole : Binds K d__law_whole ["found"] []
  d__law_next : FuncData
  g__law_next : mg "_law_next" = some (.ref (He.ga K "_law_next"))
  F__law_next : Fun K "_law_next" "_law_next" s__law_next (He.ga K "_law_next") d__law_next
  b__law_next : Binds K d__law_next ["seed"] []
  d__law_row : FuncData
  g__law_row : mg "_law_row" = some (.ref (He.ga K "_law_row"))
  F__law_row : Fun K "_law_row" "_law_row" s__law_row (He.ga K "_law_row") d__law_row
  b__law_row : Binds K d__law_row ["cell", "steps", "way", "great"] []
  d__law_sign : FuncData
  g__law_sign : mg "_law_sign" = some (.ref (He.ga K "_law_sign"))
  F__law_sign : Fun K "_law_sign" "_law_sign" s__law_sign (He.ga K "_law_sign") d__law_sign
  b__law_sign : Binds K d__law_sign ["place", "choice"] []
  d__law_sums : FuncData
  g__law_sums : mg "_law_sums" = some (.ref (He.ga K "_law_sums"))
  F__law_sums : Fun K "_law_sums" "_law_sums" s__law_sums (He.ga K "_law_sums") d__law_sums
  b__law_sums : Binds K d__law_sums ["row"] []
  d__law_alike : FuncData
  g__law_alike : mg "_law_alike" = some (.ref (He.ga K "_law_alike"))
  F__law_alike : Fun K "_law_alike" "_law_alike" s__law_alike (He.ga K "_law_alike") d__law_alike
  b__law_alike : Binds K d__law_alike ["found", "due"] []
  d__law_kind : FuncData
  g__law_kind : mg "_law_kind" = some (.ref (He.ga K "_law_kind"))
  F__law_kind : Fun K "_law_kind" "_law_kind" s__law_kind (He.ga K "_law_kind") d__law_kind
  b__law_kind : Binds K d__law_kind ["e"] []
  d__law_tried : FuncData
  g__law_tried : mg "_law_tried" = some (.ref (He.ga K "_law_tried"))
  F__law_tried : Fun K "_law_tried" "_law_tried" s__law_tried (He.ga K "_law_tried") d__law_tried
  b__law_tried : Binds K d__law_tried ["steps"] []
  d__law_is_flat : FuncData
  g__law_is_flat : mg "_law_is_flat" = some (.ref (He.ga K "_law_is_flat"))
  F__law_is_flat : Fun K "_law_is_flat" "_law_is_flat" s__law_is_flat (He.ga K "_law_is_flat") d__law_is_flat
  b__law_is_flat : Binds K d__law_is_flat ["row"] []
  d__law_held : FuncData
  g__law_held : mg "_law_held" = some (.ref (He.ga K "_law_held"))
  F__law_held : Fun K "_law_held" "_law_held" s__law_held (He.ga K "_law_held") d__law_held
  b__law_held : Binds K d__law_held ["row"] []
  d_law : FuncData
  g_law : mg "law" = some (.ref (He.ga K "law"))
  F_law : Fun K "law" "law" s_law (He.ga K "law") d_law
  b_law : Binds K d_law ["script"] []
end Sg
namespace Sg
open PySem PySem.Spec PyProof.Rows L2 Evl
section
variable {P : Program} {w : World} {K : PySem.W.Frag} {mg : Str → Option Value} {base : Heap}
theorem ok_ask_row (T : Txt K mg) : FnOk P w K mg base (L2.CX P w) 1 (He.ga K "ask_row") T.d_ask_row ["row"] (sp_ask_row K) := by
  refine T.F_ask_row.okX sc_ask_row len_ask_row (fun cdv A outer s H vs Q E hr h => ⟨t_ask_row K E, ?_, pure_ask_row (T.v_LENGTHS) vs H Q E h⟩)
  exact (pss_cons (ps_if (pt_cmpR op_notIn_seq (pe_callB call_len_seq (by rfl) T.len PySem.boot_len (pa_cons (pv 0) pa_nil)) (pe_glob (v := .ref (He.ga K "LENGTHS")) (by rfl) T.m_LENGTHS rfl) (by rfl))
   (pss_one (ps_raise rfl (takes_of rfl rfl rfl rfl) (pmk_own PySem.F.excBase_ValueError T.x_NoRow.ok T.m_NoRow T.x_NoRow.kp (raises_own T.x_NoRow.sb T.x_NoRow.ty) (by exact rfl))))
   pss_nil)
  (pss_one (ps_for (passes_of rfl) rfl (pi_list (pv 0)) (pg_name (i := 1) sc_ask_row.nd rfl (Or.inl rfl))
   (pss_one (ps_if (pt_not (pt_chain op_le op_le (pe_un un_neg (pe_glob (by rfl) T.m_MOST.choose_spec ⟨_, rfl⟩)) (pv 1) (pe_glob (by rfl) T.m_MOST.choose_spec ⟨_, rfl⟩)))
    (pss_one (ps_raise rfl (takes_of rfl rfl rfl rfl) (pmk_own PySem.F.excBase_ValueError T.x_NoRow.ok T.m_NoRow T.x_NoRow.kp (raises_own T.x_NoRow.sb T.x_NoRow.ty) (by exact rfl))))
    pss_nil)))))
theorem ok_summed (T : Txt K mg) : FnOk P w K mg base CX0 1 (He.ga K "summed") T.d_summed ["row"] (sp_summed K) := by
  refine T.F_summed.ok sc_summed len_summed (fun cdv A outer s H vs Q E hr h => ⟨t_summed K, ?_, pure_summed vs H Q E h⟩)
  exact (pss_cons (ps_set (i := 1) sc_summed.nd rfl (Or.inl rfl) (pe_callTy call_list_of (by rfl) T.list (by decide +kernel) (pa_cons (pv 0) pa_nil)))
  (pss_cons (ps_set (i := 2) sc_summed.nd rfl (Or.inl rfl) pe_int)
  (pss_cons (ps_while PassesOwn.never (pt_cmpR op_lt (pv 2) (pe_callB call_len_seq (by rfl) T.len PySem.boot_len (pa_cons (pv 1) pa_nil)) (nomark _))
   (pss_cons (ps_set (i := 3) sc_summed.nd rfl (Or.inl rfl) (pe_callTy call_list_of (by rfl) T.list (by decide +kernel) (pa_cons (pv 1) pa_nil)))
   (pss_cons (ps_for PassesOwn.never rfl (pi_range1 (by rfl) T.range (pa_cons (pe_callB call_len_seq (by rfl) T.len PySem.boot_len (pa_cons (pv 1) pa_nil)) pa_nil)) (pg_name (i := 4) sc_summed.nd rfl (Or.inl rfl))
    (pss_one (ps_if (pt_cmpR op_eq (pe_op op_mod (pe_op op_fdiv (pv 4) (pv 2)) pe_int) pe_int (nomark _))
     (pss_cons (ps_asg (pe_op op_add (pe_ix ix_list (pv 1) (pv 4) (fun _ _ => rfl)) (pe_ix ix_list (pv 1) (pe_op op_add (pv 4) (pv 2)) (fun _ _ => rfl))) (pg_sub (pv 3) (pv 4) set_list))
     (pss_one (ps_asg (pe_op op_sub (pe_ix ix_list (pv 1) (pv 4) (fun _ _ => rfl)) (pe_ix ix_list (pv 1) (pe_op op_add (pv 4) (pv 2)) (fun _ _ => rfl))) (pg_sub (pv 3) (pe_op op_add (pv 4) (pv 2)) set_list))))
     pss_nil)))
   (pss_cons (ps_set (i := 1) sc_summed.nd rfl (Or.inl rfl) (pv 3))
   (pss_one (ps_set (i := 2) sc_summed.nd rfl (Or.inl rfl) (pe_op op_mulW pe_int (pv 2))))))))
  (pss_one (ps_ret (pv 1))))))
theorem ok_tied (T : Txt K mg) (G_ask_row : FnOk P w K mg base (L2.CX P w) 1 (He.ga K "ask_row") T.d_ask_row ["row"] (sp_ask_row K)) : FnOk P w K mg base (L2.CX P w) 2 (He.ga K "tied") T.d_tied ["one", "other"] (sp_tied K) := by
  refine T.F_tied.okX sc_tied len_tied (fun cdv A outer s H vs Q E hr h => ⟨t_tied K E, ?_, pure_tied vs H Q E h⟩)
  exact (pss_cons (ps_expr (pe_call G_ask_row (hr.mono (by decide)) (by rfl) T.g_ask_row T.F_ask_row.kp T.b_ask_row .nil (passes_call (takes_of rfl rfl rfl rfl) (fun _ _ _ _ h => h)) (pa_cons (pv 0) pa_nil)))
  (pss_cons (ps_expr (pe_call G_ask_row (hr.mono (by decide)) (by rfl) T.g_ask_row T.F_ask_row.kp T.b_ask_row .nil (passes_call (takes_of rfl rfl rfl rfl) (fun _ _ _ _ h => h)) (pa_cons (pv 1) pa_nil)))
  (pss_cons (ps_if (pt_cmpR op_gt (pe_op op_mulW (pe_callB call_len_seq (by rfl) T.len PySem.boot_len (pa_cons (pv 0) pa_nil)) (pe_callB call_len_seq (by rfl) T.len PySem.boot_len (pa_cons (pv 1) pa_nil))) (pe_glob (by rfl) T.m_MOST_LONG.choose_spec ⟨_, rfl⟩) (nomark _))
   (pss_one (ps_raise rfl (takes_of rfl rfl rfl rfl) (pmk_own PySem.F.excBase_ValueError T.x_TooLong.ok T.m_TooLong T.x_TooLong.kp (raises_own T.x_TooLong.sb T.x_TooLong.ty) (by exact rfl))))
   pss_nil)
  (pss_cons (ps_set (i := 2) sc_tied.nd rfl (Or.inl rfl) (pe_lst pa_nil))
  (pss_cons (ps_for (passes_of rfl) rfl (pi_list (pv 1)) (pg_name (i := 3) sc_tied.nd rfl (Or.inr rfl))
   (pss_one (ps_set (i := 2) sc_tied.nd rfl (Or.inl rfl) (pe_op op_cat (pv 2) (pe_lc (own := [("mine", 4)]) (g := (gName 4)) (tt := tYes) rfl sc_tied.nd (pi_list (pv 0)) (blkOk_by (own := [("mine", 4)]) (N := N_tied) (sc := defScope s_tied) (by decide +kernel)) (fun _ _ _ _ _ => pg_name (i := 4) sc_tied.nd rfl (Or.inl rfl)) (fun _ _ _ _ _ => pts_nil) (fun _ _ _ _ _ => (pe_op op_mulW (pv 4) (pv 3))))))))
  (pss_one (ps_ret (pv 2))))))))
theorem ok_ask_steps (T : Txt K mg) : FnOk P w K mg base (L2.CX P w) 1 (He.ga K "ask_steps") T.d_ask_steps ["steps"] (sp_ask_steps K) := by
  refine T.F_ask_steps.okX sc_ask_steps len_ask_steps (fun cdv A outer s H vs Q E hr h => ⟨t_ask_steps K E, ?_, pure_ask_steps vs H Q E h⟩)
  exact (pss_one (ps_if (pt_not (pt_chain op_le op_le pe_int (pv 0) pe_int))
   (pss_one (ps_raise rfl (takes_of rfl rfl rfl rfl) (pmk_own PySem.F.excBase_ValueError T.x_NoStep.ok T.m_NoStep T.x_NoStep.kp (raises_own T.x_NoStep.sb T.x_NoStep.ty) (by exact rfl))))
   pss_nil))
theorem ok_are_signs (T : Txt K mg) : FnOk P w K mg base CX0 1 (He.ga K "are_signs") T.d_are_signs ["row"] (sp_are_signs K) := by
  refine T.F_are_signs.ok sc_are_signs len_are_signs (fun cdv A outer s H vs Q E hr h => ⟨t_are_signs K, ?_, pure_are_signs vs H Q E h⟩)
  exact (pss_one (ps_ret (pe_callB (cr_all rfl) (by rfl) T.all (by decide +kernel) (pa_cons (pe_lc (own := [("number", 1)]) (g := (gName 1)) (tt := tYes) rfl sc_are_signs.nd (pi_list (pv 0)) (blkOk_by (own := [("number", 1)]) (N := N_are_signs) (sc := defScope s_are_signs) (by decide +kernel)) (fun _ _ _ _ _ => pg_name (i := 1) sc_are_signs.nd rfl (Or.inl rfl)) (fun _ _ _ _ _ => pts_nil) (fun _ _ _ _ _ => (pe_cmpR op_in_seq (pv 1) (pe_tup (pa_cons pe_int (pa_cons (pe_un un_neg pe_int) pa_nil))) (by rfl)))) pa_nil))))
theorem ok_ask_signs (T : Txt K mg) (G_are_signs : FnOk P w K mg base CX0 1 (He.ga K "are_signs") T.d_are_signs ["row"] (sp_are_signs K)) : FnOk P w K mg base (L2.CX P w) 2 (He.ga K "ask_signs") T.d_ask_signs ["row"] (sp_ask_signs K) := by
  refine T.F_ask_signs.okX sc_ask_signs len_ask_signs (fun cdv A outer s H vs Q E hr h => ⟨t_ask_signs K E, ?_, pure_ask_signs vs H Q E h⟩)
  exact (pss_one (ps_if (pt_not (pt_val (pe_call G_are_signs (hr.mono (by decide)) (by rfl) T.g_are_signs T.F_are_signs.kp T.b_are_signs .nil pass0 (pa_cons (pv 0) pa_nil))))
   (pss_one (ps_raise rfl (takes_of rfl rfl rfl rfl) (pmk_own PySem.F.excBase_ValueError T.x_NoSigns.ok T.m_NoSigns T.x_NoSigns.kp (raises_own T.x_NoSigns.sb T.x_NoSigns.ty) (by exact rfl))))
   pss_nil))
theorem ok_nearest (T : Txt K mg) (G_ask_row : FnOk P w K mg base (L2.CX P w) 1 (He.ga K "ask_row") T.d_ask_row ["row"] (sp_ask_row K)) (G_ask_signs : FnOk P w K mg base (L2.CX P w) 2 (He.ga K "ask_signs") T.d_ask_signs ["row"] (sp_ask_signs K)) (G_summed : FnOk P w K mg base CX0 1 (He.ga K "summed") T.d_summed ["row"] (sp_summed K)) : FnOk P w K mg base (L2.CX P w) 3 (He.ga K "nearest") T.d_nearest ["row"] (sp_nearest K) := by
  refine T.F_nearest.okX sc_nearest len_nearest (fun cdv A outer s H vs Q E hr h => ⟨t_nearest K E, ?_, pure_nearest vs H Q E h⟩)
  exact (pss_cons (ps_expr (pe_call G_ask_row (hr.mono (by decide)) (by rfl) T.g_ask_row T.F_ask_row.kp T.b_ask_row .nil (passes_call (takes_of rfl rfl rfl rfl) (fun _ _ _ _ h => h)) (pa_cons (pv 0) pa_nil)))
  (pss_cons (ps_expr (pe_call G_ask_signs (hr.mono (by decide)) (by rfl) T.g_ask_signs T.F_ask_signs.kp T.b_ask_signs .nil (passes_call (takes_of rfl rfl rfl rfl) (fun _ _ _ _ h => h)) (pa_cons (pv 0) pa_nil)))
  (pss_cons (ps_set (i := 1) sc_nearest.nd rfl (Or.inl rfl) (pe_call G_summed (hr.mono (by decide)) (by rfl) T.g_summed T.F_summed.kp T.b_summed .nil pass0 (pa_cons (pv 0) pa_nil)))
  (pss_cons (ps_set (i := 2) sc_nearest.nd rfl (Or.inl rfl) pe_non)
  (pss_cons (ps_for (passes_of rfl) rfl (pi_range1 (by rfl) T.range (pa_cons (pe_callB call_len_seq (by rfl) T.len PySem.boot_len (pa_cons (pv 0) pa_nil)) pa_nil)) (pg_name (i := 3) sc_nearest.nd rfl (Or.inl rfl))
   (pss_one (ps_for (passes_of rfl) rfl (pi_tup (pe_tup (pa_cons pe_bl (pa_cons pe_bl pa_nil)))) (pg_name (i := 4) sc_nearest.nd rfl (Or.inl rfl))
    (pss_cons (ps_set (i := 5) sc_nearest.nd rfl (Or.inl rfl) (pe_ix ix_list (pv 1) (pv 3) (fun _ _ => rfl)))
    (pss_cons (ps_if (pt_val (pv 4))
     (pss_one (ps_set (i := 5) sc_nearest.nd rfl (Or.inl rfl) (pe_op op_sub pe_int (pv 5))))
     pss_nil)
    (pss_cons (ps_set (i := 6) sc_nearest.nd rfl (Or.inl rfl) (pe_op op_fdiv (pe_op op_sub (pe_callB call_len_seq (by rfl) T.len PySem.boot_len (pa_cons (pv 0) pa_nil)) (pv 5)) pe_int))
    (pss_one (ps_if (PW.pt (pw_or (pt_cmpR op_isN (pv 2) pe_non (nomark _)) (pw_or1 (pt_cmpR op_lt (pv 6) (pe_ix ix_tup (pv 2) pe_int (fun _ _ => rfl)) (nomark _)))))
     (pss_one (ps_set (i := 2) sc_nearest.nd rfl (Or.inl rfl) (pe_tup (pa_cons (pv 3) (pa_cons (pv 4) (pa_cons (pv 6) pa_nil))))))
     pss_nil))))))))
  (pss_one (ps_ret (pv 2))))))))
theorem ok_is_flat (T : Txt K mg) (G_ask_row : FnOk P w K mg base (L2.CX P w) 1 (He.ga K "ask_row") T.d_ask_row ["row"] (sp_ask_row K)) (G_ask_signs : FnOk P w K mg base (L2.CX P w) 2 (He.ga K "ask_signs") T.d_ask_signs ["row"] (sp_ask_signs K)) (G_summed : FnOk P w K mg base CX0 1 (He.ga K "summed") T.d_summed ["row"] (sp_summed K)) : FnOk P w K mg base (L2.CX P w) 3 (He.ga K "is_flat") T.d_is_flat ["row"] (sp_is_flat K) := by
  refine T.F_is_flat.okX sc_is_flat len_is_flat (fun cdv A outer s H vs Q E hr h => ⟨t_is_flat K E, ?_, pure_is_flat vs H Q E h⟩)
  exact (pss_cons (ps_expr (pe_call G_ask_row (hr.mono (by decide)) (by rfl) T.g_ask_row T.F_ask_row.kp T.b_ask_row .nil (passes_call (takes_of rfl rfl rfl rfl) (fun _ _ _ _ h => h)) (pa_cons (pv 0) pa_nil)))
  (pss_cons (ps_expr (pe_call G_ask_signs (hr.mono (by decide)) (by rfl) T.g_ask_signs T.F_ask_signs.kp T.b_ask_signs .nil (passes_call (takes_of rfl rfl rfl rfl) (fun _ _ _ _ h => h)) (pa_cons (pv 0) pa_nil)))
  (pss_one (ps_ret (pe_cmpR op_eq (pe_lenSet (by rfl) T.len (by rfl) T.set (pe_lc (own := [("number", 1)]) (g := (gName 1)) (tt := tYes) rfl sc_is_flat.nd (pi_list (pe_call G_summed (hr.mono (by decide)) (by rfl) T.g_summed T.F_summed.kp T.b_summed .nil pass0 (pa_cons (pv 0) pa_nil))) (blkOk_by (own := [("number", 1)]) (N := N_is_flat) (sc := defScope s_is_flat) (by decide +kernel)) (fun _ _ _ _ _ => pg_name (i := 1) sc_is_flat.nd rfl (Or.inl rfl)) (fun _ _ _ _ _ => pts_nil) (fun _ _ _ _ _ => (pe_callB call_abs (by rfl) T.abs (by decide +kernel) (pa_cons (pv 1) pa_nil))))) pe_int (nomark _))))))
theorem ok_flat (T : Txt K mg) (G_ask_steps : FnOk P w K mg base (L2.CX P w) 1 (He.ga K "ask_steps") T.d_ask_steps ["steps"] (sp_ask_steps K)) (G_tied : FnOk P w K mg base (L2.CX P w) 2 (He.ga K "tied") T.d_tied ["one", "other"] (sp_tied K)) : FnOk P w K mg base (L2.CX P w) 3 (He.ga K "flat") T.d_flat ["steps"] (sp_flat K) := by
  refine T.F_flat.okX sc_flat len_flat (fun cdv A outer s H vs Q E hr h => ⟨t_flat K E, ?_, pure_flat (T.v_FLAT_FOUR) vs H Q E h⟩)
  exact (pss_cons (ps_expr (pe_call G_ask_steps (hr.mono (by decide)) (by rfl) T.g_ask_steps T.F_ask_steps.kp T.b_ask_steps .nil (passes_call (takes_of rfl rfl rfl rfl) (fun _ _ _ _ h => h)) (pa_cons (pv 0) pa_nil)))
  (pss_cons (ps_if (pt_cmpR op_eq (pe_op op_mod (pv 0) pe_int) pe_int (nomark _))
   (pss_one (ps_raise rfl (takes_of rfl rfl rfl rfl) (pmk_own PySem.F.excBase_ValueError T.x_NoFlat.ok T.m_NoFlat T.x_NoFlat.kp (raises_own T.x_NoFlat.sb T.x_NoFlat.ty) (by exact rfl))))
   pss_nil)
  (pss_cons (ps_set (i := 1) sc_flat.nd rfl (Or.inl rfl) (pe_lst (pa_cons pe_int pa_nil)))
  (pss_cons (ps_for (passes_of rfl) rfl (pi_range1 (by rfl) T.range (pa_cons (pe_op op_fdiv (pv 0) pe_int) pa_nil)) (pg_name (i := 2) sc_flat.nd rfl (Or.inl rfl))
   (pss_one (ps_set (i := 1) sc_flat.nd rfl (Or.inl rfl) (pe_call G_tied (hr.mono (by decide)) (by rfl) T.g_tied T.F_tied.kp T.b_tied .nil (passes_call (takes_of rfl rfl rfl rfl) (fun _ _ _ _ h => h)) (pa_cons (pv 1) (pa_cons (pe_callTy call_list_of (by rfl) T.list (by decide +kernel) (pa_cons (pe_glob (v := .ref (He.ga K "FLAT_FOUR")) (by rfl) T.m_FLAT_FOUR rfl) pa_nil)) pa_nil))))))
  (pss_one (ps_ret (pv 1)))))))
theorem ok_law_cell_at (T : Txt K mg) : FnOk P w K mg base CX0 1 (He.ga K "_law_cell_at") T.d__law_cell_at ["script", "k"] (sp_law_cell_at K) := by
  refine T.F__law_cell_at.ok sc__law_cell_at len_law_cell_at (fun cdv A outer s H vs Q E hr h => ⟨t_law_cell_at K, ?_, pure_law_cell_at vs H Q E h⟩)
  exact (pss_cons (ps_if (pt_cmpR op_lt (pv 1) (pe_callB call_len_seq (by rfl) T.len PySem.boot_len (pa_cons (pv 0) pa_nil)) (nomark _))
   (pss_one (ps_ret (pe_ix ix_list (pv 0) (pv 1) (fun _ _ => rfl))))
   pss_nil)
  (pss_one (ps_ret pe_int)))
theorem ok_law_whole (T : Txt K mg) : FnOk P w K mg base CX0 1 (He.ga K "_law_whole") T.d__law_whole ["found"] (sp_law_whole K) := by
  refine T.F__law_whole.ok sc__law_whole len_law_whole (fun cdv A outer s H vs Q E hr h => ⟨t_law_whole K, ?_, pure_law_whole vs H Q E h⟩)
  exact (pss_one (ps_ret (pe_and (pe_callB call_isi (by rfl) T.isinstance (by decide +kernel) (pa_cons (pv 0) (pa_cons (pe_bltn (v := .ty "int") (by rfl) T.int (by decide +kernel) rfl) pa_nil))) (pe_one (pe_not (pe_callB call_isi (by rfl) T.isinstance (by decide +kernel) (pa_cons (pv 0) (pa_cons (pe_bltn (v := .ty "bool") (by rfl) T.bool (by decide +kernel) rfl) pa_nil))))))))
theorem ok_law_next (T : Txt K mg) : FnOk P w K mg base CX0 1 (He.ga K "_law_next") T.d__law_next ["seed"] (sp_law_next K) := by
  refine T.F__law_next.ok sc__law_next len_law_next (fun cdv A outer s H vs Q E hr h => ⟨t_law_next K, ?_, pure_law_next vs H Q E h⟩)
  exact (pss_cons (ps_set (i := 0) sc__law_next.nd rfl (Or.inl rfl) (pe_op op_mod (pe_op op_add (pv 0) pe_int) pe_int))
  (pss_one (ps_ret (pe_op op_mod (pe_op op_add (pe_op op_add (pe_op op_mulW (pv 0) (pv 0)) (pe_op op_mulW pe_int (pv 0))) pe_int) pe_int))))
theorem ok_law_row (T : Txt K mg) (G_law_next : FnOk P w K mg base CX0 1 (He.ga K "_law_next") T.d__law_next ["seed"] (sp_law_next K)) : FnOk P w K mg base CX0 2 (He.ga K "_law_row") T.d__law_row ["cell", "steps", "way", "great"] (sp_law_row K) := by
  refine T.F__law_row.ok sc__law_row len_law_row (fun cdv A outer s H vs Q E hr h => ⟨t_law_row K, ?_, pure_law_row vs H Q E h⟩)
  exact (pss_cons (ps_set (i := 4) sc__law_row.nd rfl (Or.inl rfl) (pe_lst pa_nil))
  (pss_cons (ps_for PassesOwn.never rfl (pi_range1 (by rfl) T.range (pa_cons (pe_ix ix_list (pe_lst (pa_cons pe_int (pa_cons pe_int (pa_cons pe_int (pa_cons pe_int (pa_cons pe_int (pa_cons pe_int pa_nil))))))) (pv 1) (fun _ _ => rfl)) pa_nil)) (pg_name (i := 5) sc__law_row.nd rfl (Or.inl rfl))
   (pss_cons (ps_set (i := 0) sc__law_row.nd rfl (Or.inl rfl) (pe_call G_law_next (hr.mono (by decide)) (by rfl) T.g__law_next T.F__law_next.kp T.b__law_next .nil pass0 (pa_cons (pe_op op_add (pe_op op_mod (pv 0) pe_int) (pe_op op_mulW pe_int (pv 5))) pa_nil)))
   (pss_cons (ps_set (i := 6) sc__law_row.nd rfl (Or.inl rfl) (pe_op op_sub (pe_op op_mod (pe_op op_fdiv (pv 0) pe_int) pe_int) pe_int))
   (pss_cons (ps_if (pt_cmpR op_eq (pe_op op_mod (pe_op op_fdiv (pv 2) pe_int) pe_int) pe_int (nomark _))
    (pss_one (ps_set (i := 6) sc__law_row.nd rfl (Or.inl rfl) (pe_op op_add (pe_op op_mulW (pv 6) (pv 3)) (pe_op op_mulW (pe_op op_sub pe_int (pe_op op_mulW pe_int (pe_callTy call_int1 (by rfl) T.int (by decide +kernel) (pa_cons (pe_cmpR op_lt (pv 6) pe_int (nomark _)) pa_nil)))) (pe_op op_mod (pe_op op_fdiv (pv 0) pe_int) (pv 3))))))
    pss_nil)
   (pss_cons (ps_if (pt_cmpR op_eq (pe_op op_mod (pv 2) pe_int) pe_int (nomark _))
    (pss_one (ps_set (i := 6) sc__law_row.nd rfl (Or.inl rfl) (pe_op op_sub pe_int (pe_op op_mulW pe_int (pe_op op_mod (pe_op op_fdiv (pv 0) pe_int) pe_int)))))
    pss_nil)
   (pss_cons (ps_if (pt_cmpR op_eq (pe_op op_mod (pv 2) pe_int) pe_int (nomark _))
    (pss_one (ps_set (i := 6) sc__law_row.nd rfl (Or.inl rfl) (pe_op op_sub (pe_op op_mod (pe_op op_fdiv (pv 0) pe_int) pe_int) pe_int)))
    pss_nil)
   (pss_cons (ps_if (PW.pt (pw_and (pt_cmpR op_eq (pe_op op_mod (pv 2) pe_int) pe_int (nomark _)) (pw_and1 (pt_cmpR op_gt (pe_op op_mod (pe_op op_fdiv (pv 0) pe_int) pe_int) pe_int (nomark _)))))
    (pss_one (ps_set (i := 6) sc__law_row.nd rfl (Or.inl rfl) pe_int))
    pss_nil)
   (pss_one (ps_expr (pe_bm PySem.F.plainAttrs_list PySem.F.slot_list_append PySem.F.type_list_append mt_append (pv 4) (pa_cons (pv 6) pa_nil)))))))))))
  (pss_one (ps_ret (pv 4)))))
theorem ok_law_sign (T : Txt K mg) : FnOk P w K mg base CX0 1 (He.ga K "_law_sign") T.d__law_sign ["place", "choice"] (sp_law_sign K) := by
  refine T.F__law_sign.ok sc__law_sign len_law_sign (fun cdv A outer s H vs Q E hr h => ⟨t_law_sign K, ?_, pure_law_sign vs H Q E h⟩)
  exact (pss_cons (ps_set (i := 2) sc__law_sign.nd rfl (Or.inl rfl) pe_int)
  (pss_cons (ps_for PassesOwn.never rfl (pi_list (pe_lst (pa_cons pe_int (pa_cons pe_int (pa_cons pe_int (pa_cons pe_int (pa_cons pe_int pa_nil))))))) (pg_name (i := 3) sc__law_sign.nd rfl (Or.inl rfl))
   (pss_one (ps_if (PW.pt (pw_and (pt_cmpR op_eq (pe_op op_mod (pe_op op_fdiv (pv 0) (pv 3)) pe_int) pe_int (nomark _)) (pw_and1 (pt_cmpR op_eq (pe_op op_mod (pe_op op_fdiv (pv 1) (pv 3)) pe_int) pe_int (nomark _)))))
    (pss_one (ps_set (i := 2) sc__law_sign.nd rfl (Or.inl rfl) (pe_op op_sub pe_int (pv 2))))
    pss_nil)))
  (pss_one (ps_ret (pv 2)))))
theorem ok_law_sums (T : Txt K mg) (G_law_sign : FnOk P w K mg base CX0 1 (He.ga K "_law_sign") T.d__law_sign ["place", "choice"] (sp_law_sign K)) : FnOk P w K mg base CX0 2 (He.ga K "_law_sums") T.d__law_sums ["row"] (sp_law_sums K) := by
  refine T.F__law_sums.ok sc__law_sums len_law_sums (fun cdv A outer s H vs Q E hr h => ⟨t_law_sums K, ?_, pure_law_sums vs H Q E h⟩)
  exact (pss_cons (ps_set (i := 1) sc__law_sums.nd rfl (Or.inl rfl) (pe_lst pa_nil))
  (pss_cons (ps_for PassesOwn.never rfl (pi_range1 (by rfl) T.range (pa_cons (pe_callB call_len_seq (by rfl) T.len PySem.boot_len (pa_cons (pv 0) pa_nil)) pa_nil)) (pg_name (i := 2) sc__law_sums.nd rfl (Or.inr rfl))
   (pss_one (ps_expr (pe_bm PySem.F.plainAttrs_list PySem.F.slot_list_append PySem.F.type_list_append mt_append (pv 1) (pa_cons (pe_callB (cr_sum rfl) (by rfl) T.sum (by decide +kernel) (pa_cons (pe_lc (own := [("place", 3)]) (g := (gName 3)) (tt := tYes) rfl sc__law_sums.nd (pi_range1 (by rfl) T.range (pa_cons (pe_callB call_len_seq (by rfl) T.len PySem.boot_len (pa_cons (pv 0) pa_nil)) pa_nil)) (blkOk_by (own := [("place", 3)]) (N := N__law_sums) (sc := defScope s__law_sums) (by decide +kernel)) (fun _ _ _ _ _ => pg_name (i := 3) sc__law_sums.nd rfl (Or.inl rfl)) (fun _ _ _ _ _ => pts_nil) (fun _ _ _ _ _ => (pe_op op_mulW (pe_call G_law_sign (hr.mono (by decide)) (by rfl) T.g__law_sign T.F__law_sign.kp T.b__law_sign .nil pass0 (pa_cons (pv 3) (pa_cons (pv 2) pa_nil))) (pe_ix ix_list (pv 0) (pv 3) (fun _ _ => rfl))))) pa_nil)) pa_nil)))))
  (pss_one (ps_ret (pv 1)))))
theorem ok_law_alike (T : Txt K mg) (G_law_whole : FnOk P w K mg base CX0 1 (He.ga K "_law_whole") T.d__law_whole ["found"] (sp_law_whole K)) : FnOk P w K mg base CX0 2 (He.ga K "_law_alike") T.d__law_alike ["found", "due"] (sp_law_alike K) := by
  refine T.F__law_alike.ok sc__law_alike len_law_alike (fun cdv A outer s H vs Q E hr h => ⟨t_law_alike K, ?_, pure_law_alike vs H Q E h⟩)
  exact (pss_cons (ps_if (PW.pt (pw_or (pt_not (pt_val (pe_callB call_isi (by rfl) T.isinstance (by decide +kernel) (pa_cons (pv 0) (pa_cons (pe_bltn (v := .ty "list") (by rfl) T.list (by decide +kernel) rfl) pa_nil))))) (pw_or1 (pt_cmpR op_ne (pe_callB call_len_seq (by rfl) T.len PySem.boot_len (pa_cons (pv 0) pa_nil)) (pe_callB call_len_seq (by rfl) T.len PySem.boot_len (pa_cons (pv 1) pa_nil)) (nomark _)))))
   (pss_one (ps_ret pe_bl))
   pss_nil)
  (pss_cons (ps_for PassesOwn.never rfl (pi_range1 (by rfl) T.range (pa_cons (pe_callB call_len_seq (by rfl) T.len PySem.boot_len (pa_cons (pv 1) pa_nil)) pa_nil)) (pg_name (i := 2) sc__law_alike.nd rfl (Or.inl rfl))
   (pss_one (ps_if (PW.pt (pw_or (pt_not (pt_val (pe_call G_law_whole (hr.mono (by decide)) (by rfl) T.g__law_whole T.F__law_whole.kp T.b__law_whole .nil pass0 (pa_cons (pe_ix ix_list (pv 0) (pv 2) (fun _ _ => rfl)) pa_nil)))) (pw_or1 (pt_cmpR op_ne (pe_ix ix_list (pv 0) (pv 2) (fun _ _ => rfl)) (pe_ix ix_list (pv 1) (pv 2) (fun _ _ => rfl)) (nomark _)))))
    (pss_one (ps_ret pe_bl))
    pss_nil)))
  (pss_one (ps_ret pe_bl))))
theorem ok_law_kind (T : Txt K mg) : FnP P w K mg base 1 (He.ga K "_law_kind") T.d__law_kind "e" (KindR K) := by
  refine fun_okP T.F__law_kind sc__law_kind fun cdv A outer s H Q E p D t hz hf h q => ?_
  obtain ⟨c, hc, rfl⟩ := h
  refine ⟨t_law_kind K (He.ga K c) p.1, ?_, pure_law_kind T.kinds c p.1 t hc H Q E q⟩
  exact (pss_cons (ps_set (i := 1) sc__law_kind.nd rfl (Or.inl rfl) (pe_lst (pa_cons (pe_callB (call_isP (T.kinds.ex _ hc) List.mem_cons_self hz hf) (by rfl) T.isinstance (by decide +kernel) (pa_cons (pv 0) (pa_cons (pe_glob (v := .ref (He.ga K "NoRow")) (by rfl) T.m_NoRow rfl) pa_nil))) (pa_cons (pe_callB (call_isP (T.kinds.ex _ hc) List.mem_cons_self hz hf) (by rfl) T.isinstance (by decide +kernel) (pa_cons (pv 0) (pa_cons (pe_glob (v := .ref (He.ga K "NoSums")) (by rfl) T.m_NoSums rfl) pa_nil))) (pa_cons (pe_callB (call_isP (T.kinds.ex _ hc) List.mem_cons_self hz hf) (by rfl) T.isinstance (by decide +kernel) (pa_cons (pv 0) (pa_cons (pe_glob (v := .ref (He.ga K "NoMatch")) (by rfl) T.m_NoMatch rfl) pa_nil))) (pa_cons (pe_callB (call_isP (T.kinds.ex _ hc) List.mem_cons_self hz hf) (by rfl) T.isinstance (by decide +kernel) (pa_cons (pv 0) (pa_cons (pe_glob (v := .ref (He.ga K "TooLong")) (by rfl) T.m_TooLong rfl) pa_nil))) pa_nil))))))
  (pss_cons (ps_set (i := 1) sc__law_kind.nd rfl (Or.inl rfl) (pe_op op_cat (pv 1) (pe_lst (pa_cons (pe_callB (call_isP (T.kinds.ex _ hc) List.mem_cons_self hz hf) (by rfl) T.isinstance (by decide +kernel) (pa_cons (pv 0) (pa_cons (pe_glob (v := .ref (He.ga K "NoStep")) (by rfl) T.m_NoStep rfl) pa_nil))) (pa_cons (pe_callB (call_isP (T.kinds.ex _ hc) List.mem_cons_self hz hf) (by rfl) T.isinstance (by decide +kernel) (pa_cons (pv 0) (pa_cons (pe_glob (v := .ref (He.ga K "NoSigns")) (by rfl) T.m_NoSigns rfl) pa_nil))) (pa_cons (pe_callB (call_isP (T.kinds.ex _ hc) List.mem_cons_self hz hf) (by rfl) T.isinstance (by decide +kernel) (pa_cons (pv 0) (pa_cons (pe_glob (v := .ref (He.ga K "NoChoice")) (by rfl) T.m_NoChoice rfl) pa_nil))) (pa_cons (pe_callB (call_isP (T.kinds.ex _ hc) List.mem_cons_self hz hf) (by rfl) T.isinstance (by decide +kernel) (pa_cons (pv 0) (pa_cons (pe_glob (v := .ref (He.ga K "NoFlat")) (by rfl) T.m_NoFlat rfl) pa_nil))) pa_nil)))))))
  (pss_cons (ps_expr (pe_bm PySem.F.plainAttrs_list PySem.F.slot_list_append PySem.F.type_list_append mt_append (pv 1) (pa_cons (pe_callB (call_isP (T.kinds.ex _ hc) List.mem_cons_self hz hf) (by rfl) T.isinstance (by decide +kernel) (pa_cons (pv 0) (pa_cons (pe_glob (v := .ref (He.ga K "NoNote")) (by rfl) T.m_NoNote rfl) pa_nil))) pa_nil)))
  (pss_cons (ps_if (PW.pt (pw_or (pt_not (pt_val (pe_callB (call_isP (T.kinds.ex _ hc) List.mem_cons_self hz hf) (by rfl) T.isinstance (by decide +kernel) (pa_cons (pv 0) (pa_cons (pe_bltn (v := .ty "ValueError") (by rfl) T.ValueError (by decide +kernel) rfl) pa_nil))))) (pw_or1 (pt_cmpR op_ne (pe_bm PySem.F.plainAttrs_list PySem.F.slot_list_count PySem.F.type_list_count mt_countV (pv 1) (pa_cons pe_bl pa_nil)) pe_int (nomark _)))))
   (pss_one (ps_ret pe_str))
   pss_nil)
  (pss_one (ps_ret (pe_ix ix_list (pe_lst (pa_cons pe_str (pa_cons pe_str (pa_cons pe_str (pa_cons pe_str (pa_cons pe_str (pa_cons pe_str (pa_cons pe_str (pa_cons pe_str (pa_cons pe_str pa_nil)))))))))) (pe_bm PySem.F.plainAttrs_list PySem.F.slot_list_index PySem.F.type_list_index mt_index (pv 1) (pa_cons pe_bl pa_nil)) (fun _ _ => rfl))))))))
theorem ok_law_tried (T : Txt K mg) (G_flat : FnOk P w K mg base (L2.CX P w) 3 (He.ga K "flat") T.d_flat ["steps"] (sp_flat K)) (G_law_kind : FnP P w K mg base 1 (He.ga K "_law_kind") T.d__law_kind "e" (KindR K)) : FnOk P w K mg base CX0 4 (He.ga K "_law_tried") T.d__law_tried ["steps"] (sp_law_tried K) := by
  refine T.F__law_tried.ok sc__law_tried len_law_tried (fun cdv A outer s H vs Q E hr h => ⟨t_law_tried K, ?_, pure_law_tried T.c_NoFlat vs H Q E h⟩)
  exact (pss_one (ps_try_as (i := 1) (tb := (fun W => (tRet (tTup (tCons (tC (.str "told")) (tCons (tCallS (sp_flat K) (WE W) (tCons (tVar 0) tNil)) tNil)))))) (ts := (fun a cls d => (tRet (tTup (tCons (tCallP a cls d (KindR K) (tCons (tVar 1) tNil)) (tCons (tC .non) tNil)))))) (Wout := fun _ _ _ _ => False) rfl rfl sc__law_tried.nd rfl rfl ⟨rfl, by decide, .inl T.m_SignError⟩ takes0
   (fun W pn xe tk _ => (pss_one (ps_ret (pe_tup (pa_cons pe_str (pa_cons (pe_callS G_flat (hr.mono (by decide)) (by rfl) T.g_flat T.F_flat.kp T.b_flat (fun σ => passAt tk σ) (pa_cons (pv 0) pa_nil)) pa_nil))))))
   (fun a oe cls d pn hz hf => (pss_one (ps_ret (pe_tup (pa_cons (pe_callP (p := (a, oe)) List.mem_cons_self hz hf G_law_kind (roomP hr (by decide)) (by rfl) T.g__law_kind T.F__law_kind.kp T.b__law_kind (pa_cons (pv 1) pa_nil)) (pa_cons pe_non pa_nil))))))))
theorem ok_law_is_flat (T : Txt K mg) (G_law_sums : FnOk P w K mg base CX0 2 (He.ga K "_law_sums") T.d__law_sums ["row"] (sp_law_sums K)) : FnOk P w K mg base CX0 3 (He.ga K "_law_is_flat") T.d__law_is_flat ["row"] (sp_law_is_flat K) := by
  refine T.F__law_is_flat.ok sc__law_is_flat len_law_is_flat (fun cdv A outer s H vs Q E hr h => ⟨t_law_is_flat K, ?_, pure_law_is_flat vs H Q E h⟩)
  exact (pss_cons (ps_set (i := 1) sc__law_is_flat.nd rfl (Or.inr rfl) (pe_call G_law_sums (hr.mono (by decide)) (by rfl) T.g__law_sums T.F__law_sums.kp T.b__law_sums .nil pass0 (pa_cons (pv 0) pa_nil)))
  (pss_one (ps_ret (pe_callB (cr_all rfl) (by rfl) T.all (by decide +kernel) (pa_cons (pe_lc (own := [("number", 2)]) (g := (gName 2)) (tt := tYes) rfl sc__law_is_flat.nd (pi_list (pv 1)) (blkOk_by (own := [("number", 2)]) (N := N__law_is_flat) (sc := defScope s__law_is_flat) (by decide +kernel)) (fun _ _ _ _ _ => pg_name (i := 2) sc__law_is_flat.nd rfl (Or.inl rfl)) (fun _ _ _ _ _ => pts_nil) (fun _ _ _ _ _ => (pe_cmpR op_eq (pe_callB call_abs (by rfl) T.abs (by decide +kernel) (pa_cons (pv 2) pa_nil)) (pe_callB call_abs (by rfl) T.abs (by decide +kernel) (pa_cons (pe_ix ix_list (pv 1) pe_int (fun _ _ => rfl)) pa_nil)) (nomark _)))) pa_nil)))))
theorem ok_law_held (T : Txt K mg) (G_is_flat : FnOk P w K mg base (L2.CX P w) 3 (He.ga K "is_flat") T.d_is_flat ["row"] (sp_is_flat K)) (G_law_is_flat : FnOk P w K mg base CX0 3 (He.ga K "_law_is_flat") T.d__law_is_flat ["row"] (sp_law_is_flat K)) : FnOk P w K mg base CX0 4 (He.ga K "_law_held") T.d__law_held ["row"] (sp_law_held K) := by
  refine T.F__law_held.ok sc__law_held len_law_held (fun cdv A outer s H vs Q E hr h => ⟨t_law_held K, ?_, pure_law_held vs H Q E h⟩)
  exact (pss_cons (ps_set (i := 1) sc__law_held.nd rfl (Or.inl rfl) (pe_callTy call_list_of (by rfl) T.list (by decide +kernel) (pa_cons (pv 0) pa_nil)))
  (pss_cons (ps_set (i := 2) sc__law_held.nd rfl (Or.inl rfl) (pe_call G_is_flat (hr.mono (by decide)) (by rfl) T.g_is_flat T.F_is_flat.kp T.b_is_flat .nil passL (pa_cons (pv 1) pa_nil)))
  (pss_one (ps_ret (pe_and (pe_callB call_isi (by rfl) T.isinstance (by decide +kernel) (pa_cons (pv 2) (pa_cons (pe_bltn (v := .ty "bool") (by rfl) T.bool (by decide +kernel) rfl) pa_nil))) (pe_and (pe_cmpR op_eq (pv 2) (pe_call G_law_is_flat (hr.mono (by decide)) (by rfl) T.g__law_is_flat T.F__law_is_flat.kp T.b__law_is_flat .nil pass0 (pa_cons (pv 0) pa_nil)) (nomark _)) (pe_one (pe_cmpR (op_eqD hr.units) (pv 1) (pv 0) (nomark _)))))))))
theorem ok_law (T : Txt K mg) (G_law_row : FnOk P w K mg base CX0 2 (He.ga K "_law_row") T.d__law_row ["cell", "steps", "way", "great"] (sp_law_row K)) (G_law_tried : FnOk P w K mg base CX0 4 (He.ga K "_law_tried") T.d__law_tried ["steps"] (sp_law_tried K)) (G_flat : FnOk P w K mg base (L2.CX P w) 3 (He.ga K "flat") T.d_flat ["steps"] (sp_flat K)) (G_tied : FnOk P w K mg base (L2.CX P w) 2 (He.ga K "tied") T.d_tied ["one", "other"] (sp_tied K)) (G_law_cell_at : FnOk P w K mg base CX0 1 (He.ga K "_law_cell_at") T.d__law_cell_at ["script", "k"] (sp_law_cell_at K)) (G_law_held : FnOk P w K mg base CX0 4 (He.ga K "_law_held") T.d__law_held ["row"] (sp_law_held K)) (G_is_flat : FnOk P w K mg base (L2.CX P w) 3 (He.ga K "is_flat") T.d_is_flat ["row"] (sp_is_flat K)) (G_law_alike : FnOk P w K mg base CX0 2 (He.ga K "_law_alike") T.d__law_alike ["found", "due"] (sp_law_alike K)) (G_law_is_flat : FnOk P w K mg base CX0 3 (He.ga K "_law_is_flat") T.d__law_is_flat ["row"] (sp_law_is_flat K)) (G_nearest : FnOk P w K mg base (L2.CX P w) 3 (He.ga K "nearest") T.d_nearest ["row"] (sp_nearest K)) (G_law_sign : FnOk P w K mg base CX0 1 (He.ga K "_law_sign") T.d__law_sign ["place", "choice"] (sp_law_sign K)) : FnOk P w K mg base CX0 5 (He.ga K "law") T.d_law ["script"] (sp_law K) := by
  refine T.F_law.ok sc_law len_law (fun cdv A outer s H vs Q E hr h => ⟨t_law K, ?_, pure_law vs H Q E h⟩)
  exact (pss_cons (ps_set (i := 1) sc_law.nd rfl (Or.inl rfl) (pe_op op_add (pe_op op_mod (pe_call G_law_cell_at (hr.mono (by decide)) (by rfl) T.g__law_cell_at T.F__law_cell_at.kp T.b__law_cell_at .nil pass0 (pa_cons (pv 0) (pa_cons pe_int pa_nil))) pe_int) (pe_callTy call_int1 (by rfl) T.int (by decide +kernel) (pa_cons (pe_cmpR op_eq (pe_op op_mod (pe_call G_law_cell_at (hr.mono (by decide)) (by rfl) T.g__law_cell_at T.F__law_cell_at.kp T.b__law_cell_at .nil pass0 (pa_cons (pv 0) (pa_cons pe_int pa_nil))) pe_int) pe_int (nomark _)) pa_nil))))
  (pss_cons (ps_set (i := 2) sc_law.nd rfl (Or.inl rfl) (pe_call G_law_row (hr.mono (by decide)) (by rfl) T.g__law_row T.F__law_row.kp T.b__law_row .nil pass0 (pa_cons (pe_call G_law_cell_at (hr.mono (by decide)) (by rfl) T.g__law_cell_at T.F__law_cell_at.kp T.b__law_cell_at .nil pass0 (pa_cons (pv 0) (pa_cons pe_int pa_nil))) (pa_cons (pv 1) (pa_cons pe_int (pa_cons (pe_op op_mulW pe_int (pe_op op_pow pe_int pe_int)) pa_nil))))))
  (pss_cons (ps_set (i := 3) sc_law.nd rfl (Or.inl rfl) (pe_call G_law_tried (hr.mono (by decide)) (by rfl) T.g__law_tried T.F__law_tried.kp T.b__law_tried .nil pass0 (pa_cons (pv 1) pa_nil)))
  (pss_cons (ps_if (pt_not (pt_val (pe_call G_law_held (hr.mono (by decide)) (by rfl) T.g__law_held T.F__law_held.kp T.b__law_held .nil pass0 (pa_cons (pv 2) pa_nil))))
   (pss_one (ps_ret pe_bl))
   pss_nil)
  (pss_cons (ps_if (pt_cmpR op_eq (pe_op op_mod (pv 1) pe_int) pe_int (nomark _))
   (pss_one (ps_ret (pe_and (pe_cmpR op_eq (pe_ix ix_tup (pv 3) pe_int (fun _ _ => rfl)) pe_str (nomark _)) (pe_one (pe_not (pe_call G_is_flat (hr.mono (by decide)) (by rfl) T.g_is_flat T.F_is_flat.kp T.b_is_flat .nil passL (pa_cons (pv 2) pa_nil)))))))
   pss_nil)
  (pss_cons (ps_set (i := 4) sc_law.nd rfl (Or.inr rfl) (pe_ix ix_tup (pv 3) pe_int (fun _ _ => rfl)))
  (pss_cons (ps_if (PW.pt (pw_or (pt_cmpR op_ne (pe_ix ix_tup (pv 3) pe_int (fun _ _ => rfl)) pe_str (nomark _)) (pw_or (pt_not (pt_val (pe_call G_law_alike (hr.mono (by decide)) (by rfl) T.g__law_alike T.F__law_alike.kp T.b__law_alike .nil pass0 (pa_cons (pv 4) (pa_cons (pe_callTy call_list_of (by rfl) T.list (by decide +kernel) (pa_cons (pv 4) pa_nil)) pa_nil))))) (pw_or1 (pt_cmpR op_ne (pe_callB call_len_seq (by rfl) T.len PySem.boot_len (pa_cons (pv 4) pa_nil)) (pe_callB call_len_seq (by rfl) T.len PySem.boot_len (pa_cons (pv 2) pa_nil)) (nomark _))))))
   (pss_one (ps_ret pe_bl))
   pss_nil)
  (pss_cons (ps_if (PW.pt (pw_or (pt_not (pt_val (pe_callB (cr_all rfl) (by rfl) T.all (by decide +kernel) (pa_cons (pe_lc (own := [("number", 12)]) (g := (gName 12)) (tt := tYes) rfl sc_law.nd (pi_list (pv 4)) (blkOk_by (own := [("number", 12)]) (N := N_law) (sc := defScope s_law) (by decide +kernel)) (fun _ _ _ _ _ => pg_name (i := 12) sc_law.nd rfl (Or.inl rfl)) (fun _ _ _ _ _ => pts_nil) (fun _ _ _ _ _ => (pe_cmpR op_in_seq (pv 12) (pe_tup (pa_cons pe_int (pa_cons (pe_un un_neg pe_int) pa_nil))) (by rfl)))) pa_nil)))) (pw_or1 (pt_not (pt_val (pe_call G_law_is_flat (hr.mono (by decide)) (by rfl) T.g__law_is_flat T.F__law_is_flat.kp T.b__law_is_flat .nil pass0 (pa_cons (pv 4) pa_nil)))))))
   (pss_one (ps_ret pe_bl))
   pss_nil)
  (pss_cons (ps_if (pt_cmpR op_gt (pe_ix ix_tup (pe_call G_nearest (hr.mono (by decide)) (by rfl) T.g_nearest T.F_nearest.kp T.b_nearest .nil passL (pa_cons (pe_callTy call_list_of (by rfl) T.list (by decide +kernel) (pa_cons (pv 2) pa_nil)) pa_nil)) pe_int (fun _ _ => rfl)) (pe_ix ix_tup (pe_call G_nearest (hr.mono (by decide)) (by rfl) T.g_nearest T.F_nearest.kp T.b_nearest .nil passL (pa_cons (pe_callTy call_list_of (by rfl) T.list (by decide +kernel) (pa_cons (pv 4) pa_nil)) pa_nil)) pe_int (fun _ _ => rfl)) (nomark _))
   (pss_one (ps_ret pe_bl))
   pss_nil)
  (pss_cons (ps_set (i := 5) sc_law.nd rfl (Or.inl rfl) (pe_callTy call_list_of (by rfl) T.list (by decide +kernel) (pa_cons (pv 4) pa_nil)))
  (pss_cons (ps_expr (pe_bm PySem.F.plainAttrs_list PySem.F.slot_list_append PySem.F.type_list_append mt_append (pv 4) (pa_cons pe_int pa_nil)))
  (pss_cons (ps_set (i := 6) sc_law.nd rfl (Or.inl rfl) (pe_call G_flat (hr.mono (by decide)) (by rfl) T.g_flat T.F_flat.kp T.b_flat .nil passL (pa_cons (pv 1) pa_nil)))
  (pss_cons (ps_if (PW.pt (pw_or (pt_cmpR op_ne (pe_callB call_len_seq (by rfl) T.len PySem.boot_len (pa_cons (pv 6) pa_nil)) (pe_callB call_len_seq (by rfl) T.len PySem.boot_len (pa_cons (pv 2) pa_nil)) (nomark _)) (pw_or1 (pt_not (pt_val (pe_call G_law_is_flat (hr.mono (by decide)) (by rfl) T.g__law_is_flat T.F__law_is_flat.kp T.b__law_is_flat .nil pass0 (pa_cons (pv 6) pa_nil)))))))
   (pss_one (ps_ret pe_bl))
   pss_nil)
  (pss_cons (ps_set (i := 4) sc_law.nd rfl (Or.inr rfl) (pv 5))
  (pss_cons (ps_set (i := 7) sc_law.nd rfl (Or.inr rfl) (pe_op op_mod (pe_call G_law_cell_at (hr.mono (by decide)) (by rfl) T.g__law_cell_at T.F__law_cell_at.kp T.b__law_cell_at .nil pass0 (pa_cons (pv 0) (pa_cons pe_int pa_nil))) (pe_callB call_len_seq (by rfl) T.len PySem.boot_len (pa_cons (pv 2) pa_nil))))
  (pss_cons (ps_setLc (i := 8) (own := [("place", 13)]) (g := (gName 13)) (tt := tYes) rfl sc_law.nd rfl rfl (sw_true rfl rfl rfl (by decide +kernel)) (pi_range1 (by rfl) T.range (pa_cons (pe_callB call_len_seq (by rfl) T.len PySem.boot_len (pa_cons (pv 2) pa_nil)) pa_nil)) (blkOk_by (own := [("place", 13)]) (N := N_law) (sc := defScope s_law) (by decide +kernel)) (fun _ _ _ _ _ => pg_name (i := 13) sc_law.nd rfl (Or.inl rfl)) (fun _ _ _ _ _ => pts_nil) (fun _ _ _ _ _ => (pe_op op_mulW (pe_ix ix_list (pv 4) (pv 13) (fun _ _ => rfl)) (pe_call G_law_sign (hr.mono (by decide)) (by rfl) T.g__law_sign T.F__law_sign.kp T.b__law_sign .nil pass0 (pa_cons (pv 13) (pa_cons (pv 7) pa_nil))))))
  (pss_cons (ps_set (i := 9) sc_law.nd rfl (Or.inl rfl) (pe_callTy call_list_of (by rfl) T.list (by decide +kernel) (pa_cons (pv 8) pa_nil)))
  (pss_cons (ps_set (i := 10) sc_law.nd rfl (Or.inl rfl) (pe_op op_mod (pe_call G_law_cell_at (hr.mono (by decide)) (by rfl) T.g__law_cell_at T.F__law_cell_at.kp T.b__law_cell_at .nil pass0 (pa_cons (pv 0) (pa_cons pe_int pa_nil))) (pe_callB call_len_seq (by rfl) T.len PySem.boot_len (pa_cons (pv 2) pa_nil))))
  (pss_cons (ps_asg (pe_op op_sub pe_int (pe_ix ix_list (pv 9) (pv 10) (fun _ _ => rfl))) (pg_sub (pv 9) (pv 10) set_list))
  (pss_cons (ps_if (PW.pt (pw_or (pt_not (pt_val (pe_call G_law_held (hr.mono (by decide)) (by rfl) T.g__law_held T.F__law_held.kp T.b__law_held .nil pass0 (pa_cons (pv 8) pa_nil)))) (pw_or (pt_not (pt_val (pe_call G_is_flat (hr.mono (by decide)) (by rfl) T.g_is_flat T.F_is_flat.kp T.b_is_flat .nil passL (pa_cons (pv 8) pa_nil)))) (pw_or1 (pt_not (pt_val (pe_call G_law_held (hr.mono (by decide)) (by rfl) T.g__law_held T.F__law_held.kp T.b__law_held .nil pass0 (pa_cons (pv 9) pa_nil))))))))
   (pss_one (ps_ret pe_bl))
   pss_nil)
  (pss_cons (ps_if (pt_cmpR op_eq (pv 1) pe_int (nomark _))
   (pss_one (ps_ret pe_bl))
   pss_nil)
  (pss_cons (ps_set (i := 11) sc_law.nd rfl (Or.inl rfl) (pe_call G_tied (hr.mono (by decide)) (by rfl) T.g_tied T.F_tied.kp T.b_tied .nil passL (pa_cons (pv 8) (pa_cons (pe_call G_flat (hr.mono (by decide)) (by rfl) T.g_flat T.F_flat.kp T.b_flat .nil passL (pa_cons (pe_op op_mulW (pe_op op_mod (pe_call G_law_cell_at (hr.mono (by decide)) (by rfl) T.g__law_cell_at T.F__law_cell_at.kp T.b__law_cell_at .nil pass0 (pa_cons (pv 0) (pa_cons pe_int pa_nil))) pe_int) pe_int) pa_nil)) pa_nil))))
  (pss_one (ps_ret (pe_and (pe_call G_law_held (hr.mono (by decide)) (by rfl) T.g__law_held T.F__law_held.kp T.b__law_held .nil pass0 (pa_cons (pv 11) pa_nil)) (pe_one (pe_call G_is_flat (hr.mono (by decide)) (by rfl) T.g_is_flat T.F_is_flat.kp T.b_is_flat .nil passL (pa_cons (pv 11) pa_nil))))))))))))))))))))))))))))
end
end Sg
namespace Sg
open PySem PySem.Spec PyProof.Rows L2
/-! ### the head: what is looked at behind the top -/
/-- a def without defaults, from the head's facts -/
theorem fun_of {K : PySem.W.Frag} {x : Str} {st : Stmt} {f : Addr} {fd : FuncData} (F : FunD K x x (defArgs st) (defBody st) (defScope st) [] [] f fd) : Fun K x x st f fd := by
  obtain ⟨oc, od, dV, kV, doc, pm, an, cdv, ct, osl, e, lk, hc, hD, hK⟩ := F.ex
  rcases hD with ⟨_, e0⟩ | ⟨e0, _⟩
  · subst e0
    exact ⟨⟨oc, od, kV, doc, pm, an, cdv, ct, osl, e, lk, hc⟩, F.kp⟩
  · exact absurd rfl e0
abbrev AlE : Type := He.AlD × Bool
def obsE (n : Nat) (fa : List He.Fa) (fn : List He.DefD) (ex : PySem.W.Frag → Bool) (g : Addr → Option Obj) : AlE :=
  (He.obsD fa fn (He.frG g (He.asD g n)), ex (He.frG g (He.asD g n)))
def SaysE (fa : List He.Fa) (fn : List He.DefD) (ex : PySem.W.Frag → Bool) (K : PySem.W.Frag) : Prop := He.SaysD fa fn K ∧ ex K = true
def hookE (n : Nat) (fa : List He.Fa) (fn : List He.DefD) (ex : PySem.W.Frag → Bool) : PySem.W.Hook where
  α := AlE
  obs := fun s => obsE n fa fn ex s.heap.get?
  val := fun _ => (He.valD fn, true)
  says := fun _ h => ∃ K : PySem.W.Frag, K.In h ∧ SaysE fa fn ex K
  of := fun _ _ e => ⟨_, He.frG_in, congrArg (fun z : AlE => z.1) e, congrArg (fun z : AlE => z.2) e⟩
  keeps := fun _ _ _ ⟨K, hK, c⟩ k => ⟨K, PySem.W.Frag.In.keeps hK k, c⟩
theorem obsE_eq {n : Nat} {fa : List He.Fa} {fn : List He.DefD} {ex : PySem.W.Frag → Bool} {g : Addr → Option Obj} {s : Shared} (h : ∀ a, g a = s.heap.get? a) : obsE n fa fn ex g = (hookE n fa fn ex).obs s := by
  rw [show g = s.heap.get? from funext h] <;> rfl
theorem xok_of {K : PySem.W.Frag} {x : Str} (c : (He.Fa.exc x).ok K = true) : XOk K (He.ga K x) := by
  obtain ⟨c1, c2⟩ := He.ba c
  obtain ⟨c3, c4⟩ := He.ba c2
  obtain ⟨c5, c6⟩ := He.ba c4
  exact ⟨c1, c3, of_decide_eq_true c5, of_decide_eq_true c6⟩
end Sg
namespace Sg
open PySem PySem.Spec PyProof.Rows L2
def D_ask_row : He.DefD := ⟨("ask_row", none), "ask_row", "ask_row", defArgs s_ask_row, defBody s_ask_row, defScope s_ask_row, [], []⟩
def D_summed : He.DefD := ⟨("summed", none), "summed", "summed", defArgs s_summed, defBody s_summed, defScope s_summed, [], []⟩
def D_tied : He.DefD := ⟨("tied", none), "tied", "tied", defArgs s_tied, defBody s_tied, defScope s_tied, [], []⟩
def D_ask_steps : He.DefD := ⟨("ask_steps", none), "ask_steps", "ask_steps", defArgs s_ask_steps, defBody s_ask_steps, defScope s_ask_steps, [], []⟩
def D_are_signs : He.DefD := ⟨("are_signs", none), "are_signs", "are_signs", defArgs s_are_signs, defBody s_are_signs, defScope s_are_signs, [], []⟩
def D_ask_signs : He.DefD := ⟨("ask_signs", none), "ask_signs", "ask_signs", defArgs s_ask_signs, defBody s_ask_signs, defScope s_ask_signs, [], []⟩
def D_nearest : He.DefD := ⟨("nearest", none), "nearest", "nearest", defArgs s_nearest, defBody s_nearest, defScope s_nearest, [], []⟩
def D_is_flat : He.DefD := ⟨("is_flat", none), "is_flat", "is_flat", defArgs s_is_flat, defBody s_is_flat, defScope s_is_flat, [], []⟩
def D_flat : He.DefD := ⟨("flat", none), "flat", "flat", defArgs s_flat, defBody s_flat, defScope s_flat, [], []⟩
def D__law_cell_at : He.DefD := ⟨("_law_cell_at", none), "_law_cell_at", "_law_cell_at", defArgs s__law_cell_at, defBody s__law_cell_at, defScope s__law_cell_at, [], []⟩
def D__law_whole : He.DefD := ⟨("_law_whole", none), "_law_whole", "_law_whole", defArgs s__law_whole, defBody s__law_whole, defScope s__law_whole, [], []⟩
def D__law_next : He.DefD := ⟨("_law_next", none), "_law_next", "_law_next", defArgs s__law_next, defBody s__law_next, defScope s__law_next, [], []⟩
def D__law_row : He.DefD := ⟨("_law_row", none), "_law_row", "_law_row", defArgs s__law_row, defBody s__law_row, defScope s__law_row, [], []⟩
def D__law_sign : He.DefD := ⟨("_law_sign", none), "_law_sign", "_law_sign", defArgs s__law_sign, defBody s__law_sign, defScope s__law_sign, [], []⟩
def D__law_sums : He.DefD := ⟨("_law_sums", none), "_law_sums", "_law_sums", defArgs s__law_sums, defBody s__law_sums, defScope s__law_sums, [], []⟩
def D__law_alike : He.DefD := ⟨("_law_alike", none), "_law_alike", "_law_alike", defArgs s__law_alike, defBody s__law_alike, defScope s__law_alike, [], []⟩
def D__law_kind : He.DefD := ⟨("_law_kind", none), "_law_kind", "_law_kind", defArgs s__law_kind, defBody s__law_kind, defScope s__law_kind, [], []⟩
def D__law_tried : He.DefD := ⟨("_law_tried", none), "_law_tried", "_law_tried", defArgs s__law_tried, defBody s__law_tried, defScope s__law_tried, [], []⟩
def D__law_is_flat : He.DefD := ⟨("_law_is_flat", none), "_law_is_flat", "_law_is_flat", defArgs s__law_is_flat, defBody s__law_is_flat, defScope s__law_is_flat, [], []⟩
def D__law_held : He.DefD := ⟨("_law_held", none), "_law_held", "_law_held", defArgs s__law_held, defBody s__law_held, defScope s__law_held, [], []⟩
def D_law : He.DefD := ⟨("law", none), "law", "law", defArgs s_law, defBody s_law, defScope s_law, [], []⟩
def headFn : List He.DefD := [D_ask_row, D_summed, D_tied, D_ask_steps, D_are_signs, D_ask_signs, D_nearest, D_is_flat, D_flat, D__law_cell_at, D__law_whole, D__law_next, D__law_row, D__law_sign, D__law_sums, D__law_alike, D__law_kind, D__law_tried, D__law_is_flat, D__law_held, D_law]
def headFa : List He.Fa := [.glo "ask_row", .glo "summed", .glo "tied", .glo "ask_steps", .glo "are_signs", .glo "ask_signs", .glo "nearest", .glo "is_flat", .glo "flat", .glo "_law_cell_at", .glo "_law_whole", .glo "_law_next", .glo "_law_row", .glo "_law_sign", .glo "_law_sums", .glo "_law_alike", .glo "_law_kind", .glo "_law_tried", .glo "_law_is_flat", .glo "_law_held", .glo "law", .glo "SignError", .exc "SignError", .glo "NoRow", .exc "NoRow", .glo "NoSums", .exc "NoSums", .glo "NoMatch", .exc "NoMatch", .glo "TooLong", .exc "TooLong", .glo "NoStep", .exc "NoStep", .glo "NoSigns", .exc "NoSigns", .glo "NoChoice", .exc "NoChoice", .glo "NoFlat", .exc "NoFlat", .glo "NoNote", .exc "NoNote", .glo "LENGTHS", .int "MOST" 100000000000000000000, .int "MOST_LONG" 32, .glo "FLAT_FOUR", .free "ValueError", .free "abs", .free "all", .free "bool", .free "int", .free "isinstance", .free "len", .free "list", .free "range", .free "set", .free "sum", .exm "NoRow" "SignError" true, .exm "NoSums" "SignError" true, .exm "NoMatch" "SignError" true, .exm "TooLong" "SignError" true, .exm "NoStep" "SignError" true, .exm "NoSigns" "SignError" true, .exm "NoChoice" "SignError" true, .exm "NoFlat" "SignError" true, .exm "NoNote" "SignError" true, .exm "NoRow" "NoRow" true]
def headEx (K : PySem.W.Frag) : Bool := (He.tupB K "LENGTHS" [.int (1), .int (2), .int (4), .int (8), .int (16), .int (32)]) && (He.tupB K "FLAT_FOUR" [.int (1), .int (1), .int (1), .int (-1)]) && (kindsB K)
abbrev headR : PySem.W.OpenRow := PySem.W.OpenLaw.row PySem.Challenge.rw_signsums_k10_whole_flat
abbrev headHk : PySem.W.Hook := hookE 4 headFa headFn headEx
def headOb (s : PySem.W.SharedT) : AlE := obsE 4 headFa headFn headEx (HandSHeadRun.getT s)
theorem headOb_eq (s : PySem.W.SharedT) : headOb s = headHk.obs s.abs := obsE_eq (HandSHeadRun.getT_eq s)
def headLooseA : List PySem.Str := ["SignError", "NoRow", "NoSums", "NoMatch", "TooLong", "NoStep", "NoSigns", "NoChoice", "NoFlat", "NoNote", "LENGTHS", "MOST", "ask_row", "summed", "MOST_LONG", "tied", "ask_steps", "are_signs", "ask_signs", "nearest", "FLAT_FOUR", "is_flat", "flat", "_law_cell_at", "_law_whole", "_law_next", "_law_row", "_law_sign", "_law_sums", "_law_alike"]
def headLooseB : List PySem.Str := ["_law_kind", "_law_tried", "_law_is_flat", "_law_held"]
def headLoose : List PySem.Str := headLooseA ++ headLooseB
theorem headRun (w : World) : HandSHeadRun.RunEq headR (PySem.W.view headR.prog [40]) headHk headOb 3000 headLoose w := by
  intro os
  kernel_rfl
theorem head_txt {K : PySem.W.Frag} {h : Heap} {mg : Str → Option Value} (X : K.In h) (G : h.Ns mainGlobals mg) (c : SaysE headFa headFn headEx K) : Nonempty (Txt K mg) := by
  have fct : ∀ f : He.Fa, f ∈ headFa → f.ok K = true := fun f hf => by
    obtain ⟨i, hi⟩ := List.mem_iff_getElem?.mp hf
    exact c.1.fact i hi
  have hx := c.2
  unfold headEx at hx
  simp only [Bool.and_eq_true] at hx
  obtain ⟨d_ask_row, FD_ask_row⟩ := c.1.def_ 0 (d := D_ask_row) rfl
  have F_ask_row : Fun K "ask_row" "ask_row" s_ask_row (He.ga K "ask_row") d_ask_row := fun_of FD_ask_row
  obtain ⟨d_summed, FD_summed⟩ := c.1.def_ 1 (d := D_summed) rfl
  have F_summed : Fun K "summed" "summed" s_summed (He.ga K "summed") d_summed := fun_of FD_summed
  obtain ⟨d_tied, FD_tied⟩ := c.1.def_ 2 (d := D_tied) rfl
  have F_tied : Fun K "tied" "tied" s_tied (He.ga K "tied") d_tied := fun_of FD_tied
  obtain ⟨d_ask_steps, FD_ask_steps⟩ := c.1.def_ 3 (d := D_ask_steps) rfl
  have F_ask_steps : Fun K "ask_steps" "ask_steps" s_ask_steps (He.ga K "ask_steps") d_ask_steps := fun_of FD_ask_steps
  obtain ⟨d_are_signs, FD_are_signs⟩ := c.1.def_ 4 (d := D_are_signs) rfl
  have F_are_signs : Fun K "are_signs" "are_signs" s_are_signs (He.ga K "are_signs") d_are_signs := fun_of FD_are_signs
  obtain ⟨d_ask_signs, FD_ask_signs⟩ := c.1.def_ 5 (d := D_ask_signs) rfl
  have F_ask_signs : Fun K "ask_signs" "ask_signs" s_ask_signs (He.ga K "ask_signs") d_ask_signs := fun_of FD_ask_signs
  obtain ⟨d_nearest, FD_nearest⟩ := c.1.def_ 6 (d := D_nearest) rfl
  have F_nearest : Fun K "nearest" "nearest" s_nearest (He.ga K "nearest") d_nearest := fun_of FD_nearest
  obtain ⟨d_is_flat, FD_is_flat⟩ := c.1.def_ 7 (d := D_is_flat) rfl
  have F_is_flat : Fun K "is_flat" "is_flat" s_is_flat (He.ga K "is_flat") d_is_flat := fun_of FD_is_flat
  obtain ⟨d_flat, FD_flat⟩ := c.1.def_ 8 (d := D_flat) rfl
  have F_flat : Fun K "flat" "flat" s_flat (He.ga K "flat") d_flat := fun_of FD_flat
  obtain ⟨d__law_cell_at, FD__law_cell_at⟩ := c.1.def_ 9 (d := D__law_cell_at) rfl
  have F__law_cell_at : Fun K "_law_cell_at" "_law_cell_at" s__law_cell_at (He.ga K "_law_cell_at") d__law_cell_at := fun_of FD__law_cell_at
  obtain ⟨d__law_whole, FD__law_whole⟩ := c.1.def_ 10 (d := D__law_whole) rfl
  have F__law_whole : Fun K "_law_whole" "_law_whole" s__law_whole (He.ga K "_law_whole") d__law_whole := fun_of FD__law_whole
  obtain ⟨d__law_next, FD__law_next⟩ := c.1.def_ 11 (d := D__law_next) rfl
  have F__law_next : Fun K "_law_next" "_law_next" s__law_next (He.ga K "_law_next") d__law_next := fun_of FD__law_next
  obtain ⟨d__law_row, FD__law_row⟩ := c.1.def_ 12 (d := D__law_row) rfl
  have F__law_row : Fun K "_law_row" "_law_row" s__law_row (He.ga K "_law_row") d__law_row := fun_of FD__law_row
  obtain ⟨d__law_sign, FD__law_sign⟩ := c.1.def_ 13 (d := D__law_sign) rfl
  have F__law_sign : Fun K "_law_sign" "_law_sign" s__law_sign (He.ga K "_law_sign") d__law_sign := fun_of FD__law_sign
  obtain ⟨d__law_sums, FD__law_sums⟩ := c.1.def_ 14 (d := D__law_sums) rfl
  have F__law_sums : Fun K "_law_sums" "_law_sums" s__law_sums (He.ga K "_law_sums") d__law_sums := fun_of FD__law_sums
  obtain ⟨d__law_alike, FD__law_alike⟩ := c.1.def_ 15 (d := D__law_alike) rfl
  have F__law_alike : Fun K "_law_alike" "_law_alike" s__law_alike (He.ga K "_law_alike") d__law_alike := fun_of FD__law_alike
  obtain ⟨d__law_kind, FD__law_kind⟩ := c.1.def_ 16 (d := D__law_kind) rfl
  have F__law_kind : Fun K "_law_kind" "_law_kind" s__law_kind (He.ga K "_law_kind") d__law_kind := fun_of FD__law_kind
  obtain ⟨d__law_tried, FD__law_tried⟩ := c.1.def_ 17 (d := D__law_tried) rfl
  have F__law_tried : Fun K "_law_tried" "_law_tried" s__law_tried (He.ga K "_law_tried") d__law_tried := fun_of FD__law_tried
  obtain ⟨d__law_is_flat, FD__law_is_flat⟩ := c.1.def_ 18 (d := D__law_is_flat) rfl
  have F__law_is_flat : Fun K "_law_is_flat" "_law_is_flat" s__law_is_flat (He.ga K "_law_is_flat") d__law_is_flat := fun_of FD__law_is_flat
  obtain ⟨d__law_held, FD__law_held⟩ := c.1.def_ 19 (d := D__law_held) rfl
  have F__law_held : Fun K "_law_held" "_law_held" s__law_held (He.ga K "_law_held") d__law_held := fun_of FD__law_held
  obtain ⟨d_law, FD_law⟩ := c.1.def_ 20 (d := D_law) rfl
  have F_law : Fun K "law" "law" s_law (He.ga K "law") d_law := fun_of FD_law
  exact ⟨{
    ValueError := He.free_ok X G (c.1.fact 45 (f := .free "ValueError") rfl)
    abs := He.free_ok X G (c.1.fact 46 (f := .free "abs") rfl)
    all := He.free_ok X G (c.1.fact 47 (f := .free "all") rfl)
    bool := He.free_ok X G (c.1.fact 48 (f := .free "bool") rfl)
    int := He.free_ok X G (c.1.fact 49 (f := .free "int") rfl)
    isinstance := He.free_ok X G (c.1.fact 50 (f := .free "isinstance") rfl)
    len := He.free_ok X G (c.1.fact 51 (f := .free "len") rfl)
    list := He.free_ok X G (c.1.fact 52 (f := .free "list") rfl)
    range := He.free_ok X G (c.1.fact 53 (f := .free "range") rfl)
    set := He.free_ok X G (c.1.fact 54 (f := .free "set") rfl)
    sum := He.free_ok X G (c.1.fact 55 (f := .free "sum") rfl)
    m_SignError := He.glo_ok X G (c.1.fact 21 (f := .glo "SignError") rfl)
    x_SignError := xok_of (c.1.fact 22 (f := .exc "SignError") rfl)
    m_NoRow := He.glo_ok X G (c.1.fact 23 (f := .glo "NoRow") rfl)
    x_NoRow := xok_of (c.1.fact 24 (f := .exc "NoRow") rfl)
    m_NoSums := He.glo_ok X G (c.1.fact 25 (f := .glo "NoSums") rfl)
    x_NoSums := xok_of (c.1.fact 26 (f := .exc "NoSums") rfl)
    m_NoMatch := He.glo_ok X G (c.1.fact 27 (f := .glo "NoMatch") rfl)
    x_NoMatch := xok_of (c.1.fact 28 (f := .exc "NoMatch") rfl)
    m_TooLong := He.glo_ok X G (c.1.fact 29 (f := .glo "TooLong") rfl)
    x_TooLong := xok_of (c.1.fact 30 (f := .exc "TooLong") rfl)
    m_NoStep := He.glo_ok X G (c.1.fact 31 (f := .glo "NoStep") rfl)
    x_NoStep := xok_of (c.1.fact 32 (f := .exc "NoStep") rfl)
    m_NoSigns := He.glo_ok X G (c.1.fact 33 (f := .glo "NoSigns") rfl)
    x_NoSigns := xok_of (c.1.fact 34 (f := .exc "NoSigns") rfl)
    m_NoChoice := He.glo_ok X G (c.1.fact 35 (f := .glo "NoChoice") rfl)
    x_NoChoice := xok_of (c.1.fact 36 (f := .exc "NoChoice") rfl)
    m_NoFlat := He.glo_ok X G (c.1.fact 37 (f := .glo "NoFlat") rfl)
    x_NoFlat := xok_of (c.1.fact 38 (f := .exc "NoFlat") rfl)
    m_NoNote := He.glo_ok X G (c.1.fact 39 (f := .glo "NoNote") rfl)
    x_NoNote := xok_of (c.1.fact 40 (f := .exc "NoNote") rfl)
    m_LENGTHS := He.glo_ok X G (c.1.fact 41 (f := .glo "LENGTHS") rfl)
    v_LENGTHS := fun H => He.tupB_ok hx.1.1 H
    m_MOST := He.int_ok X G (c.1.fact 42 (f := .int "MOST" 100000000000000000000) rfl)
    m_MOST_LONG := He.int_ok X G (c.1.fact 43 (f := .int "MOST_LONG" 32) rfl)
    m_FLAT_FOUR := He.glo_ok X G (c.1.fact 44 (f := .glo "FLAT_FOUR") rfl)
    v_FLAT_FOUR := fun H => He.tupB_ok hx.1.2 H
    d_ask_row := d_ask_row
    g_ask_row := He.glo_ok X G (c.1.fact 0 (f := .glo "ask_row") rfl)
    F_ask_row := F_ask_row
    b_ask_row := F_ask_row.binds fun _ _ _ _ _ _ us hl => match us, hl with | [_], _ => rfl
    d_summed := d_summed
    g_summed := He.glo_ok X G (c.1.fact 1 (f := .glo "summed") rfl)
    F_summed := F_summed
    b_summed := F_summed.binds fun _ _ _ _ _ _ us hl => match us, hl with | [_], _ => rfl
    d_tied := d_tied
    g_tied := He.glo_ok X G (c.1.fact 2 (f := .glo "tied") rfl)
    F_tied := F_tied
    b_tied := F_tied.binds fun _ _ _ _ _ _ us hl => match us, hl with | [_, _], _ => rfl
    d_ask_steps := d_ask_steps
    g_ask_steps := He.glo_ok X G (c.1.fact 3 (f := .glo "ask_steps") rfl)
    F_ask_steps := F_ask_steps
    b_ask_steps := F_ask_steps.binds fun _ _ _ _ _ _ us hl => match us, hl with | [_], _ => rfl
    d_are_signs := d_are_signs
    g_are_signs := He.glo_ok X G (c.1.fact 4 (f := .glo "are_signs") rfl)
    F_are_signs := F_are_signs
    b_are_signs := F_are_signs.binds fun _ _ _ _ _ _ us hl => match us, hl with | [_], _ => rfl
    d_ask_signs := d_ask_signs
    g_ask_signs := He.glo_ok X G (c.1.fact 5 (f := .glo "ask_signs") rfl)
    F_ask_signs := F_ask_signs
    b_ask_signs := F_ask_signs.binds fun _ _ _ _ _ _ us hl => match us, hl with | [_], _ => rfl
    d_nearest := d_nearest
    g_nearest := He.glo_ok X G (c.1.fact 6 (f := .glo "nearest") rfl)
    F_nearest := F_nearest
    b_nearest := F_nearest.binds fun _ _ _ _ _ _ us hl => match us, hl with | [_], _ => rfl
    d_is_flat := d_is_flat
    g_is_flat := He.glo_ok X G (c.1.fact 7 (f := .glo "is_flat") rfl)
    F_is_flat := F_is_flat
    b_is_flat := F_is_flat.binds fun _ _ _ _ _ _ us hl => match us, hl with | [_], _ => rfl
    d_flat := d_flat
    g_flat := He.glo_ok X G (c.1.fact 8 (f := .glo "flat") rfl)
    F_flat := F_flat
    b_flat := F_flat.binds fun _ _ _ _ _ _ us hl => match us, hl with | [_], _ => rfl
    d__law_cell_at := d__law_cell_at
    g__law_cell_at := He.glo_ok X G (c.1.fact 9 (f := .glo "_law_cell_at") rfl)
    F__law_cell_at := F__law_cell_at
    b__law_cell_at := F__law_cell_at.binds fun _ _ _ _ _ _ us hl => match us, hl with | [_, _], _ => rfl
    d__law_whole := d__law_whole
    g__law_whole := He.glo_ok X G (c.1.fact 10 (f := .glo "_law_whole") rfl)
    F__law_whole := F__law_whole
    b__law_whole := F__law_whole.binds fun _ _ _ _ _ _ us hl => match us, hl with | [_], _ => rfl
    d__law_next := d__law_next
    g__law_next := He.glo_ok X G (c.1.fact 11 (f := .glo "_law_next") rfl)
    F__law_next := F__law_next
    b__law_next := F__law_next.binds fun _ _ _ _ _ _ us hl => match us, hl with | [_], _ => rfl
    d__law_row := d__law_row
    g__law_row := He.glo_ok X G (c.1.fact 12 (f := .glo "_law_row") rfl)
    F__law_row := F__law_row
    b__law_row := F__law_row.binds fun _ _ _ _ _ _ us hl => match us, hl with | [_, _, _, _], _ => rfl
    d__law_sign := d__law_sign
    g__law_sign := He.glo_ok X G (c.1.fact 13 (f := .glo "_law_sign") rfl)
    F__law_sign := F__law_sign
    b__law_sign := F__law_sign.binds fun _ _ _ _ _ _ us hl => match us, hl with | [_, _], _ => rfl
    d__law_sums := d__law_sums
    g__law_sums := He.glo_ok X G (c.1.fact 14 (f := .glo "_law_sums") rfl)
    F__law_sums := F__law_sums
    b__law_sums := F__law_sums.binds fun _ _ _ _ _ _ us hl => match us, hl with | [_], _ => rfl
    d__law_alike := d__law_alike
    g__law_alike := He.glo_ok X G (c.1.fact 15 (f := .glo "_law_alike") rfl)
    F__law_alike := F__law_alike
    b__law_alike := F__law_alike.binds fun _ _ _ _ _ _ us hl => match us, hl with | [_, _], _ => rfl
    d__law_kind := d__law_kind
    g__law_kind := He.glo_ok X G (c.1.fact 16 (f := .glo "_law_kind") rfl)
    F__law_kind := F__law_kind
    b__law_kind := F__law_kind.binds fun _ _ _ _ _ _ us hl => match us, hl with | [_], _ => rfl
    d__law_tried := d__law_tried
    g__law_tried := He.glo_ok X G (c.1.fact 17 (f := .glo "_law_tried") rfl)
    F__law_tried := F__law_tried
    b__law_tried := F__law_tried.binds fun _ _ _ _ _ _ us hl => match us, hl with | [_], _ => rfl
    d__law_is_flat := d__law_is_flat
    g__law_is_flat := He.glo_ok X G (c.1.fact 18 (f := .glo "_law_is_flat") rfl)
    F__law_is_flat := F__law_is_flat
    b__law_is_flat := F__law_is_flat.binds fun _ _ _ _ _ _ us hl => match us, hl with | [_], _ => rfl
    d__law_held := d__law_held
    g__law_held := He.glo_ok X G (c.1.fact 19 (f := .glo "_law_held") rfl)
    F__law_held := F__law_held
    b__law_held := F__law_held.binds fun _ _ _ _ _ _ us hl => match us, hl with | [_], _ => rfl
    d_law := d_law
    g_law := He.glo_ok X G (c.1.fact 20 (f := .glo "law") rfl)
    F_law := F_law
    b_law := F_law.binds fun _ _ _ _ _ _ us hl => match us, hl with | [_], _ => rfl
    kinds := kindsB_ok hx.2
    c_NoRow := He.exm_ok (c.1.fact 56 (f := .exm "NoRow" "SignError" true) rfl)
    c_NoSums := He.exm_ok (c.1.fact 57 (f := .exm "NoSums" "SignError" true) rfl)
    c_NoMatch := He.exm_ok (c.1.fact 58 (f := .exm "NoMatch" "SignError" true) rfl)
    c_TooLong := He.exm_ok (c.1.fact 59 (f := .exm "TooLong" "SignError" true) rfl)
    c_NoStep := He.exm_ok (c.1.fact 60 (f := .exm "NoStep" "SignError" true) rfl)
    c_NoSigns := He.exm_ok (c.1.fact 61 (f := .exm "NoSigns" "SignError" true) rfl)
    c_NoChoice := He.exm_ok (c.1.fact 62 (f := .exm "NoChoice" "SignError" true) rfl)
    c_NoFlat := He.exm_ok (c.1.fact 63 (f := .exm "NoFlat" "SignError" true) rfl)
    c_NoNote := He.exm_ok (c.1.fact 64 (f := .exm "NoNote" "SignError" true) rfl) }⟩
end Sg
namespace Sg
open PySem PySem.Spec PyProof.Rows L2 Evl
section
variable {P : Program} {w : World} {K : PySem.W.Frag} {mg : Str → Option Value} {base : Heap}
theorem law_binds (T : Txt K mg) (s : Shared) (u : Value) : BindsTo s T.d_law ⟨[u], []⟩ [("script", u)] := by
  obtain ⟨oc, od, kV, doc, pm, an, cdv, ct, osl, e, _, _⟩ := T.F_law.ex
  rw [e]
  exact .of_eq rfl
theorem all_ok (T : Txt K mg) : FnOk P w K mg base CX0 5 (He.ga K "law") T.d_law ["script"] (sp_law K) := by
  have G_ask_row := ok_ask_row (P := P) (w := w) (base := base) T
  have G_summed := ok_summed (P := P) (w := w) (base := base) T
  have G_ask_steps := ok_ask_steps (P := P) (w := w) (base := base) T
  have G_are_signs := ok_are_signs (P := P) (w := w) (base := base) T
  have G_law_cell_at := ok_law_cell_at (P := P) (w := w) (base := base) T
  have G_law_whole := ok_law_whole (P := P) (w := w) (base := base) T
  have G_law_next := ok_law_next (P := P) (w := w) (base := base) T
  have G_law_sign := ok_law_sign (P := P) (w := w) (base := base) T
  have G_law_kind := ok_law_kind (P := P) (w := w) (base := base) T
  have G_tied := ok_tied (P := P) (w := w) (base := base) T G_ask_row
  have G_ask_signs := ok_ask_signs (P := P) (w := w) (base := base) T G_are_signs
  have G_law_row := ok_law_row (P := P) (w := w) (base := base) T G_law_next
  have G_law_sums := ok_law_sums (P := P) (w := w) (base := base) T G_law_sign
  have G_law_alike := ok_law_alike (P := P) (w := w) (base := base) T G_law_whole
  have G_nearest := ok_nearest (P := P) (w := w) (base := base) T G_ask_row G_ask_signs G_summed
  have G_is_flat := ok_is_flat (P := P) (w := w) (base := base) T G_ask_row G_ask_signs G_summed
  have G_flat := ok_flat (P := P) (w := w) (base := base) T G_ask_steps G_tied
  have G_law_is_flat := ok_law_is_flat (P := P) (w := w) (base := base) T G_law_sums
  have G_law_tried := ok_law_tried (P := P) (w := w) (base := base) T G_flat G_law_kind
  have G_law_held := ok_law_held (P := P) (w := w) (base := base) T G_is_flat G_law_is_flat
  have G_law := ok_law (P := P) (w := w) (base := base) T G_law_row G_law_tried G_flat G_tied G_law_cell_at G_law_held G_is_flat G_law_alike G_law_is_flat G_nearest G_law_sign
  exact G_law
end
end Sg
open PySem PySem.W PySem.Calls PyProof.Rows
set_option maxHeartbeats 0 in
theorem PySem.Challenge.cw_signsums_k10_whole_flat_holds : PySem.Challenge.rw_signsums_k10_whole_flat.Holds := by
  w_on; o_law
  refine HandSHeadRun.head_any (r := OpenLaw.row PySem.Challenge.rw_signsums_k10_whole_flat) (q := view (OpenLaw.row PySem.Challenge.rw_signsums_k10_whole_flat).prog [40]) (H := Sg.headHk) (ob := Sg.headOb) (M := 3000) (loose := Sg.headLoose) (d := HandSHeadRun.topDef (OpenLaw.row PySem.Challenge.rw_signsums_k10_whole_flat).prog 40) (kwd := []) Sg.headOb_eq
    (by kernel_rfl) (fun s => by kernel_rfl) Sg.headRun (by kernel_rfl) (by kernel_rfl) (by kernel_rfl) (by rfl) (by first | assumption | decide +kernel) (by decide +kernel) ⟨rfl, rfl, rfl, rfl, rfl, by decide +kernel⟩ ?hw ?hc
  case hw => w_witness2
  case hc =>
    refine L2.walk_ofE (l := PySem.Challenge.rw_signsums_k10_whole_flat) (n := 63) (k := 5) (x := "script") (CX := L2.CX0) rfl (by decide) (by kernel_rfl) ⟨rfl, by decide, by decide⟩ ?F (fun _ _ _ _ z => z)
    intro w mg fa h Y G hmg0
    obtain ⟨K, KX, c⟩ := Y
    obtain ⟨T⟩ := Sg.head_txt KX G c
    have hmg : mg ("law" : PySem.Str) = some (.ref fa) := by
      have e : (HandSHeadRun.topDef (OpenLaw.row PySem.Challenge.rw_signsums_k10_whole_flat).prog 40).name = ("law" : PySem.Str) := by kernel_rfl
      rw [← e]
      exact hmg0
    have ea := T.g_law.symm.trans hmg
    cases ea
    have b := T.b_law
    exact ⟨K, T.d_law, Sg.sp_law K, KX, Sg.law_binds T, fun H a ns hl _ hS => ⟨a, ns, rfl, hS, hl, fun _ => rfl⟩, fun base _ _ => Sg.all_ok T⟩

