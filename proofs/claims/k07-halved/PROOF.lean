import PyProof.Rows.All
import Wide.All
import OpenK.AllK
import Wide.FinOn
import Lean
import KE.KIsAll
import HandS.ForMost
import HandS.ForExc
import HandS.Evl
import HandS.Wide
import HandS.IsInst
import HandS.ExcIs
import HandS.Zip
import HandS.Conv
import HandS.Defaults
import HandS.HotCalls
import HandS.SuiteRaise
import HandS.Head0
import HandS.Head1
import HandS.Head2
import HandS.HeadEnd
import HandS.HeadHook1
import HandS.HeadHook2
import PySem.Challenge.RW_signsums_k07_whole_halved
set_option Elab.async false
set_option linter.all false
set_option maxRecDepth 100000
set_option maxHeartbeats 4000000
namespace Sg
open PySem PySem.Spec PyProof.Rows L2 Evl
/-! ### the readings' short names -/
abbrev rAddI : R2 := rI0 fun i j => .int (i + j)
abbrev rSubI : R2 := rI0 fun i j => .int (i - j)
abbrev rMulI : R2 := rI CMulW fun i j => .int (i * j)
abbrev rModI : R2 := rI (fun _ j => 0 < j) fun i j => .int (i % j)
abbrev rDivI : R2 := rI CDiv fun i j => .int (i / j)
abbrev rPowI : R2 := rI CPow fun i j => .int (i ^ j.toNat)
abbrev rNegI : V → Hp → VK → Prop := rU fun i => .int (-i)
abbrev rLtI : R2 := rI0 fun i j => .bl (decide (i < j))
abbrev rLeI : R2 := rI0 fun i j => .bl (decide (i ≤ j))
abbrev rGtI : R2 := rI0 fun i j => .bl (decide (j < i))
abbrev rGeI : R2 := rI0 fun i j => .bl (decide (j ≤ i))
abbrev rIsNo : R2 := fun x y H Q => y = .non ∧ Q (.bl (decide (x = .non))) H
abbrev rAddStr : R2 := fun x y H Q => ∃ i j, x = .str i ∧ y = .str j ∧ i.length + j.length ≤ sizeLine ∧ Q (.str (i ++ j)) H
abbrev rAbs : List V → Hp → VK → Prop := fun xs H Q => ∃ i, xs = [.int i] ∧ Q (.int (if i < 0 then -i else i)) H
abbrev rInt1 : List V → Hp → VK → Prop := fun xs H Q => (∃ i, xs = [.int i] ∧ Q (.int i) H) ∨ ∃ k, xs = [.bl k] ∧ Q (.int (if k then 1 else 0)) H
abbrev rIntStr : List V → Hp → VK → Prop := fun xs H Q => ∃ a n, xs = [.str a] ∧ PySem.intText? a = some n ∧ a.length ≤ 640 ∧ Q (.int n) H
abbrev rStrInt : List V → Hp → VK → Prop := fun xs H Q => ∃ i, xs = [.int i] ∧ i.natAbs.log2 < 1920 ∧ Q (.str (toString i)) H
abbrev rLenStr : List V → Hp → VK → Prop := fun xs H Q => ∃ z, xs = [.str z] ∧ z.length ≤ sizeLine ∧ Q (.int z.length) H
/-- raise of an own class -/
def tRz (E : XK) (C : Addr) : TS := fun _ _ H => E (.ref C) none H
/-! ### an own class of errors, as the head tells it -/
structure XOk (K : PySem.W.Frag) (C : Addr) : Prop where
  ok : PySem.W.excIn K C [.type "ValueError", .type "Exception", .type "BaseException", .type "object"] "ValueError.__new__" = true
  kp : PySem.W.keepIn K (.ref C) = true
  sb : PySem.W.subIn K (.ref C) (.type "BaseException") = some true
  ty : PySem.W.typeIn K (.ref C) = some (.type "type")
end Sg
namespace Sg
open PySem PySem.Spec PyProof.Rows L2 Evl
/-! ### rows -/
def IsRow (ns : List Int) : Prop := ns.length ∈ [1, 2, 4, 8, 16, 32] ∧ ∀ x ∈ ns, -100000000000000000000 ≤ x ∧ x ≤ 100000000000000000000
/-- the sum of the first n values -/
def sm (n : Nat) (f : Nat → Int) : Int := ((List.range n).map f).sum
/-- the sign of a place by a choice, as the law reckons it -/
def sgStep (p c : Int) (f w : Int) : Int := if p / w % 2 = 1 ∧ c / w % 2 = 1 then 0 - f else f
def sg (p c : Int) : Int := [1, 2, 4, 8, 16].foldl (sgStep p c) 1
def sumAt (ns : List Int) (c : Nat) : Int := sm ns.length fun p => sg p c * ns.getD p 0
def sumsL (ns : List Int) : List Int := (List.range ns.length).map (sumAt ns)
/-! ### the law's draws -/
def cellAt (ns : List Int) (k : Nat) : Int := ns.getD k 0
def lawNext (s : Int) : Int := ((s + 7919) % 2147483647 * ((s + 7919) % 2147483647) + 48271 * ((s + 7919) % 2147483647) + 12345) % 2147483629
def num1 (cell way great : Int) : Int := if way / 4 % 2 = 1 then (cell / 7 % 2000001 - 1000000) * great + (1 - 2 * (if cell / 7 % 2000001 - 1000000 < 0 then 1 else 0)) * (cell / 64 % great) else cell / 7 % 2000001 - 1000000
def num2 (cell way x : Int) : Int := if way % 4 = 0 then 1 - 2 * (cell / 7 % 2) else x
def num3 (cell way x : Int) : Int := if way % 4 = 1 then cell / 7 % 9 - 4 else x
def num4 (cell way x : Int) : Int := if way % 4 = 3 ∧ 0 < cell / 14000007 % 3 then 0 else x
def lawNum (cell way great : Int) : Int := num4 cell way (num3 cell way (num2 cell way (num1 cell way great)))
/-- the cell behind i turns -/
def lawCell (cell : Int) : Nat → Int
  | 0 => cell
  | i + 1 => lawNext (lawCell cell i % 1000003 + 31 * (i : Int))
def lawRow (cell : Int) (n : Nat) (way great : Int) : List Int := (List.range n).map fun i => lawNum (lawCell cell (i + 1)) way great
end Sg
namespace Sg
theorem sg_abs_aux (p c : Int) : ∀ (l : List Int) (f : Int), f.natAbs = 1 → (l.foldl (sgStep p c) f).natAbs = 1
  | [], _, h => h
  | w :: l, f, h => by
    refine sg_abs_aux p c l _ ?_
    unfold sgStep
    split <;> omega
theorem sg_abs1 (p c : Int) : (sg p c).natAbs = 1 := sg_abs_aux p c _ 1 rfl
theorem sg_abs (p c : Int) : (sg p c).natAbs < 2 ^ 2 := by rw [sg_abs1]; decide
end Sg
namespace Sg
theorem lawNext_bd (s : Int) : 0 ≤ lawNext s ∧ lawNext s < 2147483629 := by
  unfold lawNext
  omega
theorem lawCell_bd (c : Int) (i : Nat) : 0 ≤ lawCell c (i + 1) ∧ lawCell c (i + 1) < 2147483629 := lawNext_bd _
theorem lawRow_length (c : Int) (n : Nat) (w g : Int) : (lawRow c n w g).length = n := by
  unfold lawRow
  rw [List.length_map, List.length_range]
theorem pow_cases {s : Nat} (h : s ≤ 5) : s = 0 ∨ s = 1 ∨ s = 2 ∨ s = 3 ∨ s = 4 ∨ s = 5 := by omega
end Sg
namespace Sg
/-! ### how great the law's numbers are -/
theorem num1_bd {cell way g : Int} (hc : 0 ≤ cell) (hg : 0 < g) : -(1000001 * g) ≤ num1 cell way g ∧ num1 cell way g ≤ 1000001 * g := by
  unfold num1
  have z0 : -1000000 ≤ cell / 7 % 2000001 - 1000000 ∧ cell / 7 % 2000001 - 1000000 ≤ 1000000 := by omega
  generalize cell / 7 % 2000001 - 1000000 = n at z0
  have z1 := Int.emod_nonneg (cell / 64) (show g ≠ 0 by omega)
  have z2 := Int.emod_lt_of_pos (cell / 64) hg
  generalize cell / 64 % g = r at z1 z2
  have h1 : n * g ≤ 1000000 * g := Int.mul_le_mul_of_nonneg_right z0.2 (by omega)
  have h2 : (-1000000) * g ≤ n * g := Int.mul_le_mul_of_nonneg_right z0.1 (by omega)
  generalize n * g = m at h1 h2
  split
  · split
    · rw [show (1 - 2 * 1 : Int) = -1 from rfl]
      omega
    · omega
  · omega
theorem lawNum_bd {cell way g : Int} (hc : 0 ≤ cell) (hg : 0 < g) : -(1000001 * g) ≤ lawNum cell way g ∧ lawNum cell way g ≤ 1000001 * g := by
  have h1 := num1_bd (way := way) hc hg
  unfold lawNum num4 num3 num2
  generalize num1 cell way g = n at h1
  have a1 : 0 ≤ cell / 7 % 2 ∧ cell / 7 % 2 ≤ 1 := by omega
  have a2 : 0 ≤ cell / 7 % 9 ∧ cell / 7 % 9 ≤ 8 := by omega
  repeat' split
  all_goals omega
theorem lawRow_bd {c way g : Int} {n : Nat} (hg : 0 < g) : ∀ x ∈ lawRow c n way g, -(1000001 * g) ≤ x ∧ x ≤ 1000001 * g := by
  intro x hx
  unfold lawRow at hx
  obtain ⟨i, _, rfl⟩ := List.mem_map.mp hx
  exact lawNum_bd (lawCell_bd c i).1 hg
theorem pow_mem {s : Nat} (h : s ≤ 5) : 2 ^ s ∈ [1, 2, 4, 8, 16, 32] := by
  rcases pow_cases h with rfl | rfl | rfl | rfl | rfl | rfl <;> decide
theorem lawRow_isRow {c way g : Int} {s : Nat} (hs : s ≤ 5) (hg : 0 < g) (hb : 1000001 * g ≤ 100000000000000000000) : IsRow (lawRow c (2 ^ s) way g) := by
  refine ⟨by rw [lawRow_length]; exact pow_mem hs, fun x hx => ?_⟩
  have := lawRow_bd hg x hx
  omega
/-- sums are as long as the row -/
theorem sumsL_length (ns : List Int) : (sumsL ns).length = ns.length := by
  unfold sumsL
  rw [List.length_map, List.length_range]
/-- the law's steps: a rest by n, and one more -/
theorem steps_at (i j : Int) (n : Nat) (hn : 0 < n) : ∃ s : Nat, s ≤ n ∧ i % (n : Int) + (if decide (j % 6 = 1) = true then 1 else 0) = (s : Int) := by
  have h1 := Int.emod_nonneg i (show (n : Int) ≠ 0 by omega)
  have h2 := Int.emod_lt_of_pos i (show (0 : Int) < n by omega)
  refine ⟨(i % (n : Int) + (if decide (j % 6 = 1) = true then 1 else 0)).toNat, ?_, ?_⟩ <;> split <;> omega
end Sg
namespace Sg
/-! ### sums -/
theorem sm_zero (f : Nat → Int) : sm 0 f = 0 := rfl
theorem sum_append1 (l : List Int) (x : Int) : (l ++ [x]).sum = l.sum + x := by
  induction l with
  | nil => simp
  | cons a l ih => rw [List.cons_append, List.sum_cons, List.sum_cons, ih]; omega
theorem sm_succ (n : Nat) (f : Nat → Int) : sm (n + 1) f = sm n f + f n := by
  unfold sm
  rw [List.range_succ, List.map_append]
  exact sum_append1 _ _
theorem sm_congr {n : Nat} {f g : Nat → Int} (h : ∀ i, i < n → f i = g i) : sm n f = sm n g := by
  induction n with
  | zero => rfl
  | succ n ih => rw [sm_succ, sm_succ, ih fun i hi => h i (by omega), h n (by omega)]
theorem sm_add (n : Nat) (f g : Nat → Int) : sm n (fun i => f i + g i) = sm n f + sm n g := by
  induction n with
  | zero => rfl
  | succ n ih => rw [sm_succ, sm_succ, sm_succ, ih]; omega
theorem sm_sub (n : Nat) (f g : Nat → Int) : sm n (fun i => f i - g i) = sm n f - sm n g := by
  induction n with
  | zero => rfl
  | succ n ih => rw [sm_succ, sm_succ, sm_succ, ih]; omega
theorem sm_mulL (n : Nat) (a : Int) (f : Nat → Int) : sm n (fun i => a * f i) = a * sm n f := by
  induction n with
  | zero => rw [sm_zero, sm_zero, Int.mul_zero]
  | succ n ih => rw [sm_succ, sm_succ, ih, Int.mul_add]
theorem sm_mulR (n : Nat) (a : Int) (f : Nat → Int) : sm n (fun i => f i * a) = sm n f * a := by
  rw [Int.mul_comm, ← sm_mulL]
  exact sm_congr fun i _ => Int.mul_comm _ _
theorem sm_const0 (n : Nat) : sm n (fun _ => 0) = 0 := by
  induction n with
  | zero => rfl
  | succ n ih => rw [sm_succ, ih] <;> rfl
theorem sm_swap (n m : Nat) (f : Nat → Nat → Int) : sm n (fun i => sm m (fun j => f i j)) = sm m (fun j => sm n (fun i => f i j)) := by
  induction n with
  | zero => rw [sm_zero, show sm m (fun j => sm 0 fun i => f i j) = sm m (fun _ => 0) from rfl, sm_const0]
  | succ n ih =>
    rw [sm_succ, ih, ← sm_add]
    exact sm_congr fun j _ => (sm_succ n fun i => f i j).symm
theorem sm_delta (n : Nat) (f : Nat → Int) (j : Nat) : sm n (fun p => f p * (if p = j then 1 else 0)) = if j < n then f j else 0 := by
  induction n with
  | zero => rw [sm_zero, if_neg (by omega)]
  | succ n ih =>
    rw [sm_succ, ih]
    by_cases h : n = j
    · rw [if_pos h, h, if_neg (by omega), if_pos (by omega)]; omega
    · rw [if_neg h]
      by_cases h2 : j < n
      · rw [if_pos h2, if_pos (by omega)]; omega
      · rw [if_neg h2, if_neg (by omega)]; omega
theorem sm_split (n m : Nat) (f : Nat → Int) : sm (n + m) f = sm n f + sm m (fun i => f (n + i)) := by
  induction m with
  | zero => rw [sm_zero, Nat.add_zero]; omega
  | succ m ih => rw [← Nat.add_assoc, sm_succ, ih, sm_succ]; omega
/-! ### the program's steps -/
def stepAt (w : Nat) (f : Nat → Int) (j : Nat) : Int := if j / w % 2 = 0 then f j + f (j + w) else f (j - w) - f j
def fast : Nat → (Nat → Int) → Nat → Int
  | 0, f => f
  | k + 1, f => stepAt (2 ^ k) (fast k f)
theorem fast_lin (n : Nat) (a : Nat → Int) (d : Nat → Nat → Int) : ∀ k c, fast k (fun j => sm n fun p => a p * d p j) c = sm n fun p => a p * fast k (d p) c
  | 0, _ => rfl
  | k + 1, c => by
    have ih := fast_lin n a d k
    show stepAt (2 ^ k) (fast k (fun j => sm n fun p => a p * d p j)) c = _
    unfold stepAt
    by_cases h : c / 2 ^ k % 2 = 0
    · rw [if_pos h, ih, ih, ← sm_add]
      refine sm_congr fun p _ => ?_
      show _ = a p * stepAt (2 ^ k) (fast k (d p)) c
      unfold stepAt
      rw [if_pos h, Int.mul_add]
    · rw [if_neg h, ih, ih, ← sm_sub]
      refine sm_congr fun p _ => ?_
      show _ = a p * stepAt (2 ^ k) (fast k (d p)) c
      unfold stepAt
      rw [if_neg h, Int.mul_sub]
theorem fast_basis : ∀ s, s < 6 → ∀ p, p < 2 ^ s → ∀ c, c < 2 ^ s → fast s (fun j => if p = j then 1 else 0) c = sg p c := by decide +kernel
theorem fast_eq {s : Nat} (hs : s < 6) {f : Nat → Int} (hf : ∀ j, 2 ^ s ≤ j → f j = 0) {c : Nat} (hc : c < 2 ^ s) : fast s f c = sm (2 ^ s) fun p => sg p c * f p := by
  have e : f = fun j => sm (2 ^ s) fun p => f p * (if p = j then 1 else 0) := by
    funext j
    rw [sm_delta]
    by_cases h : j < 2 ^ s
    · rw [if_pos h]
    · rw [if_neg h, hf j (by omega)]
  have e2 := fast_lin (2 ^ s) f (fun p j => if p = j then 1 else 0) s c
  rw [← e] at e2
  rw [e2]
  exact sm_congr fun p hp => by rw [fast_basis s hs p hp c hc, Int.mul_comm]
theorem half_lt {s k j : Nat} (hs : s < 6) (hk : k < s) (hj : j < 2 ^ s) (h : j / 2 ^ k % 2 = 0) : j + 2 ^ k < 2 ^ s := by
  have z : ∀ s, s < 6 → ∀ k, k < s → ∀ j, j < 2 ^ s → j / 2 ^ k % 2 = 0 → j + 2 ^ k < 2 ^ s := by decide +kernel
  exact z s hs k hk j hj h
theorem odd_ge {k j : Nat} (h : ¬ j / 2 ^ k % 2 = 0) : 2 ^ k ≤ j := by
  refine Nat.le_of_not_lt fun q => h ?_
  rw [Nat.div_eq_of_lt q]
end Sg
namespace Sg
theorem pow_le' {s : Nat} (h : s < 6) : 2 ^ s ≤ 32 := by
  have z : ∀ s, s < 6 → 2 ^ s ≤ 32 := by decide
  exact z s h
end Sg
namespace Sg
theorem row_pos {ns : List Int} (h : IsRow ns) : 0 < ns.length ∧ ns.length ≤ 32 := by
  have := h.1
  simp only [List.mem_cons, List.not_mem_nil, or_false] at this
  omega
theorem row_len {ns : List Int} (h : IsRow ns) : ns.length ∈ [1, 2, 4, 8, 16, 32] := h.1
theorem pow_of_mem {n : Nat} (h : n ∈ [1, 2, 4, 8, 16, 32]) : ∃ s, s < 6 ∧ n = 2 ^ s := by
  simp only [List.mem_cons, List.not_mem_nil, or_false] at h
  rcases h with rfl | rfl | rfl | rfl | rfl | rfl
  · exact ⟨0, by decide, rfl⟩
  · exact ⟨1, by decide, rfl⟩
  · exact ⟨2, by decide, rfl⟩
  · exact ⟨3, by decide, rfl⟩
  · exact ⟨4, by decide, rfl⟩
  · exact ⟨5, by decide, rfl⟩
theorem pow_le32 {s : Nat} (h : s < 6) : 2 ^ s ≤ 32 ∧ 1 ≤ 2 ^ s := by
  have z : ∀ s, s < 6 → 2 ^ s ≤ 32 ∧ 1 ≤ 2 ^ s := by decide
  exact z s h
theorem ints_ext {L : List Int} {n : Nat} {f : Nat → Int} (hl : L.length = n) (h : ∀ j, j < n → L.getD j 0 = f j) : L = (List.range n).map f := by
  refine List.ext_getElem (by rw [List.length_map, List.length_range, hl]) fun k h1 h2 => ?_
  have z := h k (by omega)
  rw [List.getD_eq_getElem?_getD, List.getElem?_eq_getElem h1] at z
  rw [List.getElem_map, List.getElem_range]
  exact z
theorem getD_set {L : List Int} {k j : Nat} {v : Int} (hk : k < L.length) : (L.set k v).getD j 0 = if j = k then v else L.getD j 0 := by
  rw [List.getD_eq_getElem?_getD, List.getElem?_set, List.getD_eq_getElem?_getD]
  by_cases h : k = j
  · rw [if_pos h, if_pos (by omega), if_pos h.symm] <;> rfl
  · rw [if_neg h, if_neg (fun e => h e.symm)]
end Sg
namespace Sg
open PySem PySem.Spec PyProof.Rows L2 Evl
/-! ### promises -/
def sp_ask_row (K : PySem.W.Frag) : Sp := fun vs H Q E => ∃ (a : Addr) (ns : List Int), vs = [.ref a] ∧ SqL K H a (ns.map V.int) ∧
  (IsRow ns → ∀ H', Ex H H' → Q .non H') ∧ (¬ IsRow ns → ∀ H', Ex H H' → E (.ref (He.ga K "NoRow")) none H')
def sp_summed (K : PySem.W.Frag) : Sp := fun vs H Q _ => ∃ (a : Addr) (ns : List Int), vs = [.ref a] ∧ SqL K H a (ns.map V.int) ∧ ns.length ∈ [1, 2, 4, 8, 16, 32] ∧ RetL ((sumsL ns).map V.int) H Q
def sp_sums (K : PySem.W.Frag) : Sp := fun vs H Q E => ∃ (a : Addr) (ns : List Int), vs = [.ref a] ∧ SqL K H a (ns.map V.int) ∧
  (IsRow ns → RetL ((sumsL ns).map V.int) H Q) ∧ (¬ IsRow ns → ∀ H', Ex H H' → E (.ref (He.ga K "NoRow")) none H')
def sp_law_cell_at (K : PySem.W.Frag) : Sp := fun vs H Q _ => ∃ (a : Addr) (ns : List Int) (k : Nat), vs = [.ref a, .int k] ∧ SqL K H a (ns.map V.int) ∧ RetV (.int (cellAt ns k)) H Q
def sp_law_whole (K : PySem.W.Frag) : Sp := fun vs H Q _ => ∃ i : Int, vs = [.int i] ∧ RetV (.bl true) H Q
def sp_law_next (K : PySem.W.Frag) : Sp := fun vs H Q _ => ∃ i : Int, vs = [.int i] ∧ RetV (.int (lawNext i)) H Q
def sp_law_row (K : PySem.W.Frag) : Sp := fun vs H Q _ => ∃ (c : Int) (s : Nat) (w g : Int), vs = [.int c, .int s, .int w, .int g] ∧ s ≤ 5 ∧ 0 < g ∧ g < 1073741824 * 1073741824 ∧ RetL ((lawRow c (2 ^ s) w g).map V.int) H Q
def sp_law_sign (K : PySem.W.Frag) : Sp := fun vs H Q _ => ∃ (p c : Int), vs = [.int p, .int c] ∧ RetV (.int (sg p c)) H Q
def sp_law_sums (K : PySem.W.Frag) : Sp := fun vs H Q _ => ∃ (a : Addr) (ns : List Int), vs = [.ref a] ∧ SqL K H a (ns.map V.int) ∧ ns.length ≤ 32 ∧ (∀ x ∈ ns, x.natAbs < 2 ^ 100) ∧ RetL ((sumsL ns).map V.int) H Q
def sp_law_alike (K : PySem.W.Frag) : Sp := fun vs H Q _ => ∃ (a b : Addr) (ns ms : List Int), vs = [.ref a, .ref b] ∧ SqL K H a (ns.map V.int) ∧ SqL K H b (ms.map V.int) ∧ ns.length ≤ 1000 ∧ RetV (.bl (decide (ns = ms))) H Q
def sp_law (K : PySem.W.Frag) : Sp := fun vs H Q _ => ∃ (a : Addr) (ns : List Int), vs = [.ref a] ∧ SqL K H a (ns.map V.int) ∧ ns.length ≤ 63 ∧ ∀ H', Q (.bl true) H'
/-! ### how many arguments -/
theorem len_ask_row {K : PySem.W.Frag} : ∀ vs H Q E, sp_ask_row K vs H Q E → vs.length = 1 := fun _ _ _ _ h => by
  obtain ⟨_, _, rfl, _⟩ := h; rfl
theorem len_summed {K : PySem.W.Frag} : ∀ vs H Q E, sp_summed K vs H Q E → vs.length = 1 := fun _ _ _ _ h => by
  obtain ⟨_, _, rfl, _⟩ := h; rfl
theorem len_sums {K : PySem.W.Frag} : ∀ vs H Q E, sp_sums K vs H Q E → vs.length = 1 := fun _ _ _ _ h => by
  obtain ⟨_, _, rfl, _⟩ := h; rfl
theorem len_law_cell_at {K : PySem.W.Frag} : ∀ vs H Q E, sp_law_cell_at K vs H Q E → vs.length = 2 := fun _ _ _ _ h => by
  obtain ⟨_, _, _, rfl, _⟩ := h; rfl
theorem len_law_whole {K : PySem.W.Frag} : ∀ vs H Q E, sp_law_whole K vs H Q E → vs.length = 1 := fun _ _ _ _ h => by
  obtain ⟨_, rfl, _⟩ := h; rfl
theorem len_law_next {K : PySem.W.Frag} : ∀ vs H Q E, sp_law_next K vs H Q E → vs.length = 1 := fun _ _ _ _ h => by
  obtain ⟨_, rfl, _⟩ := h; rfl
theorem len_law_row {K : PySem.W.Frag} : ∀ vs H Q E, sp_law_row K vs H Q E → vs.length = 4 := fun _ _ _ _ h => by
  obtain ⟨_, _, _, _, rfl, _⟩ := h; rfl
theorem len_law_sign {K : PySem.W.Frag} : ∀ vs H Q E, sp_law_sign K vs H Q E → vs.length = 2 := fun _ _ _ _ h => by
  obtain ⟨_, _, rfl, _⟩ := h; rfl
theorem len_law_sums {K : PySem.W.Frag} : ∀ vs H Q E, sp_law_sums K vs H Q E → vs.length = 1 := fun _ _ _ _ h => by
  obtain ⟨_, _, rfl, _⟩ := h; rfl
theorem len_law_alike {K : PySem.W.Frag} : ∀ vs H Q E, sp_law_alike K vs H Q E → vs.length = 2 := fun _ _ _ _ h => by
  obtain ⟨_, _, _, _, rfl, _⟩ := h; rfl
theorem len_law {K : PySem.W.Frag} : ∀ vs H Q E, sp_law K vs H Q E → vs.length = 1 := fun _ _ _ _ h => by
  obtain ⟨_, _, rfl, _⟩ := h; rfl
end Sg
namespace Sg
open PySem PySem.Spec PyProof.Rows L2 Evl
/-! ### readings: more words over Evl -/
section
variable {K : PySem.W.Frag} {σ : L2.St} {H : Hp} {ta tb te : TE} {x y z v : V}
theorem map_at {ns : List Int} {k : Nat} (h : k < ns.length) : (ns.map V.int)[k]? = some (.int (ns.getD k 0)) := by
  rw [List.getElem?_map, List.getElem?_eq_getElem h, List.getD_eq_getElem?_getD, List.getElem?_eq_getElem h] <;> rfl
theorem at_map {ns : List Int} {k : Nat} {i : Int} (e : i = (k : Int)) (h : k < ns.length) : atI (ns.map V.int) i = some (.int (ns.getD k 0)) := by
  rw [e]; exact atI_nat (map_at h)
theorem rv_ixN {p : Addr} {ns : List Int} {k : Nat} {i : Int} (h : SqL K H p (ns.map V.int)) (e : i = (k : Int)) (hk : k < ns.length) : RV (rIxL K) (.ref p) (.int i) H (.int (ns.getD k 0)) := rv_ixL h (at_map e hk)
theorem ev_lenM {p : Addr} {ns : List Int} (ha : Ev ta σ H (.ref p)) (h : SqL K H p (ns.map V.int)) : Ev (tCB (rLenS K) (tCons ta tNil)) σ H (.int (ns.length : Int)) := by
  have e := ev_len ha h
  rw [List.length_map] at e
  exact e
theorem rv_mul {i j : Int} {a b : Nat} (ha : i.natAbs < 2 ^ a) (hb : j.natAbs < 2 ^ b) (h0 : 0 < a) (h1 : 0 < b) (h : a + b ≤ 1000000) : RV rMulI (.int i) (.int j) H (.int (i * j)) := rv_I (C := CMulW) (g := fun i j => .int (i * j)) (wide_mul ha hb h0 h1 h)
theorem rv_mod {i j : Int} (h : 0 < j) : RV rModI (.int i) (.int j) H (.int (i % j)) := rv_I (C := fun _ j => 0 < j) (g := fun i j => .int (i % j)) h
theorem rv_div {i j : Int} (h : 0 < j) (h2 : j < 1073741824) : RV rDivI (.int i) (.int j) H (.int (i / j)) := rv_I (C := CDiv) (g := fun i j => .int (i / j)) ⟨h, h2⟩
theorem rv_add {i j : Int} : RV rAddI (.int i) (.int j) H (.int (i + j)) := rv_I0 (g := fun i j => .int (i + j))
theorem rv_sub {i j : Int} : RV rSubI (.int i) (.int j) H (.int (i - j)) := rv_I0 (g := fun i j => .int (i - j))
theorem rv_lt {i j : Int} : RV rLtI (.int i) (.int j) H (.bl (decide (i < j))) := rv_I0 (g := fun i j => .bl (decide (i < j)))
theorem rv_le {i j : Int} : RV rLeI (.int i) (.int j) H (.bl (decide (i ≤ j))) := rv_I0 (g := fun i j => .bl (decide (i ≤ j)))
theorem rv_gt {i j : Int} : RV rGtI (.int i) (.int j) H (.bl (decide (j < i))) := rv_I0 (g := fun i j => .bl (decide (j < i)))
theorem rv_ge {i j : Int} : RV rGeI (.int i) (.int j) H (.bl (decide (j ≤ i))) := rv_I0 (g := fun i j => .bl (decide (j ≤ i)))
theorem dec_V {i j : Int} : decide (V.int i = V.int j) = decide (i = j) := by
  by_cases e : i = j
  · rw [e, decide_eq_true rfl, decide_eq_true rfl]
  · rw [decide_eq_false e, decide_eq_false fun q => e (V.int.inj q)]
theorem rv_eqI {i j : Int} : RV rEq (.int i) (.int j) H (.bl (decide (i = j))) := by
  have h := rv_eq (H := H) (x := .int i) (y := .int j) rfl
  rw [dec_V] at h
  exact h
theorem rv_neI {i j : Int} : RV rNe (.int i) (.int j) H (.bl (!decide (i = j))) := by
  have h := rv_ne (H := H) (x := .int i) (y := .int j) rfl
  rw [dec_V] at h
  exact h
theorem ev_int1 {i : Int} (h : Ev te σ H (.int i)) : Ev (tCB rInt1 (tCons te tNil)) σ H (.int i) := fun H1 e Q q => h H1 e _ fun H2 e2 => .inl ⟨i, rfl, q H2 e2⟩
theorem ev_int1b {k : Bool} (h : Ev te σ H (.bl k)) : Ev (tCB rInt1 (tCons te tNil)) σ H (.int (if k then 1 else 0)) := fun H1 e Q q => h H1 e _ fun H2 e2 => .inr ⟨k, rfl, q H2 e2⟩
theorem ev_neg {i : Int} (h : Ev te σ H (.int i)) : Ev (tUn rNegI te) σ H (.int (-i)) := ev_un h ru_neg
theorem ev_chain {r r' : R2} {tc : TE} {a b c : V} {k k' : Bool} (ha : Ev ta σ H a) (hb : Ev tb σ H b) (hr : RV r a b H (.bl k)) (hc : Ev tc σ H c) (hr' : RV r' b c H (.bl k')) : Ev (tChain r r' ta tb tc) σ H (.bl (k && k')) := fun H1 e Q q =>
  ha H1 e _ fun H2 e2 => hb H2 (e.trans e2) _ fun H3 e3 => hr H3 ((e.trans e2).trans e3) _ fun H4 e4 => ⟨k, rfl, by
    cases k with
    | false => exact q H4 ((e2.trans e3).trans e4)
    | true => exact hc H4 (((e.trans e2).trans e3).trans e4) _ fun H5 e5 => hr' H5 ((((e.trans e2).trans e3).trans e4).trans e5) _ fun H6 e6 => q H6 ((((e2.trans e3).trans e4).trans e5).trans e6)⟩
/-- a slot's word after a turn -/
theorem take_fold {α β : Type} (f : β → α → β) (b : β) {l : List α} {i : Nat} {x : α} (h : l[i]? = some x) : (l.take (i + 1)).foldl f b = f ((l.take i).foldl f b) x := by
  rw [List.take_add_one, h, List.foldl_append] <;> rfl
theorem given_yes_all (n : Nat) (v : Nat → V) : given n (fun _ => true) v = (List.range n).map v := by
  unfold given
  rw [List.filter_eq_self.mpr fun _ _ => rfl]
theorem et_yes : EvT tYes σ H true := fun H1 _ _ q => q H1 (Ex.refl H1)
theorem ev_sum {p : Addr} {ns : List Int} (h : Ev te σ H (.ref p)) (hS : SqL K H p (ns.map V.int)) : Ev (tCB (rSum K) (tCons te tNil)) σ H (.int ns.sum) := fun H1 e Q q => h H1 e _ fun H2 e2 => ⟨p, ns, rfl, ex_l (e.trans e2) hS, q H2 e2⟩
theorem ev_sumL {ns : List Int} (h : EvL te σ H (ns.map V.int)) : Ev (tCB (rSum K) (tCons te tNil)) σ H (.int ns.sum) := fun H1 e Q q => h H1 e _ fun p H2 _ e2 hp => ⟨p, ns, rfl, sq_of hp, q H2 e2⟩
/-- calls -/
theorem spv {sp : Sp} {vs : List V} (h : ∀ H1, Ex H H1 → ∀ (Q : VK) (E : XK), RetV z H1 Q → sp vs H1 Q E) : SpV sp vs H z := fun H1 e Q q E => h H1 e Q E q
theorem spl {sp : Sp} {vs xs : List V} (h : ∀ H1, Ex H H1 → ∀ (Q : VK) (E : XK), RetL xs H1 Q → sp vs H1 Q E) : SpL sp vs H xs := fun H1 e Q q E => h H1 e Q E q
theorem ev_call1 {sp : Sp} {E : XK} (h : Ev te σ H x) (hs : SpV sp [x] H z) : Ev (tCall sp [] E (tCons te tNil)) σ H z := ev_call (dvs := []) (ea_cons h ea_nil) hs
theorem ev_call2 {sp : Sp} {E : XK} (h : Ev ta σ H x) (h2 : Ev tb σ H y) (hs : SpV sp [x, y] H z) : Ev (tCall sp [] E (tCons ta (tCons tb tNil))) σ H z := ev_call (dvs := []) (ea_cons h (ea_cons h2 ea_nil)) hs
theorem el_call1 {sp : Sp} {xs : List V} {E : XK} (h : Ev te σ H x) (hs : SpL sp [x] H xs) : EvL (tCall sp [] E (tCons te tNil)) σ H xs := el_call (dvs := []) (ea_cons h ea_nil) hs
end
end Sg
namespace Sg
open PySem PySem.Spec PyProof.Rows L2 Evl
section
variable {K : PySem.W.Frag} {σ : L2.St} {H : Hp} {ta tb te : TE} {x y z v : V}
theorem sql_ty {a : Addr} {xs : List V} (h : SqL K H a xs) : TyX K H (.ref a) (.type "list") := by
  rcases h with h | ⟨o, its, n, hk, hc, _⟩
  · rcases h with h | ⟨o, h⟩
    · exact .base (.lst h)
    · exact .base (.frz h)
  · exact .kList hk hc
theorem ev_isi {a b : String} {r : Bool} (h : Ev te σ H x) (ht : ∀ H1, Ex H H1 → TyX K H1 x (.type a)) (hk : kitB a b = some r) : Ev (tCB (rIsi K) (tCons te (tCons (tC (.ty b)) tNil))) σ H (.bl r) := fun H1 e Q q =>
  h H1 e _ fun H2 e2 => ⟨x, .ty b, .type a, .type b, r, rfl, .ty b, ht H2 (e.trans e2), kit_ty hk, q H2 e2⟩
theorem ev_isint {i : Int} (h : Ev te σ H (.int i)) : Ev (tCB (rIsi K) (tCons te (tCons (tC (.ty "int")) tNil))) σ H (.bl true) := ev_isi h (fun _ _ => .base (.int i)) (by decide +kernel)
theorem ev_isbool {i : Int} (h : Ev te σ H (.int i)) : Ev (tCB (rIsi K) (tCons te (tCons (tC (.ty "bool")) tNil))) σ H (.bl false) := ev_isi h (fun _ _ => .base (.int i)) (by decide +kernel)
theorem ev_islist {a : Addr} {xs : List V} (h : Ev te σ H (.ref a)) (hS : SqL K H a xs) : Ev (tCB (rIsi K) (tCons te (tCons (tC (.ty "list")) tNil))) σ H (.bl true) := ev_isi h (fun _ e => sql_ty (ex_l e hS)) (by decide +kernel)
end
end Sg
namespace Sg
open PySem PySem.Spec PyProof.Rows L2 Evl
section
variable {K : PySem.W.Frag} {σ : L2.St} {H : Hp} {ta tb te : TE} {x y z v : V}
/-- a written list's item -/
theorem ev_tab {xs : List V} {i : Int} (l : EvL ta σ H xs) (hi : Ev tb σ H (.int i)) (ha : atI xs i = some v) : Ev (tOp (rIxL K) ta tb) σ H v := ev_opL1 l (fun _ e => hi.mono e) fun p H1 hp _ => rv_ixL (sq_of hp) ha
theorem at_six {s : Nat} (h : s ≤ 5) : atI ([.int 1, .int 2, .int 4, .int 8, .int 16, .int 32] : List V) (s : Int) = some (.int ((2 ^ s : Nat) : Int)) := by
  rcases Sg.pow_cases h with rfl | rfl | rfl | rfl | rfl | rfl <;> rfl
theorem el_six : EvL (tLst (tCons (tC (.int 1)) (tCons (tC (.int 2)) (tCons (tC (.int 4)) (tCons (tC (.int 8)) (tCons (tC (.int 16)) (tCons (tC (.int 32)) tNil))))))) σ H [.int 1, .int 2, .int 4, .int 8, .int 16, .int 32] :=
  el_lst (ea_cons ev_c (ea_cons ev_c (ea_cons ev_c (ea_cons ev_c (ea_cons ev_c (ea_cons ev_c ea_nil)))))) (by decide)
theorem range_take {n i : Nat} (f : Nat → Int) (h : i < n) : (((List.range n).map f).take (i + 1)).map V.int = (((List.range n).map f).take i).map V.int ++ [.int (f i)] := by
  rw [List.take_add_one, List.getElem?_map, List.getElem?_range h, List.map_append]
  rfl
theorem range_take_all {n : Nat} (f : Nat → Int) : ((List.range n).map f).take n = (List.range n).map f := List.take_of_length_le (by rw [List.length_map, List.length_range]; exact Nat.le_refl _)
theorem range_take_len {n i : Nat} (f : Nat → Int) (h : i ≤ n) : ((((List.range n).map f).take i).map V.int).length = i := by
  rw [List.length_map, List.length_take, List.length_map, List.length_range]
  omega
end
end Sg
namespace Sg
theorem not_t {P : Prop} [Decidable P] (h : (!decide P) = true) : ¬ P := fun p => by
  rw [decide_eq_true p] at h
  cases h
theorem not_f {P : Prop} [Decidable P] (h : (!decide P) = false) : P := by
  by_cases p : P
  · exact p
  · rw [decide_eq_false p] at h
    cases h
end Sg
namespace Sg
open PySem PySem.Spec PyProof.Rows L2 Evl
/-! ### == of lists of numbers -/
section
variable {K : PySem.W.Frag} {σ : L2.St} {H : Hp} {ta tb te : TE} {x y z v : V}
def dI (ns : List Int) : PyData := .list (ns.map PyData.int)
theorem dpAllI : ∀ ns : List Int, DpAll K H (ns.map V.int) (ns.map PyData.int)
  | [] => .nil
  | n :: ns => .cons (.int n) (dpAllI ns)
theorem dpI {a : Addr} {ns : List Int} (h : SqL K H a (ns.map V.int)) : Dp K H (.ref a) (dI ns) := .lst h (dpAllI ns)
theorem depthAllI : ∀ ns : List Int, PyData.depthAll (ns.map PyData.int) = 0
  | [] => by rw [List.map_nil, PyData.depthAll]
  | n :: ns => by rw [List.map_cons, PyData.depthAll, depthAllI ns, PyData.depth]; rfl
theorem layAllI : ∀ ns : List Int, PyData.canLayAll0 (ns.map PyData.int) = true
  | [] => by rw [List.map_nil, PyData.canLayAll0]
  | n :: ns => by rw [List.map_cons, PyData.canLayAll0, layAllI ns, PyData.canLay0]; rfl
theorem depthI (ns : List Int) : (dI ns).depth = 1 := by
  unfold dI
  rw [PyData.depth, depthAllI]
theorem layI (ns : List Int) : (dI ns).canLay0 = true := by
  unfold dI
  rw [PyData.canLay0, layAllI]
theorem shapedI (ns : List Int) : SeqAt.shaped (dI ns) = true := by
  unfold SeqAt.shaped
  rw [layI, depthI]
  rfl
theorem eqvAllI : ∀ ns ms : List Int, PyData.eqvAll (ns.map PyData.int) (ms.map PyData.int) = decide (ns = ms)
  | [], [] => by rw [List.map_nil, PyData.eqvAll]; rfl
  | [], m :: ms => by rw [List.map_nil, List.map_cons, PyData.eqvAll, decide_eq_false (by simp)]
  | n :: ns, [] => by rw [List.map_nil, List.map_cons, PyData.eqvAll, decide_eq_false (by simp)]
  | n :: ns, m :: ms => by
    rw [List.map_cons, List.map_cons, PyData.eqvAll, eqvAllI ns ms, PyData.eqv]
    by_cases h1 : n = m
    · subst h1
      by_cases h2 : ns = ms
      · subst h2
        rw [decide_eq_true rfl, decide_eq_true rfl, beq_self_eq_true] <;> rfl
      · rw [decide_eq_false h2, decide_eq_false (by simp [h2]), Bool.and_false]
    · rw [decide_eq_false (show ¬ n :: ns = m :: ms by simp [h1]), beq_eq_false_iff_ne.mpr h1, Bool.false_and]
theorem eqvI (ns ms : List Int) : PyData.eqv (dI ns) (dI ms) = decide (ns = ms) := by
  unfold dI
  rw [PyData.eqv, eqvAllI]
theorem rv_eqD {d e : PyData} (hx : ∀ H1, Ex H H1 → Dp K H1 x d) (hy : ∀ H1, Ex H H1 → Dp K H1 y e) (s1 : SeqAt.shaped d = true) (s2 : SeqAt.shaped e = true) : RV (rEqD K) x y H (.bl (PyData.eqv d e)) := fun H1 e1 _ q => ⟨d, e, hx H1 e1, hy H1 e1, s1, s2, q H1 (Ex.refl H1)⟩
theorem rv_neD {d e : PyData} (hx : ∀ H1, Ex H H1 → Dp K H1 x d) (hy : ∀ H1, Ex H H1 → Dp K H1 y e) (s1 : SeqAt.shaped d = true) (s2 : SeqAt.shaped e = true) : RV (rNeD K) x y H (.bl (!PyData.eqv d e)) := fun H1 e1 _ q => ⟨d, e, hx H1 e1, hy H1 e1, s1, s2, q H1 (Ex.refl H1)⟩
theorem rv_eqL {p q : Addr} {ns ms : List Int} (h : SqL K H p (ns.map V.int)) (h2 : SqL K H q (ms.map V.int)) : RV (rEqD K) (.ref p) (.ref q) H (.bl (decide (ns = ms))) := by
  have r := rv_eqD (K := K) (H := H) (fun H1 e => dpI (ex_l e h)) (fun H1 e => dpI (ex_l e h2)) (shapedI ns) (shapedI ms)
  rw [eqvI] at r
  exact r
theorem rv_neL {p q : Addr} {ns ms : List Int} (h : SqL K H p (ns.map V.int)) (h2 : SqL K H q (ms.map V.int)) : RV (rNeD K) (.ref p) (.ref q) H (.bl (!decide (ns = ms))) := by
  have r := rv_neD (K := K) (H := H) (fun H1 e => dpI (ex_l e h)) (fun H1 e => dpI (ex_l e h2)) (shapedI ns) (shapedI ms)
  rw [eqvI] at r
  exact r
/-- two lists of two rows each -/
def dII (a b : List Int) : PyData := .list [dI a, dI b]
theorem shapedII (a b : List Int) : SeqAt.shaped (dII a b) = true := by
  unfold SeqAt.shaped dII
  rw [PyData.canLay0, PyData.canLayAll0, PyData.canLayAll0, PyData.canLayAll0, layI, layI, PyData.depth, PyData.depthAll, PyData.depthAll, PyData.depthAll, depthI, depthI]
  rfl
theorem eqvII (a b c d : List Int) : PyData.eqv (dII a b) (dII c d) = (decide (a = c) && decide (b = d)) := by
  unfold dII
  rw [PyData.eqv, PyData.eqvAll, PyData.eqvAll, PyData.eqvAll, eqvI, eqvI, Bool.and_true]
theorem dpII {p a b : Addr} {ns ms : List Int} (h : SqL K H p [.ref a, .ref b]) (h1 : SqL K H a (ns.map V.int)) (h2 : SqL K H b (ms.map V.int)) : Dp K H (.ref p) (dII ns ms) := .lst h (.cons (dpI h1) (.cons (dpI h2) .nil))
/-- the law's own row -/
theorem el_law_row {E : XK} {t1 t2 t3 t4 : TE} {c w g : Int} {s : Nat} (h1 : Ev t1 σ H (.int c)) (h2 : Ev t2 σ H (.int s)) (h3 : Ev t3 σ H (.int w)) (h4 : Ev t4 σ H (.int g)) (hs : s ≤ 5) (g1 : 0 < g) (g2 : g < 1073741824 * 1073741824) :
    EvL (tCall (sp_law_row K) [] E (tCons t1 (tCons t2 (tCons t3 (tCons t4 tNil))))) σ H ((lawRow c (2 ^ s) w g).map V.int) :=
  el_call (dvs := []) (ea_cons h1 (ea_cons h2 (ea_cons h3 (ea_cons h4 ea_nil)))) (spl fun H1 _ Q E q => ⟨c, s, w, g, rfl, hs, g1, g2, q⟩)
theorem ev_cell {E : XK} {a : Addr} {ns : List Int} {k : Nat} (h : Ev ta σ H (.ref a)) (h2 : Ev tb σ H (.int k)) (hS : SqL K H a (ns.map V.int)) : Ev (tCall (sp_law_cell_at K) [] E (tCons ta (tCons tb tNil))) σ H (.int (cellAt ns k)) :=
  ev_call2 h h2 (spv fun H1 e Q E q => ⟨a, ns, k, rfl, ex_l e hS, q⟩)
theorem ev_alike {E : XK} {a b : Addr} {ns ms : List Int} (h : Ev ta σ H (.ref a)) (h2 : Ev tb σ H (.ref b)) (hS : SqL K H a (ns.map V.int)) (hT : SqL K H b (ms.map V.int)) (hl : ns.length ≤ 1000) :
    Ev (tCall (sp_law_alike K) [] E (tCons ta (tCons tb tNil))) σ H (.bl (decide (ns = ms))) := ev_call2 h h2 (spv fun H1 e Q E q => ⟨a, b, ns, ms, rfl, ex_l e hS, ex_l e hT, hl, q⟩)
/-- the first argument a new list -/
theorem ev_alikeL {E : XK} {b : Addr} {ns ms : List Int} (h : EvL ta σ H (ns.map V.int)) (h2 : ∀ H1, Ex H H1 → Ev tb σ H1 (.ref b)) (hT : SqL K H b (ms.map V.int)) (hl : ns.length ≤ 1000) :
    Ev (tCall (sp_law_alike K) [] E (tCons ta (tCons tb tNil))) σ H (.bl (decide (ns = ms))) := fun H0 e0 Q q =>
  h H0 e0 _ fun p H1 _ e1 hp => h2 H1 (e0.trans e1) H1 (Ex.refl H1) _ fun H2 e2 => ⟨p, b, ns, ms, rfl, sq_of (e2 p _ hp), ex_l ((e0.trans e1).trans e2) hT, hl, fun H3 e3 => q H3 ((e1.trans e2).trans e3)⟩
theorem el_sums {E : XK} {a : Addr} {ns : List Int} (h : Ev te σ H (.ref a)) (hS : SqL K H a (ns.map V.int)) (hr : IsRow ns) : EvL (tCall (sp_sums K) [] E (tCons te tNil)) σ H ((sumsL ns).map V.int) :=
  el_call1 h (spl fun H1 e Q E q => ⟨a, ns, rfl, ex_l e hS, fun _ => q, fun n => absurd hr n⟩)
/-- sums of a new list -/
theorem el_sumsL {E : XK} {ns : List Int} (h : EvL te σ H (ns.map V.int)) (hr : IsRow ns) : EvL (tCall (sp_sums K) [] E (tCons te tNil)) σ H ((sumsL ns).map V.int) := fun H0 e0 Q q =>
  h H0 e0 _ fun p H1 _ e1 hp => ⟨p, ns, rfl, sq_of hp, fun _ => fun p2 H2 hp2 e2 h2 => q p2 H2 (fresh_back e1 hp2) (e1.trans e2) h2, fun n => absurd hr n⟩
theorem el_law_sums {E : XK} {a : Addr} {ns : List Int} (h : Ev te σ H (.ref a)) (hS : SqL K H a (ns.map V.int)) (hl : ns.length ≤ 32) (hb : ∀ x ∈ ns, x.natAbs < 2 ^ 100) : EvL (tCall (sp_law_sums K) [] E (tCons te tNil)) σ H ((sumsL ns).map V.int) :=
  el_call1 h (spl fun H1 e Q E q => ⟨a, ns, rfl, ex_l e hS, hl, hb, q⟩)
/-- 9 * 10 ** k -/
theorem ev_pow {b k : Int} {n : Nat} (h0 : 0 ≤ k ∧ k ≤ 1000) (hb : b.natAbs < 2 ^ 64) (ha : Ev ta σ H (.int b)) (hk : Ev tb σ H (.int k)) : Ev (tOp rPowI ta tb) σ H (.int (b ^ k.toNat)) := ev_op ha hk (rv_I (C := CPow) (g := fun i j => .int (i ^ j.toNat)) ⟨h0.1, by omega, hb⟩)
end
end Sg
namespace Sg
open PySem PySem.Spec PyProof.Rows L2 Evl
/-! ### what evaluates to some list of these numbers, old or new -/
section
variable {K : PySem.W.Frag} {σ : L2.St} {H H' : Hp} {ta tb te tl : TE} {x y z v : V}
def EvS (K : PySem.W.Frag) (te : TE) (σ : L2.St) (H : Hp) (ns : List Int) : Prop := ∀ H1, Ex H H1 → ∀ Q : VK, (∀ p H2, Ex H1 H2 → SqL K H2 p (ns.map V.int) → Q (.ref p) H2) → te σ H1 Q
theorem EvS.mono {ns : List Int} (e : Ex H H') (h : EvS K te σ H ns) : EvS K te σ H' ns := fun H1 a Q q => h H1 (e.trans a) Q q
theorem evs_of {a : Addr} {ns : List Int} (h : Ev te σ H (.ref a)) (hS : SqL K H a (ns.map V.int)) : EvS K te σ H ns := fun H1 e Q q => h H1 e _ fun H2 e2 => q a H2 e2 (ex_l (e.trans e2) hS)
theorem evs_new {ns : List Int} (h : EvL te σ H (ns.map V.int)) : EvS K te σ H ns := fun H1 e Q q => h H1 e _ fun p H2 _ e2 hp => q p H2 e2 (sq_of hp)
theorem evs_var {a : Addr} {ns : List Int} {i : Nat} (h : σ[i]? = some (some (.ref a))) (hS : SqL K H a (ns.map V.int)) : EvS K (tVar i) σ H ns := evs_of (ev_var h) hS
/-- a call of one such list -/
theorem ev_callS {sp : Sp} {E : XK} {ns : List Int} (h : EvS K te σ H ns) (hs : ∀ p H1, Ex H H1 → SqL K H1 p (ns.map V.int) → ∀ (Q : VK) (E : XK), RetV z H1 Q → sp [.ref p] H1 Q E) : Ev (tCall sp [] E (tCons te tNil)) σ H z := fun H0 e0 Q q =>
  h H0 e0 _ fun p H1 e1 hp => hs p H1 (e0.trans e1) hp Q E fun H2 e2 => q H2 (e1.trans e2)
theorem el_callS {sp : Sp} {E : XK} {ns : List Int} {xs : List V} (h : EvS K te σ H ns) (hs : ∀ p H1, Ex H H1 → SqL K H1 p (ns.map V.int) → ∀ (Q : VK) (E : XK), RetL xs H1 Q → sp [.ref p] H1 Q E) : EvL (tCall sp [] E (tCons te tNil)) σ H xs := fun H0 e0 Q q =>
  h H0 e0 _ fun p H1 e1 hp => hs p H1 (e0.trans e1) hp Q E fun p2 H2 n2 e2 h2 => q p2 H2 (fresh_back e1 n2) (e1.trans e2) h2
/-- a call of two such lists -/
theorem ev_callSS {sp : Sp} {E : XK} {ns ms : List Int} (h : EvS K ta σ H ns) (h2 : EvS K tb σ H ms) (hs : ∀ p q H1, Ex H H1 → SqL K H1 p (ns.map V.int) → SqL K H1 q (ms.map V.int) → ∀ (Q : VK) (E : XK), RetV z H1 Q → sp [.ref p, .ref q] H1 Q E) :
    Ev (tCall sp [] E (tCons ta (tCons tb tNil))) σ H z := fun H0 e0 Q q =>
  h H0 e0 _ fun p H1 e1 hp => h2 H1 (e0.trans e1) _ fun p2 H2 e2 hp2 => hs p p2 H2 ((e0.trans e1).trans e2) (ex_l e2 hp) hp2 Q E fun H3 e3 => q H3 ((e1.trans e2).trans e3)
theorem el_callSS {sp : Sp} {E : XK} {ns ms : List Int} {xs : List V} (h : EvS K ta σ H ns) (h2 : EvS K tb σ H ms) (hs : ∀ p q H1, Ex H H1 → SqL K H1 p (ns.map V.int) → SqL K H1 q (ms.map V.int) → ∀ (Q : VK) (E : XK), RetL xs H1 Q → sp [.ref p, .ref q] H1 Q E) :
    EvL (tCall sp [] E (tCons ta (tCons tb tNil))) σ H xs := fun H0 e0 Q q =>
  h H0 e0 _ fun p H1 e1 hp => h2 H1 (e0.trans e1) _ fun p2 H2 e2 hp2 => hs p p2 H2 ((e0.trans e1).trans e2) (ex_l e2 hp) hp2 Q E fun p3 H3 n3 e3 h3 => q p3 H3 (fresh_back (e1.trans e2) n3) ((e1.trans e2).trans e3) h3
theorem ev_alikeS {E : XK} {ns ms : List Int} (h : EvS K ta σ H ns) (h2 : EvS K tb σ H ms) (hl : ns.length ≤ 1000) : Ev (tCall (sp_law_alike K) [] E (tCons ta (tCons tb tNil))) σ H (.bl (decide (ns = ms))) :=
  ev_callSS h h2 fun p q H1 _ hp hq Q E r => ⟨p, q, ns, ms, rfl, hp, hq, hl, r⟩
theorem el_sumsS {E : XK} {ns : List Int} (h : EvS K te σ H ns) (hr : IsRow ns) : EvL (tCall (sp_sums K) [] E (tCons te tNil)) σ H ((sumsL ns).map V.int) :=
  el_callS h fun p H1 _ hp Q E r => ⟨p, ns, rfl, hp, fun _ => r, fun n => absurd hr n⟩
theorem el_listS {ns : List Int} (h : EvS K te σ H ns) : EvL (tCB (rListS K) (tCons te tNil)) σ H (ns.map V.int) := fun H0 e0 Q q =>
  h H0 e0 _ fun p H1 e1 hp => ⟨p, ns.map V.int, rfl, .inl hp, fun l hl => q l _ (fresh_back e1 hl) (e1.trans (Ex.new hl)) upd_same⟩
theorem ev_lenS {ns : List Int} (h : EvS K te σ H ns) : Ev (tCB (rLenS K) (tCons te tNil)) σ H (.int (ns.length : Int)) := fun H0 e0 Q q =>
  h H0 e0 _ fun p H1 e1 hp => ⟨p, ns.map V.int, rfl, .inl hp, by
    rw [List.length_map]
    exact q H1 e1⟩
theorem ev_sumS {ns : List Int} (h : EvS K te σ H ns) : Ev (tCB (rSum K) (tCons te tNil)) σ H (.int ns.sum) := fun H0 e0 Q q =>
  h H0 e0 _ fun p H1 e1 hp => ⟨p, ns, rfl, hp, q H1 e1⟩
theorem ev_eqS {ns ms : List Int} (h : EvS K ta σ H ns) (h2 : EvS K tb σ H ms) : Ev (tOp (rEqD K) ta tb) σ H (.bl (decide (ns = ms))) := fun H0 e0 Q q =>
  h H0 e0 _ fun p H1 e1 hp => h2 H1 (e0.trans e1) _ fun p2 H2 e2 hp2 => rv_eqL (ex_l e2 hp) hp2 H2 (Ex.refl H2) _ fun H3 e3 => q H3 ((e1.trans e2).trans e3)
theorem ev_neS {ns ms : List Int} (h : EvS K ta σ H ns) (h2 : EvS K tb σ H ms) : Ev (tOp (rNeD K) ta tb) σ H (.bl (!decide (ns = ms))) := fun H0 e0 Q q =>
  h H0 e0 _ fun p H1 e1 hp => h2 H1 (e0.trans e1) _ fun p2 H2 e2 hp2 => rv_neL (ex_l e2 hp) hp2 H2 (Ex.refl H2) _ fun H3 e3 => q H3 ((e1.trans e2).trans e3)
theorem el_law_sumsS {E : XK} {ns : List Int} (h : EvS K te σ H ns) (hl : ns.length ≤ 32) (hb : ∀ x ∈ ns, x.natAbs < 2 ^ 100) : EvL (tCall (sp_law_sums K) [] E (tCons te tNil)) σ H ((sumsL ns).map V.int) :=
  el_callS h fun p H1 _ hp Q E r => ⟨p, ns, rfl, hp, hl, hb, r⟩
theorem evs_ix {ns : List Int} {i : Int} {k : Nat} (h : EvS K ta σ H ns) (hi : Ev tb σ H (.int i)) (e : i = (k : Int)) (hk : k < ns.length) : Ev (tOp (rIxL K) ta tb) σ H (.int (ns.getD k 0)) := fun H0 e0 Q q =>
  h H0 e0 _ fun p H1 e1 hp => hi H1 (e0.trans e1) _ fun H2 e2 => rv_ixN (ex_l e2 hp) e hk H2 (Ex.refl H2) _ fun H3 e3 => q H3 ((e1.trans e2).trans e3)
/-! ### comprehensions -/
theorem int_of_map {ns : List Int} {i : Nat} {x : V} (h : (ns.map V.int)[i]? = some x) : ∃ n, ns[i]? = some n ∧ x = .int n := by
  rw [List.getElem?_map] at h
  cases e : ns[i]? with
  | none => rw [e] at h; cases h
  | some n => rw [e] at h; exact ⟨n, rfl, (Option.some.inj h).symm⟩
theorem given_map {ns : List Int} (g : Int → V) : given ns.length (fun _ => true) (fun i => g (ns.getD i 0)) = ns.map g := by
  rw [given_yes_all]
  refine List.ext_getElem (by rw [List.length_map, List.length_range, List.length_map]) fun k h1 h2 => ?_
  rw [List.length_map] at h2
  rw [List.getElem_map, List.getElem_range, List.getElem_map, List.getD_eq_getElem?_getD, List.getElem?_eq_getElem h2] <;> rfl
/-- [e for x in such a list] -/
theorem el_mapS {ns : List Int} {j : Nat} {vs : List Nat} (g : Int → V) (h : EvS K tl σ H ns) (hz : ns.length ≤ 40000) (hw : ∀ x, wipe ((wipe σ vs).set j (some x)) vs = wipe σ vs)
    (he : ∀ n ∈ ns, ∀ H1, Ex H H1 → Ev te ((wipe σ vs).set j (some (.int n))) H1 (g n)) : EvL (tLc (iList K tl) (gName j) tYes te vs) σ H (ns.map g) := fun H0 e0 Q q =>
  h H0 e0 _ fun a H1 e1 hx => ⟨a, rfl, ⟨ns.map V.int, hx⟩, fun Dl hD =>
    lc_list (xs := ns.map V.int) (Cw H1 (fun _ => true) (fun i => g (ns.getD i 0)) Dl) ⟨hD, Ex.new hD, upd_same⟩ (fun i H2 _ p => ex_l p.2.1 hx) (fun i x H2 hi p => by
      obtain ⟨n, hn, rfl⟩ := int_of_map hi
      have hl : i < ns.length := (List.getElem?_eq_some_iff.mp hn).1
      refine ⟨hw _, cw_turn p (by omega) et_yes fun _ => ?_⟩
      have e : ns.getD i 0 = n := by rw [List.getD_eq_getElem?_getD, hn] <;> rfl
      rw [e]
      exact he n (List.mem_of_getElem? hn) H1 (e0.trans e1)) (fun H2 p => by
      have p3 := p.2.2
      rw [List.length_map, given_map] at p3
      exact q Dl H2 (fresh_back e1 p.1) (e1.trans p.2.1) p3)⟩
/-- [e for i in range(n)] -/
theorem el_mapR {ta : TA} {j n : Nat} {vs : List Nat} (g : Nat → V) (h : EvA ta σ H [.int (n : Int)]) (hn : n ≤ 40000) (hw : ∀ x, wipe ((wipe σ vs).set j (some x)) vs = wipe σ vs)
    (he : ∀ i : Nat, i < n → ∀ H1, Ex H H1 → Ev te ((wipe σ vs).set j (some (.int (i : Int)))) H1 (g i)) : EvL (tLc (iRng1 ta) (gName j) tYes te vs) σ H ((List.range n).map g) := by
  have el := el_lcR1 (σ := σ) (H := H) (t := tYes) (te := te) (ta := ta) (j := j) (vs := vs) (n := (n : Int)) (fun _ => true) g h ⟨by omega, by omega⟩ hw (fun _ _ _ _ => et_yes) (fun i H1 e hi _ => he i (by omega) H1 e)
  rw [given_yes_all, Int.toNat_natCast] at el
  exact el
/-- [e for i in range(n) if t] -/
theorem el_filR {ta : TA} {t : TT} {j n : Nat} {vs : List Nat} (f : Nat → Bool) (g : Nat → V) (h : EvA ta σ H [.int (n : Int)]) (hn : n ≤ 40000) (hw : ∀ x, wipe ((wipe σ vs).set j (some x)) vs = wipe σ vs)
    (ht : ∀ i : Nat, i < n → ∀ H1, Ex H H1 → EvT t ((wipe σ vs).set j (some (.int (i : Int)))) H1 (f i)) (he : ∀ i : Nat, i < n → ∀ H1, Ex H H1 → Ev te ((wipe σ vs).set j (some (.int (i : Int)))) H1 (g i)) :
    EvL (tLc (iRng1 ta) (gName j) t te vs) σ H (((List.range n).filter f).map g) := by
  have el := el_lcR1 (σ := σ) (H := H) (t := t) (te := te) (ta := ta) (j := j) (vs := vs) (n := (n : Int)) f g h ⟨by omega, by omega⟩ hw (fun i H1 e hi => ht i (by omega) H1 e) (fun i H1 e hi _ => he i (by omega) H1 e)
  rw [Int.toNat_natCast] at el
  exact el
theorem ev_anyL {bs : List Bool} (h : EvL te σ H (bs.map V.bl)) : Ev (tCB (rAny K) (tCons te tNil)) σ H (.bl (bs.any id)) := fun H0 e0 Q q => h H0 e0 _ fun p H1 _ e1 hp => ⟨p, bs, rfl, sq_of hp, q H1 e1⟩
theorem ev_allL {bs : List Bool} (h : EvL te σ H (bs.map V.bl)) : Ev (tCB (rAll K) (tCons te tNil)) σ H (.bl (bs.all id)) := fun H0 e0 Q q => h H0 e0 _ fun p H1 _ e1 hp => ⟨p, bs, rfl, sq_of hp, q H1 e1⟩
end
end Sg
namespace Sg
open PySem PySem.Spec PyProof.Rows L2 Evl
theorem five_at {i : Nat} {x : V} (hx : ([.int 1, .int 2, .int 4, .int 8, .int 16] : List V)[i]? = some x) : ∃ w : Int, ([1, 2, 4, 8, 16] : List Int)[i]? = some w ∧ x = .int w ∧ 0 < w ∧ w < 1073741824 := by
  match i, hx with
  | 0, hx => cases hx; exact ⟨1, rfl, rfl, by decide, by decide⟩
  | 1, hx => cases hx; exact ⟨2, rfl, rfl, by decide, by decide⟩
  | 2, hx => cases hx; exact ⟨4, rfl, rfl, by decide, by decide⟩
  | 3, hx => cases hx; exact ⟨8, rfl, rfl, by decide, by decide⟩
  | 4, hx => cases hx; exact ⟨16, rfl, rfl, by decide, by decide⟩
  | n + 5, hx => cases hx
end Sg
namespace Sg
open PySem PySem.Spec PyProof.Rows L2 Evl
/-! ### a list of two lists -/
section
variable {K : PySem.W.Frag} {σ : L2.St} {H : Hp} {ta tb te tl : TE} {x y z v : V} {D : Ends} {tz : TS}
theorem q_asgLL {i : Nat} {xs ys : List V} (h1 : EvL ta σ H xs) (h2 : EvL tb σ H ys)
    (k : ∀ p q l H1, H p = none → H q = none → H l = none → Ex H H1 → H1 p = some (.lst xs) → H1 q = some (.lst ys) → H1 l = some (.lst [.ref p, .ref q]) → tz D (σ.set i (some (.ref l))) H1) :
    tSeq (tAsg (tLst (tCons ta (tCons tb tNil))) (gName i)) tz D σ H :=
  h1 H (Ex.refl H) _ fun p H1 np e1 hp => h2 H1 e1 _ fun q H2 nq e2 hq => ⟨by show 2 ≤ sizeLine; decide, fun l nl =>
    k p q l _ np (fresh_back e1 nq) (fresh_back (e1.trans e2) nl) ((e1.trans e2).trans (Ex.new nl)) (Ex.new nl p _ (e2 p _ hp)) (Ex.new nl q _ hq) upd_same⟩
theorem ev_at0 {l p q : Addr} (h : Ev ta σ H (.ref l)) (hL : SqL K H l [.ref p, .ref q]) : Ev (tOp (rIxL K) ta (tC (.int 0))) σ H (.ref p) := ev_op h ev_c (rv_ixL hL rfl)
theorem ev_at1 {l p q : Addr} (h : Ev ta σ H (.ref l)) (hL : SqL K H l [.ref p, .ref q]) : Ev (tOp (rIxL K) ta (tC (.int 1))) σ H (.ref q) := ev_op h ev_c (rv_ixL hL rfl)
theorem ev_pair {R : R2} {b : Bool} {l p q a c : Addr} (h : Ev ta σ H (.ref l)) (h1 : Ev tb σ H (.ref a)) (h2 : Ev te σ H (.ref c))
    (hr : ∀ m H1, Ex H H1 → SqL K H1 m [.ref a, .ref c] → RV R (.ref l) (.ref m) H1 (.bl b)) : Ev (tOp R ta (tLst (tCons tb (tCons te tNil)))) σ H (.bl b) :=
  ev_opL h (el_lst (ea_cons h1 (ea_cons h2 ea_nil)) (by show 2 ≤ 100000; decide)) fun m H1 hm e => hr m H1 e (sq_of hm)
theorem ev_neII {l p q a c : Addr} {ns ms as bs : List Int} (h : Ev ta σ H (.ref l)) (h1 : Ev tb σ H (.ref a)) (h2 : Ev te σ H (.ref c)) (hL : SqL K H l [.ref p, .ref q]) (hp : SqL K H p (ns.map V.int)) (hq : SqL K H q (ms.map V.int)) (ha : SqL K H a (as.map V.int)) (hc : SqL K H c (bs.map V.int)) :
    Ev (tOp (rNeD K) ta (tLst (tCons tb (tCons te tNil)))) σ H (.bl (!(decide (ns = as) && decide (ms = bs)))) := ev_pair (K := K) (p := p) (q := q) h h1 h2 fun m H1 e hm => by
  have r := rv_neD (K := K) (H := H1) (fun H2 e2 => dpII (ex_l (e.trans e2) hL) (ex_l (e.trans e2) hp) (ex_l (e.trans e2) hq)) (fun H2 e2 => dpII (ex_l e2 hm) (ex_l (e.trans e2) ha) (ex_l (e.trans e2) hc)) (shapedII ns ms) (shapedII as bs)
  rw [eqvII] at r
  exact r
theorem ev_eqII {l p q a c : Addr} {ns ms as bs : List Int} (h : Ev ta σ H (.ref l)) (h1 : Ev tb σ H (.ref a)) (h2 : Ev te σ H (.ref c)) (hL : SqL K H l [.ref p, .ref q]) (hp : SqL K H p (ns.map V.int)) (hq : SqL K H q (ms.map V.int)) (ha : SqL K H a (as.map V.int)) (hc : SqL K H c (bs.map V.int)) :
    Ev (tOp (rEqD K) ta (tLst (tCons tb (tCons te tNil)))) σ H (.bl (decide (ns = as) && decide (ms = bs))) := ev_pair (K := K) (p := p) (q := q) h h1 h2 fun m H1 e hm => by
  have r := rv_eqD (K := K) (H := H1) (fun H2 e2 => dpII (ex_l (e.trans e2) hL) (ex_l (e.trans e2) hp) (ex_l (e.trans e2) hq)) (fun H2 e2 => dpII (ex_l e2 hm) (ex_l (e.trans e2) ha) (ex_l (e.trans e2) hc)) (shapedII ns ms) (shapedII as bs)
  rw [eqvII] at r
  exact r
end
/-- what stands behind a change of a new list -/
theorem keep_new {H H1 H2 : Hp} {p : Addr} {o : HO} (e : Ex H H1) (n : H p = none) (e2 : Ex H1 H2) : Ex H (upd H2 p o) := Ex.mut (e.trans e2) n
end Sg
namespace Sg
open PySem PySem.Spec PyProof.Rows L2 Evl
/-! ### a list of new lists, made by a comprehension over a range -/
section
variable {K : PySem.W.Frag} {σ : L2.St} {H : Hp} {te : TE} {D : Ends} {tz : TS}
/-- the lists at ps are these, ps stand at l -/
structure Rows (H : Hp) (l : Addr) (n : Nat) (f : Nat → List Int) (ps : List Addr) : Prop where
  len : ps.length = n
  at_ : H l = some (.lst (ps.map V.ref))
  row : ∀ k, k < n → H (ps.getD k 0) = some (.lst ((f k).map V.int))
theorem Rows.mono {H H' : Hp} {l : Addr} {n : Nat} {f : Nat → List Int} {ps : List Addr} (e : Ex H H') (r : Rows H l n f ps) : Rows H' l n f ps := ⟨r.len, e l _ r.at_, fun k hk => e _ _ (r.row k hk)⟩
theorem ref_at {ps : List Addr} {k : Nat} (h : k < ps.length) : (ps.map V.ref)[k]? = some (.ref (ps.getD k 0)) := by
  rw [List.getElem?_map, List.getElem?_eq_getElem h, List.getD_eq_getElem?_getD, List.getElem?_eq_getElem h] <;> rfl
theorem Rows.evs {l : Addr} {n k : Nat} {i : Int} {f : Nat → List Int} {ps : List Addr} {ta tb : TE} (r : Rows H l n f ps) (ha : Ev ta σ H (.ref l)) (hb : Ev tb σ H (.int i)) (e : i = (k : Int)) (hk : k < n) : EvS K (tOp (rIxL K) ta tb) σ H (f k) :=
  evs_of (ev_op ha hb (rv_ixL (sq_of r.at_) (by rw [e]; exact atI_nat (ref_at (by rw [r.len]; exact hk))))) (sq_of (r.row k hk))
theorem q_asgRows {ta : TA} {i j n : Nat} {vs : List Nat} (f : Nat → List Int) (h : EvA ta σ H [.int (n : Int)]) (hn : n ≤ 40000) (hw : ∀ x, wipe ((wipe σ vs).set j (some x)) vs = wipe σ vs)
    (he : ∀ k : Nat, k < n → ∀ H1, Ex H H1 → EvL te ((wipe σ vs).set j (some (.int (k : Int)))) H1 ((f k).map V.int))
    (k : ∀ l ps H1, H l = none → Ex H H1 → Rows H1 l n f ps → tz D (σ.set i (some (.ref l))) H1) : tSeq (tAsg (tLc (iRng1 ta) (gName j) tYes te vs) (gName i)) tz D σ H :=
  h H (Ex.refl H) _ fun H1 e1 => ⟨(n : Int), rfl, by omega, by omega, fun Dl hD => by
    have hn1 : (n : Int).toNat = n := Int.toNat_natCast n
    rw [hn1]
    refine lc_range (lo := 0) (n := n) (fun m H' => Ex H1 H' ∧ ∃ ps : List Addr, Rows H' Dl m f ps ∧ Dl ∉ ps) ⟨Ex.new hD, [], ⟨rfl, upd_same, fun k hk => absurd hk (Nat.not_lt_zero _)⟩, by simp⟩ (fun m H' hm p => ?_) (fun H' p => ?_)
    · obtain ⟨ex, ps, r, nd⟩ := p
      have e0 : (0 : Int) + (m : Int) = (m : Int) := Int.zero_add _
      show wipe ((wipe σ vs).set j (some (.int ((0 : Int) + (m : Int))))) vs = wipe σ vs ∧ te ((wipe σ vs).set j (some (.int ((0 : Int) + (m : Int))))) H' _
      rw [e0]
      refine ⟨hw _, he m hm H' (e1.trans ex) H' (Ex.refl H') _ fun q H2 nq e2 hq => ⟨ps.map V.ref, e2 Dl _ r.at_, by rw [List.length_map, r.len]; exact sz_lt (by omega), ?_⟩⟩
      have nqD : q ≠ Dl := fun e => by
        rw [e, r.at_] at nq
        cases nq
      refine ⟨Ex.mut (ex.trans e2) (by exact fresh_back (Ex.refl H1) hD), ps ++ [q], ⟨by rw [List.length_append, r.len]; rfl, ?_, fun k hk => ?_⟩, by simp [nd, Ne.symm nqD]⟩
      · rw [upd_same, List.map_append]
        rfl
      · by_cases hkm : k < m
        · have hg : (ps ++ [q]).getD k 0 = ps.getD k 0 := by
            rw [List.getD_eq_getElem?_getD, List.getD_eq_getElem?_getD, List.getElem?_append_left (by rw [r.len]; exact hkm)]
          have hne : ps.getD k 0 ≠ Dl := fun e => nd (by
            rw [← e, List.getD_eq_getElem?_getD, List.getElem?_eq_getElem (by rw [r.len]; exact hkm)]
            exact List.getElem_mem _)
          rw [hg, upd_ne hne]
          exact e2 _ _ (r.row k hkm)
        · have hk2 : k = m := by omega
          have hg : (ps ++ [q]).getD k 0 = q := by
            rw [List.getD_eq_getElem?_getD, List.getElem?_append_right (by rw [r.len]; omega), r.len, hk2, Nat.sub_self]
            rfl
          rw [hg, upd_ne nqD, hk2]
          exact hq
    · obtain ⟨ex, ps, r, nd⟩ := p
      exact k Dl ps H' (fresh_back e1 hD) (e1.trans ex) r⟩
end
end Sg
namespace Sg
/-! ### sums of sums -/
theorem getD_map_range {n c : Nat} (f : Nat → Int) (h : c < n) : ((List.range n).map f).getD c 0 = f c := by
  rw [List.getD_eq_getElem?_getD, List.getElem?_map, List.getElem?_range h] <;> rfl
theorem getD_sumsL {ns : List Int} {c : Nat} (h : c < ns.length) : (sumsL ns).getD c 0 = sumAt ns c := getD_map_range _ h
theorem list_eq_range (ns : List Int) : ns = (List.range ns.length).map fun i => ns.getD i 0 := by
  refine List.ext_getElem (by rw [List.length_map, List.length_range]) fun k h1 _ => ?_
  rw [List.getElem_map, List.getElem_range, List.getD_eq_getElem?_getD, List.getElem?_eq_getElem h1] <;> rfl
theorem sg_symm : ∀ p, p < 32 → ∀ c, c < 32 → sg (p : Nat) (c : Nat) = sg (c : Nat) (p : Nat) := by decide +kernel
theorem sg_ortho : ∀ s, s < 6 → ∀ p, p < 2 ^ s → ∀ q, q < 2 ^ s → sm (2 ^ s) (fun c => sg (p : Nat) (c : Nat) * sg (c : Nat) (q : Nat)) = if p = q then ((2 ^ s : Nat) : Int) else 0 := by decide +kernel
theorem sumAt_twice {ns : List Int} {s : Nat} (hs : s < 6) (hn : ns.length = 2 ^ s) {q : Nat} (hq : q < 2 ^ s) : sumAt (sumsL ns) q = (ns.length : Int) * ns.getD q 0 := by
  unfold sumAt
  rw [sumsL_length]
  have h32 := (Sg.pow_le' hs)
  have e1 : sm ns.length (fun c => sg (c : Nat) (q : Nat) * (sumsL ns).getD c 0) = sm ns.length fun c => sm ns.length fun p => ns.getD p 0 * (sg (p : Nat) (c : Nat) * sg (c : Nat) (q : Nat)) := by
    refine sm_congr fun c hc => ?_
    rw [getD_sumsL hc]
    unfold sumAt
    rw [← sm_mulL]
    refine sm_congr fun p _ => ?_
    rw [← Int.mul_assoc, Int.mul_comm, Int.mul_comm (sg (c : Nat) (q : Nat))]
  rw [e1, sm_swap]
  have e2 : sm ns.length (fun p => sm ns.length fun c => ns.getD p 0 * (sg (p : Nat) (c : Nat) * sg (c : Nat) (q : Nat))) = sm ns.length fun p => (ns.length : Int) * (ns.getD p 0 * (if p = q then 1 else 0)) := by
    refine sm_congr fun p hp => ?_
    rw [sm_mulL, hn, sg_ortho s hs p (by omega) q hq]
    by_cases h : p = q
    · rw [if_pos h, if_pos h, Int.mul_one, Int.mul_comm]
    · rw [if_neg h, if_neg h, Int.mul_zero, Int.mul_zero]
  rw [e2, sm_mulL, sm_delta, if_pos (by omega)]
theorem map_eq_range (ns : List Int) (g : Int → Int) : ns.map g = (List.range ns.length).map fun i => g (ns.getD i 0) := by
  refine List.ext_getElem (by rw [List.length_map, List.length_map, List.length_range]) fun k h1 h2 => ?_
  rw [List.length_map] at h1
  rw [List.getElem_map, List.getElem_map, List.getElem_range, List.getD_eq_getElem?_getD, List.getElem?_eq_getElem h1] <;> rfl
/-- the sums of the sums -/
theorem sums_twice {ns : List Int} {s : Nat} (hs : s < 6) (hn : ns.length = 2 ^ s) : sumsL (sumsL ns) = ns.map fun x => x * (ns.length : Int) := by
  rw [map_eq_range]
  show (List.range (sumsL ns).length).map (sumAt (sumsL ns)) = _
  rw [sumsL_length]
  refine List.map_congr_left fun q hq => ?_
  rw [List.mem_range] at hq
  rw [sumAt_twice hs hn (by omega), Int.mul_comm]
/-- the row whose sums these are -/
def backL (ns : List Int) : List Int := (sumsL ns).map fun x => x / (ns.length : Int)
theorem back_sums {ns : List Int} {s : Nat} (hs : s < 6) (hn : ns.length = 2 ^ s) : backL (sumsL ns) = ns := by
  unfold backL
  rw [sums_twice hs hn, sumsL_length, List.map_map]
  refine (List.map_congr_left fun x _ => ?_).trans (List.map_id ns)
  have h0 : (ns.length : Int) ≠ 0 := by have := Nat.two_pow_pos s; omega
  exact Int.mul_ediv_cancel _ h0
theorem sums_twice_mod {ns : List Int} {s : Nat} (hs : s < 6) (hn : ns.length = 2 ^ s) : ∀ x ∈ sumsL (sumsL ns), x % (ns.length : Int) = 0 := by
  intro x hx
  rw [sums_twice hs hn] at hx
  obtain ⟨y, _, rfl⟩ := List.mem_map.mp hx
  exact Int.mul_emod_left _ _
/-! ### how great sums are -/
theorem sm_bd {n : Nat} {f : Nat → Int} {B : Int} (h : ∀ i, i < n → -B ≤ f i ∧ f i ≤ B) : -((n : Int) * B) ≤ sm n f ∧ sm n f ≤ (n : Int) * B := by
  induction n with
  | zero => rw [sm_zero]; simp
  | succ n ih =>
    have h1 := ih fun i hi => h i (by omega)
    have h2 := h n (by omega)
    rw [sm_succ, Int.natCast_succ, Int.add_mul, Int.one_mul]
    generalize (n : Int) * B = z at h1
    omega
theorem sg_bd (p c : Int) (x B : Int) (h : -B ≤ x ∧ x ≤ B) : -B ≤ sg p c * x ∧ sg p c * x ≤ B := by
  have z := sg_abs1 p c
  have z2 : sg p c = 1 ∨ sg p c = -1 := by omega
  rcases z2 with e | e <;> rw [e] <;> omega
theorem getD_bd {ns : List Int} {B : Int} (hB : 0 ≤ B) (h : ∀ x ∈ ns, -B ≤ x ∧ x ≤ B) (p : Nat) : -B ≤ ns.getD p 0 ∧ ns.getD p 0 ≤ B := by
  rw [List.getD_eq_getElem?_getD]
  cases e : ns[p]? with
  | none => show -B ≤ 0 ∧ 0 ≤ B; omega
  | some x => exact h x (List.mem_of_getElem? e)
theorem sumsL_bd {ns : List Int} {B : Int} (hB : 0 ≤ B) (h : ∀ x ∈ ns, -B ≤ x ∧ x ≤ B) : ∀ y ∈ sumsL ns, -((ns.length : Int) * B) ≤ y ∧ y ≤ (ns.length : Int) * B := by
  intro y hy
  obtain ⟨c, _, rfl⟩ := List.mem_map.mp hy
  exact sm_bd fun p _ => sg_bd _ _ _ _ (getD_bd hB h p)
theorem sums_isRow {ns : List Int} {B : Int} (hB : 0 ≤ B) (hn : ns.length ∈ [1, 2, 4, 8, 16, 32]) (h : ∀ x ∈ ns, -B ≤ x ∧ x ≤ B) (hb : (ns.length : Int) * B ≤ 100000000000000000000) : IsRow (sumsL ns) := by
  refine ⟨by rw [sumsL_length]; exact hn, fun y hy => ?_⟩
  have := sumsL_bd hB h y hy
  omega
/-! ### the squares; two rows together -/
def sq (ns : List Int) : Int := (ns.map fun x => x * x).sum
theorem sum_range (n : Nat) (f : Nat → Int) : ((List.range n).map f).sum = sm n f := rfl
theorem sq_sm (ns : List Int) : sq ns = sm ns.length fun i => ns.getD i 0 * ns.getD i 0 := by
  unfold sq
  rw [map_eq_range]
  exact sum_range _ _
theorem parseval {ns : List Int} {s : Nat} (hs : s < 6) (hn : ns.length = 2 ^ s) : sq (sumsL ns) = (ns.length : Int) * sq ns := by
  rw [sq_sm, sumsL_length, sq_sm]
  have h32 := pow_le' hs
  have e1 : sm ns.length (fun c => (sumsL ns).getD c 0 * (sumsL ns).getD c 0) = sm ns.length fun c => sm ns.length fun p => ns.getD p 0 * (sg (p : Nat) (c : Nat) * (sumsL ns).getD c 0) := by
    refine sm_congr fun c hc => ?_
    have e : (sumsL ns).getD c 0 * (sumsL ns).getD c 0 = (sumsL ns).getD c 0 * sumAt ns c := by rw [getD_sumsL hc]
    rw [e]
    unfold sumAt
    rw [← sm_mulL]
    refine sm_congr fun p _ => ?_
    rw [Int.mul_comm, Int.mul_comm (sg _ _) (ns.getD p 0), Int.mul_assoc]
  rw [e1, sm_swap, ← sm_mulL]
  refine sm_congr fun p hp => ?_
  rw [sm_mulL]
  have e2 : sm ns.length (fun c => sg (p : Nat) (c : Nat) * (sumsL ns).getD c 0) = sumAt (sumsL ns) p := by
    unfold sumAt
    rw [sumsL_length]
    exact sm_congr fun c hc => by rw [sg_symm p (by omega) c (by omega)]
  rw [e2, sumAt_twice hs hn (by omega), ← Int.mul_assoc, Int.mul_comm (ns.getD p 0), Int.mul_assoc]
def addL (ns ms : List Int) : List Int := (List.range ns.length).map fun i => ns.getD i 0 + ms.getD i 0
theorem addL_length (ns ms : List Int) : (addL ns ms).length = ns.length := by
  unfold addL
  rw [List.length_map, List.length_range]
theorem sums_add {ns ms : List Int} (h : ms.length = ns.length) : sumsL (addL ns ms) = addL (sumsL ns) (sumsL ms) := by
  show (List.range (addL ns ms).length).map (sumAt (addL ns ms)) = (List.range (sumsL ns).length).map fun i => (sumsL ns).getD i 0 + (sumsL ms).getD i 0
  rw [addL_length, sumsL_length]
  refine List.map_congr_left fun c hc => ?_
  rw [List.mem_range] at hc
  rw [getD_sumsL hc, getD_sumsL (by omega)]
  unfold sumAt
  rw [addL_length, h, ← sm_add]
  refine sm_congr fun p hp => ?_
  unfold addL
  rw [getD_map_range _ hp, Int.mul_add]
end Sg
namespace Sg
/-! ### halves -/
def halfL (ns : List Int) (w : Nat) (h : Int) : List Int := ((List.range ns.length).filter fun p => decide (((p / w % 2 : Nat) : Int) = h)).map fun p => ns.getD p 0
/-- the k-th place at which the power doesn't stand -/
def ins (w k : Nat) : Nat := k / w * (2 * w) + k % w
theorem fil0 : ∀ s, s < 6 → ∀ t, t < s → (List.range (2 ^ s)).filter (fun p => decide (((p / 2 ^ t % 2 : Nat) : Int) = 0)) = (List.range (2 ^ (s - 1))).map (ins (2 ^ t)) := by decide +kernel
theorem fil1 : ∀ s, s < 6 → ∀ t, t < s → (List.range (2 ^ s)).filter (fun p => decide (((p / 2 ^ t % 2 : Nat) : Int) = 1)) = (List.range (2 ^ (s - 1))).map (fun k => ins (2 ^ t) k + 2 ^ t) := by decide +kernel
theorem fil01 : ∀ s, s < 6 → ∀ t, t < s → (List.range (2 ^ s)).filter (fun p => !decide (((p / 2 ^ t % 2 : Nat) : Int) = 0)) = (List.range (2 ^ s)).filter (fun p => decide (((p / 2 ^ t % 2 : Nat) : Int) = 1)) := by decide +kernel
theorem ins_lt : ∀ s, s < 6 → ∀ t, t < s → ∀ k, k < 2 ^ (s - 1) → ins (2 ^ t) k + 2 ^ t < 2 ^ s := by decide +kernel
theorem sg_ins : ∀ s, s < 6 → ∀ t, t < s → ∀ q, q < 2 ^ (s - 1) → ∀ k, k < 2 ^ (s - 1) →
    sg (ins (2 ^ t) q : Nat) (ins (2 ^ t) k : Nat) = sg (q : Nat) (k : Nat) ∧ sg ((ins (2 ^ t) q + 2 ^ t : Nat) : Int) (ins (2 ^ t) k : Nat) = sg (q : Nat) (k : Nat) ∧
    sg (ins (2 ^ t) q : Nat) ((ins (2 ^ t) k + 2 ^ t : Nat) : Int) = sg (q : Nat) (k : Nat) ∧ sg ((ins (2 ^ t) q + 2 ^ t : Nat) : Int) ((ins (2 ^ t) k + 2 ^ t : Nat) : Int) = - sg (q : Nat) (k : Nat) := by decide +kernel
theorem sum_fil (F : Nat → Int) (f : Nat → Bool) : ∀ l : List Nat, (l.map F).sum = ((l.filter f).map F).sum + ((l.filter fun p => !f p).map F).sum
  | [] => rfl
  | x :: l => by
    have ih := sum_fil F f l
    rw [List.map_cons, List.sum_cons, ih]
    cases h : f x with
    | true => rw [List.filter_cons_of_pos h, List.filter_cons_of_neg (by simp [h]), List.map_cons, List.sum_cons]; omega
    | false => rw [List.filter_cons_of_neg (by simp [h]), List.filter_cons_of_pos (by simp [h]), List.map_cons, List.sum_cons]; omega
theorem sm_halves {s t : Nat} (hs : s < 6) (ht : t < s) (F : Nat → Int) : sm (2 ^ s) F = sm (2 ^ (s - 1)) (fun q => F (ins (2 ^ t) q)) + sm (2 ^ (s - 1)) (fun q => F (ins (2 ^ t) q + 2 ^ t)) := by
  unfold sm
  rw [sum_fil F (fun p => decide (((p / 2 ^ t % 2 : Nat) : Int) = 0)), fil01 s hs t ht, fil0 s hs t ht, fil1 s hs t ht, List.map_map, List.map_map]
  rfl
theorem half0 {ns : List Int} {s t : Nat} (hs : s < 6) (ht : t < s) (hn : ns.length = 2 ^ s) : halfL ns (2 ^ t) 0 = (List.range (2 ^ (s - 1))).map fun k => ns.getD (ins (2 ^ t) k) 0 := by
  unfold halfL
  rw [hn, fil0 s hs t ht, List.map_map]
  rfl
theorem half1 {ns : List Int} {s t : Nat} (hs : s < 6) (ht : t < s) (hn : ns.length = 2 ^ s) : halfL ns (2 ^ t) 1 = (List.range (2 ^ (s - 1))).map fun k => ns.getD (ins (2 ^ t) k + 2 ^ t) 0 := by
  unfold halfL
  rw [hn, fil1 s hs t ht, List.map_map]
  rfl
theorem half_len {ns : List Int} {s t : Nat} (hs : s < 6) (ht : t < s) (hn : ns.length = 2 ^ s) {h : Int} (hh : h = 0 ∨ h = 1) : (halfL ns (2 ^ t) h).length = 2 ^ (s - 1) := by
  rcases hh with rfl | rfl
  · rw [half0 hs ht hn, List.length_map, List.length_range]
  · rw [half1 hs ht hn, List.length_map, List.length_range]
theorem half_mem {ns : List Int} {w : Nat} {h : Int} {x : Int} (hx : x ∈ halfL ns w h) : x = 0 ∨ x ∈ ns := by
  obtain ⟨p, _, rfl⟩ := List.mem_map.mp hx
  rw [List.getD_eq_getElem?_getD]
  cases e : ns[p]? with
  | none => exact .inl rfl
  | some y => exact .inr (List.mem_of_getElem? e)
theorem half_isRow {ns : List Int} {s t : Nat} (hs : s < 6) (ht : t < s) (hn : ns.length = 2 ^ s) {h : Int} (hh : h = 0 ∨ h = 1) (r : IsRow ns) : IsRow (halfL ns (2 ^ t) h) := by
  refine ⟨by rw [half_len hs ht hn hh]; exact pow_mem (by omega), fun x hx => ?_⟩
  rcases half_mem hx with rfl | hm
  · decide
  · exact r.2 x hm
/-- the sums told of the halves, together and the one less the other -/
theorem sums_halves {ns : List Int} {s t k : Nat} (hs : s < 6) (ht : t < s) (hn : ns.length = 2 ^ s) (hk : k < 2 ^ (s - 1)) :
    sumAt (halfL ns (2 ^ t) 0) k + sumAt (halfL ns (2 ^ t) 1) k = sumAt ns (ins (2 ^ t) k) ∧ sumAt (halfL ns (2 ^ t) 0) k - sumAt (halfL ns (2 ^ t) 1) k = sumAt ns (ins (2 ^ t) k + 2 ^ t) := by
  have e0 : sumAt (halfL ns (2 ^ t) 0) k = sm (2 ^ (s - 1)) fun q => sg (q : Nat) (k : Nat) * ns.getD (ins (2 ^ t) q) 0 := by
    unfold sumAt
    rw [half_len hs ht hn (.inl rfl)]
    refine sm_congr fun q hq => ?_
    rw [half0 hs ht hn, getD_map_range _ hq]
  have e1 : sumAt (halfL ns (2 ^ t) 1) k = sm (2 ^ (s - 1)) fun q => sg (q : Nat) (k : Nat) * ns.getD (ins (2 ^ t) q + 2 ^ t) 0 := by
    unfold sumAt
    rw [half_len hs ht hn (.inr rfl)]
    refine sm_congr fun q hq => ?_
    rw [half1 hs ht hn, getD_map_range _ hq]
  constructor
  · rw [e0, e1]
    unfold sumAt
    rw [hn, sm_halves hs ht]
    congr 1
    · exact sm_congr fun q hq => by rw [(sg_ins s hs t ht q hq k hk).1]
    · exact sm_congr fun q hq => by rw [(sg_ins s hs t ht q hq k hk).2.1]
  · rw [e0, e1]
    unfold sumAt
    rw [hn, sm_halves hs ht, ← sm_sub]
    rw [← sm_add]
    refine sm_congr fun q hq => ?_
    rw [(sg_ins s hs t ht q hq k hk).2.2.1, (sg_ins s hs t ht q hq k hk).2.2.2, Int.neg_mul]
    rfl
def stepsN (n : Nat) : Nat := Nat.log2 n
theorem stepsN_pow : ∀ s, s < 6 → stepsN (2 ^ s) = s := by decide
def StepOk (n : Nat) (step half : Int) : Prop := 0 ≤ step ∧ step < (stepsN n : Int) ∧ (half = 0 ∨ half = 1)
instance (n : Nat) (step half : Int) : Decidable (StepOk n step half) := by
  unfold StepOk
  infer_instance
end Sg
namespace Sg
open PySem PySem.Spec PyProof.Rows L2 Evl
def sp_steps_of (K : PySem.W.Frag) : Sp := fun vs H Q _ => ∃ (a : Addr) (ns : List Int), vs = [.ref a] ∧ SqL K H a (ns.map V.int) ∧ ns.length ∈ [1, 2, 4, 8, 16, 32] ∧ RetV (.int (stepsN ns.length : Nat)) H Q
def sp_halved (K : PySem.W.Frag) : Sp := fun vs H Q E => ∃ (a : Addr) (ns : List Int) (step half : Int), vs = [.ref a, .int step, .int half] ∧ SqL K H a (ns.map V.int) ∧
  (IsRow ns → StepOk ns.length step half → RetL ((halfL ns (2 ^ step.toNat) half).map V.int) H Q) ∧ (IsRow ns → ¬ StepOk ns.length step half → ∀ H', Ex H H' → E (.ref (He.ga K "NoStep")) none H') ∧
  (¬ IsRow ns → ∀ H', Ex H H' → E (.ref (He.ga K "NoRow")) none H')
theorem len_steps_of {K : PySem.W.Frag} : ∀ vs H Q E, sp_steps_of K vs H Q E → vs.length = 1 := fun _ _ _ _ h => by
  obtain ⟨_, _, rfl, _⟩ := h; rfl
theorem len_halved {K : PySem.W.Frag} : ∀ vs H Q E, sp_halved K vs H Q E → vs.length = 3 := fun _ _ _ _ h => by
  obtain ⟨_, _, _, _, rfl, _⟩ := h; rfl
section
variable {K : PySem.W.Frag} {σ : L2.St} {H : Hp} {ta tb tc te : TE} {z : V}
theorem el_halved {E : XK} {ns : List Int} {step half : Int} (h : EvS K ta σ H ns) (h2 : Ev tb σ H (.int step)) (h3 : Ev tc σ H (.int half)) (r : IsRow ns) (ok : StepOk ns.length step half) :
    EvL (tCall (sp_halved K) [] E (tCons ta (tCons tb (tCons tc tNil)))) σ H ((halfL ns (2 ^ step.toNat) half).map V.int) := fun H0 e0 Q q =>
  h H0 e0 _ fun p H1 e1 hp => h2 H1 (e0.trans e1) _ fun H2 e2 => h3 H2 ((e0.trans e1).trans e2) _ fun H3 e3 =>
    ⟨p, ns, step, half, rfl, ex_l (e2.trans e3) hp, fun _ _ p2 H4 n4 e4 h4 => q p2 H4 (fresh_back ((e1.trans e2).trans e3) n4) (((e1.trans e2).trans e3).trans e4) h4, fun _ n => absurd ok n, fun n => absurd r n⟩
theorem at_five {t : Nat} (h : t < 5) : atI ([.int 1, .int 2, .int 4, .int 8, .int 16] : List V) (t : Int) = some (.int ((2 ^ t : Nat) : Int)) := by
  have e : t = 0 ∨ t = 1 ∨ t = 2 ∨ t = 3 ∨ t = 4 := by omega
  rcases e with rfl | rfl | rfl | rfl | rfl <;> rfl
theorem el_five : EvL (tLst (tCons (tC (.int 1)) (tCons (tC (.int 2)) (tCons (tC (.int 4)) (tCons (tC (.int 8)) (tCons (tC (.int 16)) tNil)))))) σ H [.int 1, .int 2, .int 4, .int 8, .int 16] :=
  el_lst (ea_cons ev_c (ea_cons ev_c (ea_cons ev_c (ea_cons ev_c (ea_cons ev_c ea_nil))))) (by decide)
theorem inV_two (i a b : Int) : inV (.int i) [.int a, .int b] = decide (i = a ∨ i = b) := by
  by_cases h : i = a ∨ i = b
  · rw [decide_eq_true h]
    rcases h with rfl | rfl <;> simp [inV, eqV]
  · rw [decide_eq_false h]
    simp only [not_or] at h
    simp [inV, eqV]
    omega
/-- a row's numbers at whose places the power stands so -/
theorem el_halfC {ta : TA} {j n w : Nat} {vs : List Nat} {ns : List Int} {t : TT} {half : Int} (h : EvA ta σ H [.int (n : Int)]) (hn : ns.length = n) (h32 : n ≤ 32) (hw : ∀ x, wipe ((wipe σ vs).set j (some x)) vs = wipe σ vs)
    (ht : ∀ i : Nat, i < n → ∀ H1, Ex H H1 → EvT t ((wipe σ vs).set j (some (.int (i : Int)))) H1 (decide (((i / w % 2 : Nat) : Int) = half))) (he : ∀ i : Nat, i < n → ∀ H1, Ex H H1 → Ev te ((wipe σ vs).set j (some (.int (i : Int)))) H1 (.int (ns.getD i 0))) :
    EvL (tLc (iRng1 ta) (gName j) t te vs) σ H ((halfL ns w half).map V.int) := by
  unfold halfL
  rw [List.map_map, hn]
  exact el_filR (fun i => decide (((i / w % 2 : Nat) : Int) = half)) (fun i => .int (ns.getD i 0)) h (by omega) hw ht he
theorem et_half {i w : Nat} {half : Int} (h : Ev ta σ H (.int (i : Int))) (h2 : Ev tb σ H (.int ((w : Nat) : Int))) (h3 : Ev tc σ H (.int half)) (w0 : 0 < w) (w1 : w < 1000) :
    EvT (tTest (tOp rEq (tOp rModI (tOp rDivI ta tb) (tC (.int 2))) tc)) σ H (decide (((i / w % 2 : Nat) : Int) = half)) :=
  et_is (et_test (ev_op (ev_op (ev_op h h2 (rv_div (by omega) (by omega))) ev_c (rv_mod (by decide))) h3 rv_eqI)) (by rw [Int.natCast_emod, Int.natCast_ediv] <;> rfl)
end
end Sg
namespace Sg
open PySem PySem.Spec PyProof.Rows L2 Evl
def t_ask_row (K : PySem.W.Frag) (E : XK) : TS :=
  (tSeq (tIfS (tTest (tOp (rIn K true) (tCB (rLenS K) (tCons (tVar 0) tNil)) (tC (.ref (He.ga K "LENGTHS")))))
   (tRz E (He.ga K "NoRow"))
   tNext)
  (tFor (iList K (tVar 0)) (gName 1)
   (tIfS (tNot (tTest (tChain rLeI rLeI (tUn rNegI (tC (.int 100000000000000000000))) (tVar 1) (tC (.int 100000000000000000000)))))
    (tRz E (He.ga K "NoRow"))
    tNext)))
def N_ask_row : List Str := ["row", "number"]
def t_summed (K : PySem.W.Frag) : TS :=
  (tSeq (tAsg (tCB (rListS K) (tCons (tVar 0) tNil)) (gName 1))
  (tSeq (tAsg (tC (.int 1)) (gName 2))
  (tSeq (tWhile (tTest (tOp rLtI (tVar 2) (tCB (rLenS K) (tCons (tVar 1) tNil))))
   (tSeq (tAsg (tCB (rListS K) (tCons (tVar 1) tNil)) (gName 3))
   (tSeq (tFor (iRng1 (tCons (tCB (rLenS K) (tCons (tVar 1) tNil)) tNil)) (gName 4)
    (tIfS (tTest (tOp rEq (tOp rModI (tOp rDivI (tVar 4) (tVar 2)) (tC (.int 2))) (tC (.int 0))))
     (tSeq (tAsg (tOp rAddI (tOp (rIxL K) (tVar 1) (tVar 4)) (tOp (rIxL K) (tVar 1) (tOp rAddI (tVar 4) (tVar 2)))) (gSub (tVar 3) (tVar 4) rSetL))
     (tAsg (tOp rSubI (tOp (rIxL K) (tVar 1) (tVar 4)) (tOp (rIxL K) (tVar 1) (tOp rAddI (tVar 4) (tVar 2)))) (gSub (tVar 3) (tOp rAddI (tVar 4) (tVar 2)) rSetL)))
     tNext))
   (tSeq (tAsg (tVar 3) (gName 1))
   (tAsg (tOp rMulI (tC (.int 2)) (tVar 2)) (gName 2))))))
  (tRet (tVar 1)))))
def N_summed : List Str := ["row", "found", "wide", "longer", "place"]
def t_sums (K : PySem.W.Frag) (E : XK) : TS :=
  (tSeq (tDrop (tCall (sp_ask_row K) [] E (tCons (tVar 0) tNil)))
  (tRet (tCall (sp_summed K) [] E0 (tCons (tVar 0) tNil))))
def N_sums : List Str := ["row"]
def t_steps_of (K : PySem.W.Frag) : TS :=
  (tRet (tDGet (tDisp [((tC (.int 1)), (tC (.int 0))), ((tC (.int 2)), (tC (.int 1))), ((tC (.int 4)), (tC (.int 2))), ((tC (.int 8)), (tC (.int 3))), ((tC (.int 16)), (tC (.int 4))), ((tC (.int 32)), (tC (.int 5)))]) (tCB (rLenS K) (tCons (tVar 0) tNil))))
def N_steps_of : List Str := ["row"]
def t_halved (K : PySem.W.Frag) (E : XK) : TS :=
  (tSeq (tDrop (tCall (sp_ask_row K) [] E (tCons (tVar 0) tNil)))
  (tSeq (tIfS (tOr (tNot (tTest (tChain rLeI rLtI (tC (.int 0)) (tVar 1) (tCall (sp_steps_of K) [] E0 (tCons (tVar 0) tNil))))) (tTest (tOp (rIn K true) (tVar 2) (tTup (tCons (tC (.int 0)) (tCons (tC (.int 1)) tNil))))))
   (tRz E (He.ga K "NoStep"))
   tNext)
  (tSeq (tAsg (tOp (rIxL K) (tLst (tCons (tC (.int 1)) (tCons (tC (.int 2)) (tCons (tC (.int 4)) (tCons (tC (.int 8)) (tCons (tC (.int 16)) tNil)))))) (tVar 1)) (gName 3))
  (tRet (tLc (iRng1 (tCons (tCB (rLenS K) (tCons (tVar 0) tNil)) tNil)) (gName 4) (tTest (tOp rEq (tOp rModI (tOp rDivI (tVar 4) (tVar 3)) (tC (.int 2))) (tVar 2))) (tOp (rIxL K) (tVar 0) (tVar 4)) [4])))))
def N_halved : List Str := ["row", "step", "half", "wide", "place"]
def t_law_cell_at (K : PySem.W.Frag) : TS :=
  (tSeq (tIfS (tTest (tOp rLtI (tVar 1) (tCB (rLenS K) (tCons (tVar 0) tNil))))
   (tRet (tOp (rIxL K) (tVar 0) (tVar 1)))
   tNext)
  (tRet (tC (.int 0))))
def N__law_cell_at : List Str := ["script", "k"]
def t_law_whole (K : PySem.W.Frag) : TS :=
  (tRet (tAndV (tCB (rIsi K) (tCons (tVar 0) (tCons (tC (.ty "int")) tNil))) (tNotV (tCB (rIsi K) (tCons (tVar 0) (tCons (tC (.ty "bool")) tNil))))))
def N__law_whole : List Str := ["found"]
def t_law_next (K : PySem.W.Frag) : TS :=
  (tSeq (tAsg (tOp rModI (tOp rAddI (tVar 0) (tC (.int 7919))) (tC (.int 2147483647))) (gName 0))
  (tRet (tOp rModI (tOp rAddI (tOp rAddI (tOp rMulI (tVar 0) (tVar 0)) (tOp rMulI (tC (.int 48271)) (tVar 0))) (tC (.int 12345))) (tC (.int 2147483629)))))
def N__law_next : List Str := ["seed"]
def t_law_row (K : PySem.W.Frag) : TS :=
  (tSeq (tAsg (tLst tNil) (gName 4))
  (tSeq (tFor (iRng1 (tCons (tOp (rIxL K) (tLst (tCons (tC (.int 1)) (tCons (tC (.int 2)) (tCons (tC (.int 4)) (tCons (tC (.int 8)) (tCons (tC (.int 16)) (tCons (tC (.int 32)) tNil))))))) (tVar 1)) tNil)) (gName 5)
   (tSeq (tAsg (tCall (sp_law_next K) [] E0 (tCons (tOp rAddI (tOp rModI (tVar 0) (tC (.int 1000003))) (tOp rMulI (tC (.int 31)) (tVar 5))) tNil)) (gName 0))
   (tSeq (tAsg (tOp rSubI (tOp rModI (tOp rDivI (tVar 0) (tC (.int 7))) (tC (.int 2000001))) (tC (.int 1000000))) (gName 6))
   (tSeq (tIfS (tTest (tOp rEq (tOp rModI (tOp rDivI (tVar 2) (tC (.int 4))) (tC (.int 2))) (tC (.int 1))))
    (tAsg (tOp rAddI (tOp rMulI (tVar 6) (tVar 3)) (tOp rMulI (tOp rSubI (tC (.int 1)) (tOp rMulI (tC (.int 2)) (tCB rInt1 (tCons (tOp rLtI (tVar 6) (tC (.int 0))) tNil)))) (tOp rModI (tOp rDivI (tVar 0) (tC (.int 64))) (tVar 3)))) (gName 6))
    tNext)
   (tSeq (tIfS (tTest (tOp rEq (tOp rModI (tVar 2) (tC (.int 4))) (tC (.int 0))))
    (tAsg (tOp rSubI (tC (.int 1)) (tOp rMulI (tC (.int 2)) (tOp rModI (tOp rDivI (tVar 0) (tC (.int 7))) (tC (.int 2))))) (gName 6))
    tNext)
   (tSeq (tIfS (tTest (tOp rEq (tOp rModI (tVar 2) (tC (.int 4))) (tC (.int 1))))
    (tAsg (tOp rSubI (tOp rModI (tOp rDivI (tVar 0) (tC (.int 7))) (tC (.int 9))) (tC (.int 4))) (gName 6))
    tNext)
   (tSeq (tIfS (tAnd (tTest (tOp rEq (tOp rModI (tVar 2) (tC (.int 4))) (tC (.int 3)))) (tTest (tOp rGtI (tOp rModI (tOp rDivI (tVar 0) (tC (.int 14000007))) (tC (.int 3))) (tC (.int 0)))))
    (tAsg (tC (.int 0)) (gName 6))
    tNext)
   (tDrop (tBM K "list" rAppend (tVar 4) (tCons (tVar 6) tNil))))))))))
  (tRet (tVar 4))))
def N__law_row : List Str := ["cell", "steps", "way", "great", "found", "place", "number"]
def t_law_alike (K : PySem.W.Frag) : TS :=
  (tSeq (tIfS (tOr (tNot (tB (tCB (rIsi K) (tCons (tVar 0) (tCons (tC (.ty "list")) tNil))))) (tTest (tOp rNe (tCB (rLenS K) (tCons (tVar 0) tNil)) (tCB (rLenS K) (tCons (tVar 1) tNil)))))
   (tRet (tC (.bl false)))
   tNext)
  (tSeq (tFor (iRng1 (tCons (tCB (rLenS K) (tCons (tVar 1) tNil)) tNil)) (gName 2)
   (tIfS (tOr (tNot (tB (tCall (sp_law_whole K) [] E0 (tCons (tOp (rIxL K) (tVar 0) (tVar 2)) tNil)))) (tTest (tOp rNe (tOp (rIxL K) (tVar 0) (tVar 2)) (tOp (rIxL K) (tVar 1) (tVar 2)))))
    (tRet (tC (.bl false)))
    tNext))
  (tRet (tC (.bl true)))))
def N__law_alike : List Str := ["found", "due", "k"]
def t_law (K : PySem.W.Frag) : TS :=
  (tSeq (tAsg (tOp rAddI (tC (.int 1)) (tOp rModI (tCall (sp_law_cell_at K) [] E0 (tCons (tVar 0) (tCons (tC (.int 0)) tNil))) (tC (.int 5)))) (gName 1))
  (tSeq (tAsg (tCall (sp_law_row K) [] E0 (tCons (tCall (sp_law_cell_at K) [] E0 (tCons (tVar 0) (tCons (tC (.int 1)) tNil))) (tCons (tVar 1) (tCons (tCall (sp_law_cell_at K) [] E0 (tCons (tVar 0) (tCons (tC (.int 2)) tNil))) (tCons (tOp rMulI (tC (.int 9)) (tOp rPowI (tC (.int 10)) (tC (.int 11)))) tNil))))) (gName 2))
  (tSeq (tAsg (tOp rModI (tCall (sp_law_cell_at K) [] E0 (tCons (tVar 0) (tCons (tC (.int 3)) tNil))) (tVar 1)) (gName 3))
  (tSeq (tAsg (tOp (rIxL K) (tLst (tCons (tC (.int 1)) (tCons (tC (.int 2)) (tCons (tC (.int 4)) (tCons (tC (.int 8)) (tCons (tC (.int 16)) tNil)))))) (tVar 3)) (gName 4))
  (tSeq (tAsg (tCB (rListS K) (tCons (tVar 2) tNil)) (gName 5))
  (tSeq (tAsg (tLst tNil) (gName 6))
  (tSeq (tFor (iRng1 (tCons (tC (.int 2)) tNil)) (gName 7)
   (tSeq (tAsg (tLc (iRng1 (tCons (tCB (rLenS K) (tCons (tVar 2) tNil)) tNil)) (gName 13) (tTest (tOp rEq (tOp rModI (tOp rDivI (tVar 13) (tVar 4)) (tC (.int 2))) (tVar 7))) (tOp (rIxL K) (tVar 2) (tVar 13)) [13]) (gName 8))
   (tSeq (tAsg (tCall (sp_halved K) [] E0 (tCons (tVar 5) (tCons (tVar 3) (tCons (tVar 7) tNil)))) (gName 9))
   (tSeq (tIfS (tOr (tNot (tB (tCall (sp_law_alike K) [] E0 (tCons (tVar 9) (tCons (tVar 8) tNil))))) (tTest (tOp (rNeD K) (tVar 5) (tVar 2))))
    (tRet (tC (.bl false)))
    tNext)
   (tSeq (tDrop (tBM K "list" rAppend (tVar 6) (tCons (tCall (sp_sums K) [] E0 (tCons (tVar 9) tNil)) tNil)))
   (tDrop (tBM K "list" rAppend (tVar 9) (tCons (tC (.int 0)) tNil))))))))
  (tSeq (tAsg (tCall (sp_sums K) [] E0 (tCons (tVar 5) tNil)) (gName 10))
  (tSeq (tAsg (tLc (iRng1 (tCons (tCB (rLenS K) (tCons (tVar 2) tNil)) tNil)) (gName 13) (tTest (tOp rEq (tOp rModI (tOp rDivI (tVar 13) (tVar 4)) (tC (.int 2))) (tC (.int 0)))) (tOp (rIxL K) (tVar 10) (tVar 13)) [13]) (gName 11))
  (tSeq (tAsg (tLc (iRng1 (tCons (tCB (rLenS K) (tCons (tVar 2) tNil)) tNil)) (gName 13) (tTest (tOp rEq (tOp rModI (tOp rDivI (tVar 13) (tVar 4)) (tC (.int 2))) (tC (.int 1)))) (tOp (rIxL K) (tVar 10) (tVar 13)) [13]) (gName 12))
  (tSeq (tIfS (tTest (tOp (rNeD K) (tLc (iRng1 (tCons (tCB (rLenS K) (tCons (tVar 11) tNil)) tNil)) (gName 14) tYes (tOp rAddI (tOp (rIxL K) (tOp (rIxL K) (tVar 6) (tC (.int 0))) (tVar 14)) (tOp (rIxL K) (tOp (rIxL K) (tVar 6) (tC (.int 1))) (tVar 14))) [14]) (tVar 11)))
   (tRet (tC (.bl false)))
   tNext)
  (tRet (tOp (rEqD K) (tLc (iRng1 (tCons (tCB (rLenS K) (tCons (tVar 12) tNil)) tNil)) (gName 14) tYes (tOp rSubI (tOp (rIxL K) (tOp (rIxL K) (tVar 6) (tC (.int 0))) (tVar 14)) (tOp (rIxL K) (tOp (rIxL K) (tVar 6) (tC (.int 1))) (tVar 14))) [14]) (tVar 12))))))))))))))
def N_law : List Str := ["script", "steps", "row", "step", "power", "handed", "halves", "half", "due", "found", "whole_sums", "without", "having", "place", "k"]
end Sg
namespace Sg
open PySem PySem.Spec PyProof.Rows L2 Evl
/-! ### the program: ask_row, summed, sums -/
theorem inV_six (n : Nat) : inV (.int n) [.int 1, .int 2, .int 4, .int 8, .int 16, .int 32] = decide (n ∈ [1, 2, 4, 8, 16, 32]) := by
  by_cases h : n ∈ [1, 2, 4, 8, 16, 32]
  · rw [decide_eq_true h]
    simp only [List.mem_cons, List.not_mem_nil, or_false] at h
    rcases h with rfl | rfl | rfl | rfl | rfl | rfl <;> rfl
  · rw [decide_eq_false h]
    simp only [List.mem_cons, List.not_mem_nil, or_false, not_or] at h
    simp [inV, eqV]
    omega
theorem pure_ask_row {K : PySem.W.Frag} (hT : ∀ H : Hp, SqT K H (He.ga K "LENGTHS") [.int 1, .int 2, .int 4, .int 8, .int 16, .int 32]) (vs : List V) (H : Hp) (Q : VK) (E : XK) (h : sp_ask_row K vs H Q E) : t_ask_row K E { nx := fun _ H' => Q .non H', rt := Q } (start N_ask_row vs) H := by
  obtain ⟨a, ns, rfl, hS, q1, q2⟩ := h
  refine q_when (b := !decide (ns.length ∈ [1, 2, 4, 8, 16, 32])) (et_test (ev_is (ev_op (ev_lenM (ev_var rfl) hS) ev_c (rv_niT (hT H) rfl rfl)) (by rw [inV_six]))) (fun hb H1 e1 => ?_) (fun hb H1 e1 => ?_)
  · have hne := not_t hb
    exact q2 (fun z => hne z.1) H1 e1
  · have hlen := not_f hb
    refine s_forLn (xs := ns.map V.int) (ev_var rfl) (ex_l e1 hS) (fun i σ H' => (∃ y, σ = [some (.ref a), y]) ∧ Ex H H' ∧ ∀ k, k < i → ∀ x, ns[k]? = some x → -100000000000000000000 ≤ x ∧ x ≤ 100000000000000000000)
      (fun H2 e2 => ⟨⟨none, rfl⟩, e1.trans e2, fun k hk => absurd hk (Nat.not_lt_zero _)⟩) (fun i σ H' _ hp => ex_l hp.2.1 hS) (fun i x σ H' hx hp => ?_) (fun σ H' hp => ?_)
    · obtain ⟨⟨y, rfl⟩, ex, hh⟩ := hp
      obtain ⟨z, hz, rfl⟩ : ∃ z, ns[i]? = some z ∧ x = V.int z := by
        rw [List.getElem?_map] at hx
        cases e : ns[i]? with
        | none => rw [e] at hx; cases hx
        | some z => rw [e] at hx; exact ⟨z, rfl, (Option.some.inj hx).symm⟩
      refine s_when (b := !(decide (-100000000000000000000 ≤ z) && decide (z ≤ 100000000000000000000))) (et_not (et_test (ev_chain (ev_neg ev_c) (ev_var rfl) rv_le ev_c rv_le))) (fun hb2 H2 e2 => ?_) (fun hb2 H2 e2 => ?_)
      · refine q2 (fun r => ?_) H2 (ex.trans e2)
        have := r.2 z (List.mem_of_getElem? hz)
        simp [this.1, this.2] at hb2
      · refine ⟨⟨some (.int z), rfl⟩, ex.trans e2, fun k hk x hx => ?_⟩
        by_cases hki : k = i
        · rw [hki, hz] at hx
          cases hx
          simpa using hb2
        · exact hh k (by omega) x hx
    · obtain ⟨⟨y, rfl⟩, ex, hh⟩ := hp
      refine q1 ⟨hlen, fun x hx => ?_⟩ H' ex
      obtain ⟨k, hk⟩ := List.mem_iff_getElem?.mp hx
      refine hh k ?_ x hk
      rw [List.length_map]
      exact (List.getElem?_eq_some_iff.mp hk).1
end Sg
namespace Sg
open PySem PySem.Spec PyProof.Rows L2 Evl
/-- behind i places of a step -/
def half (w n i : Nat) (f : Nat → Int) (j : Nat) : Int := if j / w % 2 = 0 then (if j < i then f j + f (j + w) else f j) else (if j - w < i then f (j - w) - f j else f j)
theorem half_step {s k i : Nat} {f g : Nat → Int} (hs : s < 6) (hk : k < s) (hi : i < 2 ^ s) (hg : ∀ j, j < 2 ^ s → g j = half (2 ^ k) (2 ^ s) i f j) (he : i / 2 ^ k % 2 = 0) :
    ∀ j, j < 2 ^ s → (if j = i + 2 ^ k then f i - f (i + 2 ^ k) else if j = i then f i + f (i + 2 ^ k) else g j) = half (2 ^ k) (2 ^ s) (i + 1) f j := by
  intro j hj
  have ho : (i + 2 ^ k) / 2 ^ k % 2 = 1 := by
    rw [Nat.add_div_right _ (by exact Nat.two_pow_pos k)]
    omega
  unfold half
  by_cases h1 : j = i + 2 ^ k
  · rw [if_pos h1, h1, if_neg (by omega), if_pos (by omega)]
    rw [Nat.add_sub_cancel]
  · rw [if_neg h1]
    by_cases h2 : j = i
    · rw [if_pos h2, h2, if_pos he, if_pos (by omega)]
    · rw [if_neg h2, hg j hj]
      unfold half
      by_cases h3 : j / 2 ^ k % 2 = 0
      · rw [if_pos h3, if_pos h3]
        by_cases h4 : j < i
        · rw [if_pos h4, if_pos (by omega)]
        · rw [if_neg h4, if_neg (by omega)]
      · have := odd_ge h3
        rw [if_neg h3, if_neg h3]
        by_cases h4 : j - 2 ^ k < i
        · rw [if_pos h4, if_pos (by omega)]
        · rw [if_neg h4, if_neg (by omega)]
theorem half_skip {s k i : Nat} {f : Nat → Int} (hk : k < s) (he : ¬ i / 2 ^ k % 2 = 0) : ∀ j, half (2 ^ k) (2 ^ s) i f j = half (2 ^ k) (2 ^ s) (i + 1) f j := by
  intro j
  unfold half
  by_cases h3 : j / 2 ^ k % 2 = 0
  · rw [if_pos h3, if_pos h3]
    by_cases h4 : j < i
    · rw [if_pos h4, if_pos (by omega)]
    · have : j ≠ i := fun e => he (e ▸ h3)
      rw [if_neg h4, if_neg (by omega)]
  · have h5 := odd_ge h3
    rw [if_neg h3, if_neg h3]
    by_cases h4 : j - 2 ^ k < i
    · rw [if_pos h4, if_pos (by omega)]
    · have : j - 2 ^ k ≠ i := fun e => by
        have e2 : j = i + 2 ^ k := by omega
        rw [e2, Nat.add_div_right _ (Nat.two_pow_pos k)] at h3
        omega
      rw [if_neg h4, if_neg (by omega)]
theorem half_all {s k : Nat} {f : Nat → Int} : ∀ j, j < 2 ^ s → half (2 ^ k) (2 ^ s) (2 ^ s) f j = stepAt (2 ^ k) f j := by
  intro j hj
  unfold half stepAt
  by_cases h3 : j / 2 ^ k % 2 = 0
  · rw [if_pos h3, if_pos h3, if_pos hj]
  · rw [if_neg h3, if_neg h3, if_pos (Nat.lt_of_le_of_lt (Nat.sub_le _ _) hj)]
theorem pure_summed {K : PySem.W.Frag} (vs : List V) (H : Hp) (Q : VK) (E : XK) (h : sp_summed K vs H Q E) : t_summed K { nx := fun _ H' => Q .non H', rt := Q } (start N_summed vs) H := by
  obtain ⟨a, ns, rfl, hS, hlen, q⟩ := h
  obtain ⟨s, hs, hn⟩ := pow_of_mem hlen
  have h32 := pow_le32 hs
  let f : Nat → Int := fun j => ns.getD j 0
  refine q_asgL (xs := ns.map V.int) (el_list (ev_var rfl) hS) fun o H1 ho e1 h1 => ?_
  refine q_asg ev_c fun H2 e2 => ?_
  refine q_while (fun m σ H' => ∃ k, k ≤ s ∧ m = s - k ∧ ∃ (fp : Addr) (L : List Int) (y z : Option V), σ = [some (.ref a), some (.ref fp), some (.int ((2 ^ k : Nat) : Int)), y, z] ∧ H fp = none ∧ Ex H H' ∧ H' fp = some (.lst (L.map V.int)) ∧ L.length = 2 ^ s ∧ ∀ j, j < 2 ^ s → L.getD j 0 = fast k f j)
    s ⟨0, Nat.zero_le _, rfl, o, ns, none, none, rfl, ho, e1.trans e2, e2 o _ h1, hn, fun j _ => rfl⟩ (fun m σ H' hw => ?_)
  obtain ⟨k, hk, rfl, fp, L, y, z, rfl, hfp, ex, hH, hL, hj⟩ := hw
  refine ⟨decide (((2 ^ k : Nat) : Int) < L.length), et_test (ev_op (ev_var rfl) (ev_lenM (ev_var rfl) (sq_of hH)) rv_lt), fun hb H3 e3 => ?_, fun hb H3 e3 => ?_⟩
  · have hlt : 2 ^ k < 2 ^ s := by have := of_decide_eq_true hb; omega
    have hks : k < s := Nat.lt_of_not_le fun q => absurd (Nat.pow_le_pow_right (by decide : 0 < 2) q) (by omega)
    have hw1 : 0 < 2 ^ k := Nat.two_pow_pos k
    refine ⟨fun σ2 H2 => ∃ (fp : Addr) (L : List Int) (y z : Option V), σ2 = [some (.ref a), some (.ref fp), some (.int ((2 ^ (k + 1) : Nat) : Int)), y, z] ∧ H fp = none ∧ Ex H H2 ∧ H2 fp = some (.lst (L.map V.int)) ∧ L.length = 2 ^ s ∧ ∀ j, j < 2 ^ s → L.getD j 0 = fast (k + 1) f j,
      fun σ2 H2 hN => ⟨s - (k + 1), by omega, k + 1, by omega, rfl, hN⟩, ?_⟩
    have hH3 := e3 fp _ hH
    refine q_asgL (xs := L.map V.int) (el_list (ev_var rfl) (sq_of hH3)) fun l H4 hl e4 h4 => ?_
    have hlf : fp ≠ l := ne_of_none hH3 hl
    have hlH : H l = none := fresh_back (ex.trans e3) hl
    refine q_forR1 (n := ((2 ^ s : Nat) : Int)) (ea_cons (ev_is (ev_lenM (ev_var rfl) (sq_of (e4 fp _ hH3))) (by rw [hL])) ea_nil) ⟨by omega, by omega⟩
      (fun i σ H' => (∃ y, σ = [some (.ref a), some (.ref fp), some (.int ((2 ^ k : Nat) : Int)), some (.ref l), y]) ∧ Ex H H' ∧ H' fp = some (.lst (L.map V.int)) ∧ ∃ M : List Int, H' l = some (.lst (M.map V.int)) ∧ M.length = 2 ^ s ∧ ∀ j, j < 2 ^ s → M.getD j 0 = half (2 ^ k) (2 ^ s) i (fast k f) j)
      (fun H5 e5 => ⟨⟨z, rfl⟩, ((ex.trans e3).trans e4).trans e5, e5 fp _ (e4 fp _ hH3), L, e5 l _ h4, hL, fun j hj' => by rw [hj j hj']; unfold half; split <;> rw [if_neg (Nat.not_lt_zero _)]⟩) (fun i σ H' hi hp => ?_) (fun σ H' hp => ?_)
    · obtain ⟨⟨y', rfl⟩, ex', hf', M, hM, hMl, hMj⟩ := hp
      have hi1 : i < 2 ^ s := by omega
      have hdiv : ((i : Int) / ((2 ^ k : Nat) : Int) % 2 = 0) ↔ i / 2 ^ k % 2 = 0 := by
        rw [← Int.natCast_ediv]
        omega
      refine s_when (b := decide (i / 2 ^ k % 2 = 0)) (et_is (et_test (ev_op (ev_op (ev_op (ev_var rfl) (ev_var rfl) (rv_div (by omega) (by omega))) ev_c (rv_mod (by decide))) ev_c rv_eqI)) (decide_eq_decide.mpr hdiv)) (fun hb2 H5 e5 => ?_) (fun hb2 H5 e5 => ?_)
      · have he := of_decide_eq_true hb2
        have hiw := half_lt hs hks hi1 he
        have hf5 := e5 fp _ hf'
        have hM5 := e5 l _ hM
        refine q_setL (j := i) (v := .int (fast k f i + fast k f (i + 2 ^ k))) hM5 (ev_is (ev_op (ev_op (ev_var rfl) (ev_var rfl) (rv_ixN (sq_of hf5) rfl (by omega))) (ev_op (ev_var rfl) (ev_op (ev_var rfl) (ev_var rfl) rv_add) (rv_ixN (k := i + 2 ^ k) (sq_of hf5) (by omega) (by omega))) rv_add) (by rw [hj i hi1, hj _ hiw])) (ev_var rfl) (ev_var rfl) (by rw [List.length_map]; omega) fun H6 e6 => ?_
        have hf6 : (upd H6 l (.lst ((M.map V.int).set i (.int (fast k f i + fast k f (i + 2 ^ k)))))) fp = some (.lst (L.map V.int)) := by
          rw [upd_ne hlf]
          exact e6 fp _ hf5
        refine s_setL (j := i + 2 ^ k) (v := .int (fast k f i - fast k f (i + 2 ^ k))) upd_same (ev_is (ev_op (ev_op (ev_var rfl) (ev_var rfl) (rv_ixN (sq_of hf6) rfl (by omega))) (ev_op (ev_var rfl) (ev_op (ev_var rfl) (ev_var rfl) rv_add) (rv_ixN (k := i + 2 ^ k) (sq_of hf6) (by omega) (by omega))) rv_sub) (by rw [hj i hi1, hj _ hiw])) (ev_var rfl) (ev_is (ev_op (ev_var rfl) (ev_var rfl) rv_add) (by rw [Int.natCast_add])) (by rw [List.length_set, List.length_map]; omega) fun H7 e7 => ?_
        refine ⟨⟨some (.int i), rfl⟩, Ex.mut ((Ex.mut ((ex'.trans e5).trans e6) hlH).trans e7) hlH, ?_, (M.set i (fast k f i + fast k f (i + 2 ^ k))).set (i + 2 ^ k) (fast k f i - fast k f (i + 2 ^ k)), ?_, by rw [List.length_set, List.length_set, hMl], fun j hj' => ?_⟩
        · rw [upd_ne hlf]
          exact e7 fp _ hf6
        · rw [upd_same, List.map_set, List.map_set]
        · rw [getD_set (by rw [List.length_set]; omega), getD_set (by omega)]
          exact half_step hs hks hi1 hMj he j hj'
      · have he := of_decide_eq_false hb2
        exact ⟨⟨some (.int i), rfl⟩, ex'.trans e5, e5 fp _ hf', M, e5 l _ hM, hMl, fun j hj' => by rw [hMj j hj', half_skip hks he]⟩
    · obtain ⟨⟨y', rfl⟩, ex', hf', M, hM, hMl, hMj⟩ := hp
      refine q_asg (ev_var rfl) fun H5 e5 => ?_
      refine s_asg (ev_op ev_c (ev_var rfl) (rv_mul (a := 2) (b := 10) (by decide) (by omega) (by decide) (by decide) (by decide))) fun H6 e6 => ?_
      refine ⟨l, M, some (.ref l), y', ?_, hlH, (ex'.trans e5).trans e6, e6 l _ (e5 l _ hM), hMl, fun j hj' => ?_⟩
      · have e : (2 : Int) * ((2 ^ k : Nat) : Int) = ((2 ^ (k + 1) : Nat) : Int) := by
          rw [Nat.pow_succ]
          omega
        rw [e]
        rfl
      · rw [hMj j hj', Int.toNat_natCast, half_all j hj']
        rfl
  · have hge : ¬ 2 ^ k < 2 ^ s := by have := of_decide_eq_false hb; omega
    have hks : k = s := by
      refine Nat.le_antisymm hk (Nat.le_of_not_lt fun q => hge ?_)
      exact Nat.pow_lt_pow_right (by decide) q
    subst hks
    refine s_ret (ev_var rfl) fun H4 e4 => q fp H4 hfp ((ex.trans e3).trans e4) (e4 fp _ (e3 fp _ ?_))
    have eL : L = sumsL ns := by
      unfold sumsL
      rw [hn]
      refine ints_ext hL fun c hc => ?_
      rw [hj c hc]
      unfold sumAt
      rw [hn]
      refine fast_eq hs (fun j hj2 => ?_) hc
      show ns.getD j 0 = 0
      rw [List.getD_eq_getElem?_getD, List.getElem?_eq_none (by omega)] <;> rfl
    rw [← eL]
    exact hH
end Sg
namespace Sg
open PySem PySem.Spec PyProof.Rows L2 Evl
theorem pure_sums {K : PySem.W.Frag} (vs : List V) (H : Hp) (Q : VK) (E : XK) (h : sp_sums K vs H Q E) : t_sums K E { nx := fun _ H' => Q .non H', rt := Q } (start N_sums vs) H := by
  obtain ⟨a, ns, rfl, hS, q1, q2⟩ := h
  refine ⟨_, rfl, a, ns, rfl, hS, fun r H1 e1 => ?_, fun r H1 e1 => q2 r H1 e1⟩
  exact s_retL (xs := (sumsL ns).map V.int) (el_call1 (ev_var rfl) (spl fun H2 e2 Q2 E2 r2 => ⟨a, ns, rfl, ex_l (e1.trans e2) hS, r.1, r2⟩)) fun p H2 hp e2 h2 => q1 r p H2 (fresh_back e1 hp) (e1.trans e2) h2
end Sg
namespace Sg
open PySem PySem.Spec PyProof.Rows L2 Evl
theorem pure_steps_of {K : PySem.W.Frag} (vs : List V) (H : Hp) (Q : VK) (E : XK) (h : sp_steps_of K vs H Q E) : t_steps_of K { nx := fun _ H' => Q .non H', rt := Q } (start N_steps_of vs) H := by
  obtain ⟨a, ns, rfl, hS, hm, q⟩ := h
  intro p hp
  refine ⟨upd_same, [(.inl 1, .int 0), (.inl 2, .int 1), (.inl 4, .int 2), (.inl 8, .int 3), (.inl 16, .int 4), (.inl 32, .int 5)], rfl, by decide, ?_⟩
  have e1 : Ex H (upd (upd H p (.dK [])) p (.dK (mergeK [] [(Sum.inl 1, V.int 0), (Sum.inl 2, V.int 1), (Sum.inl 4, V.int 2), (Sum.inl 8, V.int 3), (Sum.inl 16, V.int 4), (Sum.inl 32, V.int 5)]))) := Ex.mut (Ex.new hp) hp
  refine ev_lenS (evs_var rfl (ex_l e1 hS)) _ (Ex.refl _) _ fun H2 e2 => ?_
  have hd : H2 p = some (.dK (mergeK [] [(Sum.inl 1, V.int 0), (Sum.inl 2, V.int 1), (Sum.inl 4, V.int 2), (Sum.inl 8, V.int 3), (Sum.inl 16, V.int 4), (Sum.inl 32, V.int 5)])) := e2 p _ upd_same
  refine ⟨p, .int (stepsN ns.length : Nat), rfl, ?_, q H2 (e1.trans e2)⟩
  have g := DGet.k (k := Sum.inl (ns.length : Int)) hd
  simp only [List.mem_cons, List.not_mem_nil, or_false] at hm
  rcases hm with e | e | e | e | e | e <;> rw [e] at g ⊢ <;> exact g
end Sg
namespace Sg
open PySem PySem.Spec PyProof.Rows L2 Evl
theorem pure_halved {K : PySem.W.Frag} (vs : List V) (H : Hp) (Q : VK) (E : XK) (h : sp_halved K vs H Q E) : t_halved K E { nx := fun _ H' => Q .non H', rt := Q } (start N_halved vs) H := by
  obtain ⟨a, ns, step, half, rfl, hS, q1, q2, q3⟩ := h
  refine ⟨_, rfl, a, ns, rfl, hS, fun r H1 e1 => ?_, fun r H1 e1 => q3 r H1 e1⟩
  have hS1 := ex_l e1 hS
  have hb : (!(decide (0 ≤ step) && decide (step < (stepsN ns.length : Nat)))) = false ∧ (!decide (half = 0 ∨ half = 1)) = false ↔ StepOk ns.length step half := by
    unfold StepOk
    simp only [Bool.not_eq_false', Bool.and_eq_true, decide_eq_true_eq, and_assoc]
  refine q_when (b := !decide (StepOk ns.length step half)) (et_is (et_or (et_not (et_test (ev_chain ev_c (ev_var rfl) rv_le (ev_callS (evs_var rfl hS1) fun p H2 _ hp Q2 E2 r2 => ⟨p, ns, rfl, hp, r.1, r2⟩) rv_lt))) fun _ => et_test (ev_is (ev_niU (ev_var rfl) (eu_tup (ea_cons ev_c (ea_cons ev_c ea_nil)) (by decide)) rfl rfl) (by rw [inV_two]))) ?_) (fun hb H2 e2 => ?_) (fun hb H2 e2 => ?_)
  · by_cases ok : StepOk ns.length step half
    · have z := hb.mpr ok
      rw [z.1, z.2, decide_eq_true ok] <;> rfl
    · rw [decide_eq_false ok]
      cases e1 : !(decide (0 ≤ step) && decide (step < (stepsN ns.length : Nat))) with
      | true => rfl
      | false =>
        cases e2 : !decide (half = 0 ∨ half = 1) with
        | true => rfl
        | false => exact absurd (hb.mp ⟨e1, e2⟩) ok
  · exact q2 r (not_t hb) H2 (e1.trans e2)
  · have ok := not_f hb
    obtain ⟨s, hs, hn⟩ := pow_of_mem r.1
    have h32 := pow_le' hs
    have ok1 := ok
    unfold StepOk at ok1
    rw [hn, stepsN_pow s hs] at ok1
    obtain ⟨t, ht, rfl⟩ : ∃ t : Nat, t < s ∧ step = (t : Int) := ⟨step.toNat, by omega, by omega⟩
    have hS2 := ex_l e2 hS1
    have hw : 2 ^ t < 1000 := Nat.lt_of_le_of_lt (Nat.pow_le_pow_right (by decide) (show t ≤ 5 by omega)) (by decide)
    refine q_asg (v := .int ((2 ^ t : Nat) : Int)) (ev_tab el_five (ev_var rfl) (at_five (by omega))) fun H3 e3 => ?_
    have hS3 := ex_l e3 hS2
    refine s_retL (el_halfC (n := ns.length) (w := 2 ^ t) (ea_cons (ev_lenS (evs_var rfl hS3)) ea_nil) rfl (by omega) (fun _ => rfl) (fun i hi H4 e4 => et_half (ev_var rfl) (ev_var rfl) (ev_var rfl) (Nat.two_pow_pos t) hw) fun i hi H4 e4 => evs_ix (evs_var rfl (ex_l e4 hS3)) (ev_var rfl) rfl hi) fun p H4 hp4 e4 h4 => ?_
    have q1' := q1 r ok p H4 (fresh_back ((e1.trans e2).trans e3) hp4) (((e1.trans e2).trans e3).trans e4)
    rw [Int.toNat_natCast] at q1'
    exact q1' h4
end Sg
namespace Sg
open PySem PySem.Spec PyProof.Rows L2 Evl
/-! ### the readings of the law's helpers -/
theorem pure_law_cell_at {K : PySem.W.Frag} (vs : List V) (H : Hp) (Q : VK) (E : XK) (h : sp_law_cell_at K vs H Q E) : t_law_cell_at K { nx := fun _ H' => Q .non H', rt := Q } (start N__law_cell_at vs) H := by
  obtain ⟨a, ns, k, rfl, hS, q⟩ := h
  refine q_when (b := decide ((k : Int) < ns.length)) (et_test (ev_op (ev_var rfl) (ev_lenM (ev_var rfl) hS) rv_lt)) (fun hb H1 e1 => ?_) (fun hb H1 e1 => ?_)
  · have hk : k < ns.length := by have := of_decide_eq_true hb; omega
    exact s_ret (ev_op (ev_var rfl) (ev_var rfl) (rv_ixN (ex_l e1 hS) rfl hk)) fun H2 e2 => q H2 (e1.trans e2)
  · have hk : ¬ k < ns.length := by have := of_decide_eq_false hb; omega
    have e0 : cellAt ns k = 0 := by
      unfold cellAt
      rw [List.getD_eq_getElem?_getD, List.getElem?_eq_none (by omega)] <;> rfl
    rw [e0] at q
    exact s_ret ev_c fun H2 e2 => q H2 (e1.trans e2)
end Sg
namespace Sg
open PySem PySem.Spec PyProof.Rows L2 Evl
theorem pure_law_whole {K : PySem.W.Frag} (vs : List V) (H : Hp) (Q : VK) (E : XK) (h : sp_law_whole K vs H Q E) : t_law_whole K { nx := fun _ H' => Q .non H', rt := Q } (start N__law_whole vs) H := by
  obtain ⟨i, rfl, q⟩ := h
  exact s_ret (ev_andV (a := true) (b := true) (ev_isint (ev_var rfl)) fun _ => ev_notV (a := false) (ev_isbool (ev_var rfl))) fun H2 e2 => q H2 e2
end Sg
namespace Sg
open PySem PySem.Spec PyProof.Rows L2 Evl
theorem pure_law_next {K : PySem.W.Frag} (vs : List V) (H : Hp) (Q : VK) (E : XK) (h : sp_law_next K vs H Q E) : t_law_next K { nx := fun _ H' => Q .non H', rt := Q } (start N__law_next vs) H := by
  obtain ⟨i, rfl, q⟩ := h
  refine q_asg (ev_op (ev_op (ev_var rfl) ev_c rv_add) ev_c (rv_mod (by decide))) fun H1 e1 => ?_
  have b1 : ((i + 7919) % 2147483647).natAbs < 2 ^ 40 := by omega
  refine s_ret (ev_op (ev_op (ev_op (ev_op (ev_var rfl) (ev_var rfl) (rv_mul b1 b1 (by decide) (by decide) (by decide))) (ev_op ev_c (ev_var rfl) (rv_mul (a := 20) (by decide) b1 (by decide) (by decide) (by decide))) rv_add) ev_c rv_add) ev_c (rv_mod (by decide))) fun H2 e2 => ?_
  exact q H2 (e1.trans e2)
end Sg
namespace Sg
open PySem PySem.Spec PyProof.Rows L2 Evl
theorem pure_law_row {K : PySem.W.Frag} (vs : List V) (H : Hp) (Q : VK) (E : XK) (h : sp_law_row K vs H Q E) : t_law_row K { nx := fun _ H' => Q .non H', rt := Q } (start N__law_row vs) H := by
  obtain ⟨c, s, w, g, rfl, hs, hg, hg2, q⟩ := h
  have h32 : 2 ^ s ≤ 32 := by
    rcases pow_cases hs with rfl | rfl | rfl | rfl | rfl | rfl <;> decide
  have ha := at_six hs
  generalize 2 ^ s = n at ha h32 q
  refine q_asgL (el_lst ea_nil (by decide)) fun o H1 ho e1 h1 => ?_
  refine q_forR1 (n := (n : Int)) (ea_cons (ev_tab el_six (ev_var rfl) ha) ea_nil) ⟨by omega, by omega⟩
    (fun i σ H' => (∃ y z, σ = [some (.int (lawCell c i)), some (.int s), some (.int w), some (.int g), some (.ref o), y, z]) ∧ Ex H H' ∧ H' o = some (.lst (((lawRow c n w g).take i).map V.int)))
    (fun H2 e2 => ⟨⟨none, none, rfl⟩, e1.trans e2, e2 o _ h1⟩) (fun i σ H' hi hp => ?_) (fun σ H' hp => ?_)
  · obtain ⟨⟨y, z, rfl⟩, ex, hH⟩ := hp
    have hi1 : i < n := by omega
    have hbd := lawCell_bd c i
    refine q_asg (v := .int (lawCell c (i + 1))) (ev_call1 (ev_op (ev_op (ev_var rfl) ev_c (rv_mod (by decide))) (ev_op ev_c (ev_var rfl) (rv_mul (a := 5) (b := 6) (by decide) (by omega) (by decide) (by decide) (by decide))) rv_add) (spv fun H3 _ Q3 E3 q3 => ⟨_, rfl, q3⟩)) fun H2 e2 => ?_
    generalize hc : lawCell c (i + 1) = cell at hbd ⊢
    refine q_asg (v := .int (cell / 7 % 2000001 - 1000000)) (ev_op (ev_op (ev_op (ev_var rfl) ev_c (rv_div (by decide) (by decide))) ev_c (rv_mod (by decide))) ev_c rv_sub) fun H3 e3 => ?_
    have bn : (cell / 7 % 2000001 - 1000000).natAbs < 2 ^ 21 := by omega
    have bg : g.natAbs < 2 ^ 60 := by omega
    have b64 : (cell / 64 % g).natAbs < 2 ^ 60 := by
      have z1 := Int.emod_nonneg (cell / 64) (show g ≠ 0 by omega)
      have z2 := Int.emod_lt_of_pos (cell / 64) hg
      generalize cell / 64 % g = z at z1 z2
      omega
    refine q_ifAsg (b := decide (w / 4 % 2 = 1)) (v := .int (num1 cell w g)) (et_test (ev_op (ev_op (ev_op (ev_var rfl) ev_c (rv_div (by decide) (by decide))) ev_c (rv_mod (by decide))) ev_c rv_eqI)) (fun hb => ?_) (fun hb => ?_) fun H4 e4 => ?_
    · refine ev_is (ev_op (ev_op (ev_var rfl) (ev_var rfl) (rv_mul bn bg (by decide) (by decide) (by decide))) (ev_op (ev_op ev_c (ev_op ev_c (ev_int1b (ev_op (ev_var rfl) ev_c rv_lt)) (rv_mul (a := 2) (b := 2) (by decide) (by split <;> decide) (by decide) (by decide) (by decide))) rv_sub) (ev_op (ev_op (ev_var rfl) ev_c (rv_div (by decide) (by decide))) (ev_var rfl) (rv_mod hg)) (rv_mul (a := 2) (by split <;> decide) b64 (by decide) (by decide) (by decide))) rv_add) ?_
      unfold num1
      rw [if_pos (of_decide_eq_true hb)]
      simp only [decide_eq_true_eq]
    · unfold num1
      rw [if_neg (of_decide_eq_false hb)]
      rfl
    generalize hn1 : num1 cell w g = n1
    refine q_ifAsg (b := decide (w % 4 = 0)) (v := .int (num2 cell w n1)) (et_test (ev_op (ev_op (ev_var rfl) ev_c (rv_mod (by decide))) ev_c rv_eqI)) (fun hb => ?_) (fun hb => ?_) fun H5 e5 => ?_
    · refine ev_is (ev_op ev_c (ev_op ev_c (ev_op (ev_op (ev_var rfl) ev_c (rv_div (by decide) (by decide))) ev_c (rv_mod (by decide))) (rv_mul (a := 2) (b := 2) (by decide) (by omega) (by decide) (by decide) (by decide))) rv_sub) ?_
      unfold num2
      rw [if_pos (of_decide_eq_true hb)]
    · unfold num2
      rw [if_neg (of_decide_eq_false hb)]
      rfl
    generalize hn2 : num2 cell w n1 = n2
    refine q_ifAsg (b := decide (w % 4 = 1)) (v := .int (num3 cell w n2)) (et_test (ev_op (ev_op (ev_var rfl) ev_c (rv_mod (by decide))) ev_c rv_eqI)) (fun hb => ?_) (fun hb => ?_) fun H6 e6 => ?_
    · refine ev_is (ev_op (ev_op (ev_op (ev_var rfl) ev_c (rv_div (by decide) (by decide))) ev_c (rv_mod (by decide))) ev_c rv_sub) ?_
      unfold num3
      rw [if_pos (of_decide_eq_true hb)]
    · unfold num3
      rw [if_neg (of_decide_eq_false hb)]
      rfl
    generalize hn3 : num3 cell w n2 = n3
    refine q_ifAsg (b := decide (w % 4 = 3) && decide (0 < cell / 14000007 % 3)) (v := .int (num4 cell w n3)) (et_and (et_test (ev_op (ev_op (ev_var rfl) ev_c (rv_mod (by decide))) ev_c rv_eqI)) (fun _ => et_test (ev_op (ev_op (ev_op (ev_var rfl) ev_c (rv_div (by decide) (by decide))) ev_c (rv_mod (by decide))) ev_c rv_gt))) (fun hb => ?_) (fun hb => ?_) fun H7 e7 => ?_
    · refine ev_is ev_c ?_
      unfold num4
      rw [if_pos (by simpa using hb)]
    · unfold num4
      rw [if_neg (by simpa using hb)]
      rfl
    generalize hn4 : num4 cell w n3 = n4
    have eH : H7 o = some (.lst (((lawRow c n w g).take i).map V.int)) := e7 o _ (e6 o _ (e5 o _ (e4 o _ (e3 o _ (e2 o _ hH)))))
    refine s_app eH (ev_var rfl) (ev_var (v := .int n4) rfl) (by rw [List.length_map, List.length_take]; omega) fun H8 e8 => ?_
    refine ⟨⟨some (.int i), some (.int n4), ?_⟩, Ex.mut ((((((((ex.trans e2).trans e3).trans e4).trans e5).trans e6).trans e7)).trans e8) ho, ?_⟩
    · rfl
    · rw [upd_same]
      have en : lawNum (lawCell c (i + 1)) w g = n4 := by
        unfold lawNum
        rw [hc, hn1, hn2, hn3, hn4]
      unfold lawRow
      rw [range_take _ hi1, en]
  · obtain ⟨⟨y, z, rfl⟩, ex, hH⟩ := hp
    refine s_ret (ev_var rfl) fun H2 e2 => q o H2 ho (ex.trans e2) (e2 o _ ?_)
    rw [hH, Int.toNat_natCast]
    unfold lawRow
    rw [range_take_all]
end Sg
namespace Sg
open PySem PySem.Spec PyProof.Rows L2 Evl
theorem pure_law_alike {K : PySem.W.Frag} (vs : List V) (H : Hp) (Q : VK) (E : XK) (h : sp_law_alike K vs H Q E) : t_law_alike K { nx := fun _ H' => Q .non H', rt := Q } (start N__law_alike vs) H := by
  obtain ⟨a, b, ns, ms, rfl, hS, hT, hl, q⟩ := h
  refine q_when (b := !decide ((ns.length : Int) = ms.length)) (et_is (et_or (et_not (et_B (ev_islist (ev_var rfl) hS))) (fun _ => et_test (ev_op (ev_lenM (ev_var rfl) hS) (ev_lenM (ev_var rfl) hT) rv_neI))) (by rfl)) (fun hb H1 e1 => ?_) (fun hb H1 e1 => ?_)
  · have hne : ¬ ns = ms := fun e => by
      rw [e, decide_eq_true rfl] at hb
      cases hb
    rw [decide_eq_false hne] at q
    exact s_ret ev_c fun H2 e2 => q H2 (e1.trans e2)
  · have hlen : ns.length = ms.length := by
      have : (ns.length : Int) = ms.length := by simpa using hb
      omega
    refine q_forR1 (n := (ms.length : Int)) (ea_cons (ev_lenM (ev_var rfl) (ex_l e1 hT)) ea_nil) ⟨by omega, by omega⟩
      (fun i σ H' => (∃ y, σ = [some (.ref a), some (.ref b), y]) ∧ Ex H H' ∧ ∀ k, k < i → ns.getD k 0 = ms.getD k 0)
      (fun H2 e2 => ⟨⟨none, rfl⟩, e1.trans e2, fun k hk => absurd hk (Nat.not_lt_zero _)⟩) (fun i σ H' hi hp => ?_) (fun σ H' hp => ?_)
    · obtain ⟨⟨y, rfl⟩, ex, hh⟩ := hp
      have hi2 : i < ms.length := by omega
      have hi1 : i < ns.length := by omega
      refine s_when (b := !decide (ns.getD i 0 = ms.getD i 0)) (et_is (et_or (et_not (et_B (ev_call1 (z := .bl true) (ev_op (ev_var rfl) (ev_var rfl) (rv_ixN (ex_l ex hS) rfl hi1)) (spv fun H3 _ Q3 E3 q3 => ⟨_, rfl, q3⟩)))) (fun _ => et_test (ev_op (ev_op (ev_var rfl) (ev_var rfl) (rv_ixN (ex_l ex hS) rfl hi1)) (ev_op (ev_var rfl) (ev_var rfl) (rv_ixN (ex_l ex hT) rfl hi2)) rv_neI))) (by rfl)) (fun hb2 H2 e2 => ?_) (fun hb2 H2 e2 => ?_)
      · have hne : ¬ ns = ms := fun e => by
          rw [e, decide_eq_true rfl] at hb2
          cases hb2
        rw [decide_eq_false hne] at q
        exact s_ret ev_c fun H3 e3 => q H3 ((ex.trans e2).trans e3)
      · refine ⟨⟨some (.int i), rfl⟩, ex.trans e2, fun k hk => ?_⟩
        by_cases hki : k = i
        · rw [hki]
          simpa using hb2
        · exact hh k (by omega)
    · obtain ⟨⟨y, rfl⟩, ex, hh⟩ := hp
      have he : ns = ms := by
        refine List.ext_getElem hlen fun k h1 h2 => ?_
        have z := hh k (by simpa using h2)
        rwa [List.getD_eq_getElem?_getD, List.getD_eq_getElem?_getD, List.getElem?_eq_getElem h1, List.getElem?_eq_getElem h2] at z
      rw [decide_eq_true he] at q
      exact s_ret ev_c fun H3 e3 => q H3 (ex.trans e3)
end Sg
namespace Sg
open PySem PySem.Spec PyProof.Rows L2 Evl
theorem mod_at (i : Int) (n : Nat) (hn : 0 < n) : ∃ s : Nat, s < n ∧ i % (n : Int) = (s : Int) := by
  have h1 := Int.emod_nonneg i (show (n : Int) ≠ 0 by omega)
  have h2 := Int.emod_lt_of_pos i (show (0 : Int) < n by omega)
  exact ⟨(i % (n : Int)).toNat, by omega, by omega⟩
theorem pure_law {K : PySem.W.Frag} (vs : List V) (H : Hp) (Q : VK) (E : XK) (h : sp_law K vs H Q E) : t_law K { nx := fun _ H' => Q .non H', rt := Q } (start N_law vs) H := by
  obtain ⟨a, ns, rfl, hS, hl, q⟩ := h
  obtain ⟨s0, hs0, es0⟩ := mod_at (cellAt ns 0) 5 (by decide)
  obtain ⟨s, hs⟩ : ∃ s : Nat, s = 1 + s0 := ⟨_, rfl⟩
  refine q_asg (v := .int (s : Int)) (ev_is (ev_op ev_c (ev_op (ev_cell (k := 0) (ev_var rfl) ev_c hS) ev_c (rv_mod (by decide))) rv_add) (congrArg V.int (by omega))) fun H1 e1 => ?_
  have hS1 := ex_l e1 hS
  refine q_asgL (el_law_row (g := 900000000000) (s := s) (ev_cell (k := 1) (ev_var rfl) ev_c hS1) (ev_var rfl) (ev_cell (k := 2) (ev_var rfl) ev_c hS1) (ev_op (x := .int 9) ev_c (ev_pow (n := 0) (by decide) (by decide) ev_c ev_c) (rv_mul (a := 4) (b := 40) (by decide) (by decide) (by decide) (by decide) (by decide))) (by omega) (by decide) (by decide)) fun rp H2 hr2 e2 h2 => ?_
  have hrow := lawRow_isRow (s := s) (c := cellAt ns 1) (way := cellAt ns 2) (g := 900000000000) (by omega) (by decide) (by decide)
  have hln := lawRow_length (cellAt ns 1) (2 ^ s) (cellAt ns 2) 900000000000
  generalize lawRow (cellAt ns 1) (2 ^ s) (cellAt ns 2) 900000000000 = row at h2 hrow hln
  have hs6 : s < 6 := by omega
  have h32 := pow_le' hs6
  have hS2 := ex_l e2 hS1
  obtain ⟨t, ht, et⟩ := mod_at (cellAt ns 3) s (by omega)
  have hw : 2 ^ t < 1000 := Nat.lt_of_le_of_lt (Nat.pow_le_pow_right (by decide) (show t ≤ 5 by omega)) (by decide)
  refine q_asg (v := .int (t : Int)) (ev_is (ev_op (ev_cell (k := 3) (ev_var rfl) ev_c hS2) (ev_var rfl) (rv_mod (by omega))) (congrArg V.int et)) fun H3 e3 => ?_
  refine q_asg (v := .int ((2 ^ t : Nat) : Int)) (ev_tab el_five (ev_var rfl) (at_five (by omega))) fun H4 e4 => ?_
  have hR4 : SqL K H4 rp (row.map V.int) := ex_l e4 (ex_l e3 (sq_of h2))
  refine q_asgL (el_listS (evs_var rfl hR4)) fun dp H5 hd5 e5 h5 => ?_
  refine q_asgL (el_lst ea_nil (by decide)) fun hp H6 hh6 e6 h6 => ?_
  have hR6 := ex_l e6 (ex_l e5 hR4)
  have hD6 : SqL K H6 dp (row.map V.int) := sq_of (e6 dp _ h5)
  have hR5 := ex_l e5 hR4
  have hD5 : SqL K H5 dp (row.map V.int) := sq_of h5
  have ok : ∀ h : Int, h = 0 ∨ h = 1 → StepOk row.length (t : Int) h := fun h hh => by
    unfold StepOk
    rw [hln, stepsN_pow s hs6]
    exact ⟨by omega, by omega, hh⟩
  -- the two halves
  refine q_forR1 (n := 2) (ea_cons ev_c ea_nil) ⟨by decide, by decide⟩
    (fun i σ H' => (∃ x y z, σ = [some (.ref a), some (.int s), some (.ref rp), some (.int t), some (.int ((2 ^ t : Nat) : Int)), some (.ref dp), some (.ref hp), x, y, z, none, none, none, none, none]) ∧ Ex H5 H' ∧ ∃ ps : List Addr, Rows H' hp i (fun k => sumsL (halfL row (2 ^ t) k)) ps ∧ hp ∉ ps)
    (fun H7 e7 => ⟨⟨none, none, none, rfl⟩, e6.trans e7, [], ⟨rfl, e7 hp _ h6, fun k hk => absurd hk (Nat.not_lt_zero _)⟩, by simp⟩) (fun i σ H' hi hpv => ?_) (fun σ H' hpv => ?_)
  · obtain ⟨⟨x, y, z, rfl⟩, ex, ps, rr, nd⟩ := hpv
    have hi2 : (i : Int) = 0 ∨ (i : Int) = 1 := by omega
    have hRx := ex_l ex hR5
    have hDx := ex_l ex hD5
    have hlen := half_len hs6 ht hln hi2
    have hrowh := half_isRow hs6 ht hln hi2 hrow
    have hpl : 2 ^ (s - 1) ≤ 32 := pow_le' (by omega)
    refine q_asgL (el_halfC (n := row.length) (w := 2 ^ t) (half := (i : Int)) (ea_cons (ev_lenS (evs_var rfl hRx)) ea_nil) rfl (by omega) (fun _ => rfl) (fun j hj H7 e7 => et_half (ev_var rfl) (ev_var rfl) (ev_var rfl) (Nat.two_pow_pos t) hw) fun j hj H7 e7 => evs_ix (evs_var rfl (ex_l e7 hRx)) (ev_var rfl) rfl hj) fun up H7 hu7 e7 h7 => ?_
    refine q_asgL (el_halved (evs_var rfl (ex_l e7 hDx)) (ev_var rfl) (ev_var rfl) hrow (ok i hi2)) fun fp H8 hf8 e8 h8 => ?_
    rw [Int.toNat_natCast] at h8
    have hU8 := e8 up _ h7
    refine q_when (b := false) (et_is (et_or (et_not (et_B (ev_alikeS (evs_var rfl (sq_of h8)) (evs_var rfl (sq_of hU8)) (by omega)))) fun _ => et_test (ev_neS (evs_var rfl (ex_l (e7.trans e8) hDx)) (evs_var rfl (ex_l (e7.trans e8) hRx)))) (by rw [decide_eq_true rfl, decide_eq_true rfl] <;> rfl)) (fun hb => nomatch hb) (fun _ H9 e9 => ?_)
    have r9 := (rr.mono e7).mono (e8.trans e9)
    have hf9 := e9 fp _ h8
    have nfh : fp ≠ hp := fun e => by
      rw [e, (rr.mono e7).at_] at hf8
      cases hf8
    have nfp : ∀ k, k < i → ps.getD k 0 ≠ fp := fun k hk => ne_of_none ((rr.mono e7).row k hk) hf8
    have hhH : H5 hp = none := hh6
    have hfH : H5 fp = none := fresh_back (ex.trans e7) hf8
    refine q_appL r9.at_ (ev_var rfl) (el_sumsS (evs_var rfl (sq_of hf9)) hrowh) (by rw [List.length_map, r9.len]; omega) fun sp H10 ns10 e10 h10 => ?_
    have nsh : sp ≠ hp := fun e => by
      rw [e, r9.at_] at ns10
      cases ns10
    have nsf : sp ≠ fp := fun e => by
      rw [e, hf9] at ns10
      cases ns10
    have hf10 : (upd H10 hp (.lst (ps.map V.ref ++ [.ref sp]))) fp = some (.lst ((halfL row (2 ^ t) i).map V.int)) := by
      rw [upd_ne nfh]
      exact e10 fp _ hf9
    refine s_app hf10 (ev_var rfl) ev_c (by rw [List.length_map]; omega) fun H11 e11 => ?_
    have exA : Ex H5 (upd H10 hp (.lst (ps.map V.ref ++ [.ref sp]))) := Ex.mut ((((ex.trans e7).trans e8).trans e9).trans e10) hhH
    refine ⟨⟨some (.int i), some (.ref up), some (.ref fp), rfl⟩, Ex.mut (exA.trans e11) hfH, ps ++ [sp], ⟨by rw [List.length_append, rr.len]; rfl, ?_, fun k hk => ?_⟩, by simp [nd, Ne.symm nsh]⟩
    · rw [upd_ne (Ne.symm nfh)]
      refine e11 hp _ ?_
      rw [upd_same, List.map_append]
      rfl
    · by_cases hkm : k < i
      · have hg : (ps ++ [sp]).getD k 0 = ps.getD k 0 := by
          rw [List.getD_eq_getElem?_getD, List.getD_eq_getElem?_getD, List.getElem?_append_left (by rw [rr.len]; exact hkm)]
        have hne : ps.getD k 0 ≠ hp := fun e => nd (by
          rw [← e, List.getD_eq_getElem?_getD, List.getElem?_eq_getElem (by rw [rr.len]; exact hkm)]
          exact List.getElem_mem _)
        rw [hg, upd_ne (nfp k hkm)]
        refine e11 _ _ ?_
        rw [upd_ne hne]
        exact e10 _ _ (r9.row k hkm)
      · have hk2 : k = i := by omega
        have hg : (ps ++ [sp]).getD k 0 = sp := by
          rw [List.getD_eq_getElem?_getD, List.getElem?_append_right (by rw [rr.len]; omega), rr.len, hk2, Nat.sub_self]
          rfl
        rw [hg, upd_ne nsf, hk2]
        refine e11 _ _ ?_
        rw [upd_ne nsh]
        exact h10
  · obtain ⟨⟨x, y, z, rfl⟩, ex, ps, rr, nd⟩ := hpv
    have rr : Rows H' hp 2 (fun k => sumsL (halfL row (2 ^ t) k)) ps := rr
    have hRx := ex_l ex hR5
    have hDx := ex_l ex hD5
    have hpl : 2 ^ (s - 1) ≤ 32 := pow_le' (by omega)
    refine q_asgL (el_sumsS (evs_var rfl hDx) hrow) fun wp H7 hw7 e7 h7 => ?_
    have hsl : (sumsL row).length = row.length := sumsL_length row
    have hl0 : (halfL (sumsL row) (2 ^ t) 0).length = 2 ^ (s - 1) := half_len hs6 ht (hsl.trans hln) (.inl rfl)
    have hl1 : (halfL (sumsL row) (2 ^ t) 1).length = 2 ^ (s - 1) := half_len hs6 ht (hsl.trans hln) (.inr rfl)
    refine q_asgL (el_halfC (n := row.length) (w := 2 ^ t) (half := 0) (ns := sumsL row) (ea_cons (ev_lenS (evs_var rfl (ex_l e7 hRx))) ea_nil) hsl (by omega) (fun _ => rfl) (fun j hj H8 e8 => et_half (ev_var rfl) (ev_var rfl) ev_c (Nat.two_pow_pos t) hw) fun j hj H8 e8 => evs_ix (evs_var rfl (sq_of (e8 wp _ h7))) (ev_var rfl) rfl (by omega)) fun op H8 ho8 e8 h8 => ?_
    refine q_asgL (el_halfC (n := row.length) (w := 2 ^ t) (half := 1) (ns := sumsL row) (ea_cons (ev_lenS (evs_var rfl (ex_l e8 (ex_l e7 hRx)))) ea_nil) hsl (by omega) (fun _ => rfl) (fun j hj H9 e9 => et_half (ev_var rfl) (ev_var rfl) ev_c (Nat.two_pow_pos t) hw) fun j hj H9 e9 => evs_ix (evs_var rfl (sq_of (e9 wp _ (e8 wp _ h7)))) (ev_var rfl) rfl (by omega)) fun vp H9 hv9 e9 h9 => ?_
    have r9 := rr.mono ((e7.trans e8).trans e9)
    have hO9 := e9 op _ h8
    have z0 : ∀ k, k < 2 ^ (s - 1) → (sumsL (halfL row (2 ^ t) 0)).getD k 0 = sumAt (halfL row (2 ^ t) 0) k := fun k hk => getD_sumsL (by rw [half_len hs6 ht hln (.inl rfl)]; exact hk)
    have z1 : ∀ k, k < 2 ^ (s - 1) → (sumsL (halfL row (2 ^ t) 1)).getD k 0 = sumAt (halfL row (2 ^ t) 1) k := fun k hk => getD_sumsL (by rw [half_len hs6 ht hln (.inr rfl)]; exact hk)
    have y0 : (sumsL (halfL row (2 ^ t) ((0 : Nat) : Int))).length = 2 ^ (s - 1) := by rw [sumsL_length]; exact half_len hs6 ht hln (.inl rfl)
    have y1 : (sumsL (halfL row (2 ^ t) ((1 : Nat) : Int))).length = 2 ^ (s - 1) := by rw [sumsL_length]; exact half_len hs6 ht hln (.inr rfl)
    have w0 : halfL (sumsL row) (2 ^ t) 0 = (List.range (2 ^ (s - 1))).map fun k => (sumsL (halfL row (2 ^ t) 0)).getD k 0 + (sumsL (halfL row (2 ^ t) 1)).getD k 0 := by
      rw [half0 hs6 ht (hsl.trans hln)]
      refine List.map_congr_left fun k hk => ?_
      rw [List.mem_range] at hk
      have hin := ins_lt s hs6 t ht k hk
      rw [z0 k hk, z1 k hk, (sums_halves hs6 ht hln hk).1, getD_sumsL (by rw [hln]; exact Nat.lt_of_le_of_lt (Nat.le_add_right _ _) hin)]
    have w1 : halfL (sumsL row) (2 ^ t) 1 = (List.range (2 ^ (s - 1))).map fun k => (sumsL (halfL row (2 ^ t) 0)).getD k 0 - (sumsL (halfL row (2 ^ t) 1)).getD k 0 := by
      rw [half1 hs6 ht (hsl.trans hln)]
      refine List.map_congr_left fun k hk => ?_
      rw [List.mem_range] at hk
      have hin := ins_lt s hs6 t ht k hk
      rw [z0 k hk, z1 k hk, (sums_halves hs6 ht hln hk).2, getD_sumsL (by rw [hln]; exact hin)]
    have m0 : EvS K (tLc (iRng1 (tCons (tCB (rLenS K) (tCons (tVar 11) tNil)) tNil)) (gName 14) tYes (tOp rAddI (tOp (rIxL K) (tOp (rIxL K) (tVar 6) (tC (.int 0))) (tVar 14)) (tOp (rIxL K) (tOp (rIxL K) (tVar 6) (tC (.int 1))) (tVar 14))) [14]) [some (.ref a), some (.int s), some (.ref rp), some (.int t), some (.int ((2 ^ t : Nat) : Int)), some (.ref dp), some (.ref hp), x, y, z, some (.ref wp), some (.ref op), some (.ref vp), none, none] H9 (halfL (sumsL row) (2 ^ t) 0) := by
      refine evs_new ?_
      rw [w0, List.map_map]
      exact el_mapR (fun k => .int ((sumsL (halfL row (2 ^ t) 0)).getD k 0 + (sumsL (halfL row (2 ^ t) 1)).getD k 0)) (ea_cons (ev_is (ev_lenS (evs_var rfl (sq_of hO9))) (by rw [hl0])) ea_nil) (by omega) (fun _ => rfl) fun i hi H10 e10 => ev_op (evs_ix ((r9.mono e10).evs (k := 0) (ev_var rfl) ev_c rfl (by decide)) (ev_var rfl) rfl (by rw [y0]; exact hi)) (evs_ix ((r9.mono e10).evs (k := 1) (ev_var rfl) ev_c rfl (by decide)) (ev_var rfl) rfl (by rw [y1]; exact hi)) rv_add
    refine q_when (b := false) (et_is (et_test (ev_neS m0 (evs_var rfl (sq_of hO9)))) (by rw [decide_eq_true rfl] <;> rfl)) (fun hb => nomatch hb) (fun _ H10 e10 => ?_)
    have r10 := r9.mono e10
    have hV10 := e10 vp _ h9
    have m1 : EvS K (tLc (iRng1 (tCons (tCB (rLenS K) (tCons (tVar 12) tNil)) tNil)) (gName 14) tYes (tOp rSubI (tOp (rIxL K) (tOp (rIxL K) (tVar 6) (tC (.int 0))) (tVar 14)) (tOp (rIxL K) (tOp (rIxL K) (tVar 6) (tC (.int 1))) (tVar 14))) [14]) [some (.ref a), some (.int s), some (.ref rp), some (.int t), some (.int ((2 ^ t : Nat) : Int)), some (.ref dp), some (.ref hp), x, y, z, some (.ref wp), some (.ref op), some (.ref vp), none, none] H10 (halfL (sumsL row) (2 ^ t) 1) := by
      refine evs_new ?_
      rw [w1, List.map_map]
      exact el_mapR (fun k => .int ((sumsL (halfL row (2 ^ t) 0)).getD k 0 - (sumsL (halfL row (2 ^ t) 1)).getD k 0)) (ea_cons (ev_is (ev_lenS (evs_var rfl (sq_of hV10))) (by rw [hl1])) ea_nil) (by omega) (fun _ => rfl) fun i hi H11 e11 => ev_op (evs_ix ((r10.mono e11).evs (k := 0) (ev_var rfl) ev_c rfl (by decide)) (ev_var rfl) rfl (by rw [y0]; exact hi)) (evs_ix ((r10.mono e11).evs (k := 1) (ev_var rfl) ev_c rfl (by decide)) (ev_var rfl) rfl (by rw [y1]; exact hi)) rv_sub
    refine s_ret (v := .bl true) (ev_is (ev_eqS m1 (evs_var rfl (sq_of hV10))) (by rw [decide_eq_true rfl])) fun H11 e11 => q H11
end Sg
namespace Sg
open PySem PySem.Spec PyProof.Rows L2 Evl
/-! ### the text -/
def topS (i : Nat) : Stmt := PySem.Challenge.pw_signsums_k07_whole_halved.main.body.getD i (.Pass ⟨0, 0, 0, 0⟩)
abbrev s_ask_row : Stmt := topS 7
theorem sc_ask_row : FnScope N_ask_row ["row"] (defScope s_ask_row) := ⟨rfl, rfl, rfl, by decide +kernel, rfl, by decide +kernel, by decide +kernel⟩
abbrev s_summed : Stmt := topS 8
theorem sc_summed : FnScope N_summed ["row"] (defScope s_summed) := ⟨rfl, rfl, rfl, by decide +kernel, rfl, by decide +kernel, by decide +kernel⟩
abbrev s_sums : Stmt := topS 9
theorem sc_sums : FnScope N_sums ["row"] (defScope s_sums) := ⟨rfl, rfl, rfl, by decide +kernel, rfl, by decide +kernel, by decide +kernel⟩
abbrev s_steps_of : Stmt := topS 11
theorem sc_steps_of : FnScope N_steps_of ["row"] (defScope s_steps_of) := ⟨rfl, rfl, rfl, by decide +kernel, rfl, by decide +kernel, by decide +kernel⟩
abbrev s_halved : Stmt := topS 12
theorem sc_halved : FnScope N_halved ["row", "step", "half"] (defScope s_halved) := ⟨rfl, rfl, rfl, by decide +kernel, rfl, by decide +kernel, by decide +kernel⟩
abbrev s__law_cell_at : Stmt := topS 14
theorem sc__law_cell_at : FnScope N__law_cell_at ["script", "k"] (defScope s__law_cell_at) := ⟨rfl, rfl, rfl, by decide +kernel, rfl, by decide +kernel, by decide +kernel⟩
abbrev s__law_whole : Stmt := topS 15
theorem sc__law_whole : FnScope N__law_whole ["found"] (defScope s__law_whole) := ⟨rfl, rfl, rfl, by decide +kernel, rfl, by decide +kernel, by decide +kernel⟩
abbrev s__law_next : Stmt := topS 16
theorem sc__law_next : FnScope N__law_next ["seed"] (defScope s__law_next) := ⟨rfl, rfl, rfl, by decide +kernel, rfl, by decide +kernel, by decide +kernel⟩
abbrev s__law_row : Stmt := topS 17
theorem sc__law_row : FnScope N__law_row ["cell", "steps", "way", "great"] (defScope s__law_row) := ⟨rfl, rfl, rfl, by decide +kernel, rfl, by decide +kernel, by decide +kernel⟩
abbrev s__law_alike : Stmt := topS 18
theorem sc__law_alike : FnScope N__law_alike ["found", "due"] (defScope s__law_alike) := ⟨rfl, rfl, rfl, by decide +kernel, rfl, by decide +kernel, by decide +kernel⟩
abbrev s_law : Stmt := topS 19
theorem sc_law : FnScope N_law ["script"] (defScope s_law) := ⟨rfl, rfl, rfl, by decide +kernel, rfl, by decide +kernel, by decide +kernel⟩
/-! ### what the top has written -/
structure Txt (K : PySem.W.Frag) (mg : Str → Option Value) where
  bool : mg "bool" = none
  int : mg "int" = none
  isinstance : mg "isinstance" = none
  len : mg "len" = none
  list : mg "list" = none
  range : mg "range" = none
  m_SignError : mg "SignError" = some (.ref (He.ga K "SignError"))
  x_SignError : XOk K (He.ga K "SignError")
  m_NoRow : mg "NoRow" = some (.ref (He.ga K "NoRow"))
  x_NoRow : XOk K (He.ga K "NoRow")
  m_NoStep : mg "NoStep" = some (.ref (He.ga K "NoStep"))
  x_NoStep : XOk K (He.ga K "NoStep")
  m_LENGTHS : mg "LENGTHS" = some (.ref (He.ga K "LENGTHS"))
  v_LENGTHS : ∀ H : Hp, SqT K H (He.ga K "LENGTHS") [.int 1, .int 2, .int 4, .int 8, .int 16, .int 32]
  m_MOST : ∃ t, mg "MOST" = some (.int 100000000000000000000 t)
  d_ask_row : FuncData
  g_ask_row : mg "ask_row" = some (.ref (He.ga K "ask_row"))
  F_ask_row : Fun K "ask_row" "ask_row" s_ask_row (He.ga K "ask_row") d_ask_row
  b_ask_row : Binds K d_ask_row ["row"] []
  d_summed : FuncData
  g_summed : mg "summed" = some (.ref (He.ga K "summed"))
  F_summed : Fun K "summed" "summed" s_summed (He.ga K "summed") d_summed
  b_summed : Binds K d_summed ["row"] []
  d_sums : FuncData
  g_sums : mg "sums" = some (.ref (He.ga K "sums"))
  F_sums : Fun K "sums" "sums" s_sums (He.ga K "sums") d_sums
  b_sums : Binds K d_sums ["row"] []
  d_steps_of : FuncData
  g_steps_of : mg "steps_of" = some (.ref (He.ga K "steps_of"))
  F_steps_of : Fun K "steps_of" "steps_of" s_steps_of (He.ga K "steps_of") d_steps_of
  b_steps_of : Binds K d_steps_of ["row"] []
  d_halved : FuncData
  g_halved : mg "halved" = some (.ref (He.ga K "halved"))
  F_halved : Fun K "halved" "halved" s_halved (He.ga K "halved") d_halved
  b_halved : Binds K d_halved ["row", "step", "half"] []
  d__law_cell_at : FuncData
  g__law_cell_at : mg "_law_cell_at" = some (.ref (He.ga K "_law_cell_at"))
  F__law_cell_at : Fun K "_law_cell_at" "_law_cell_at" s__law_cell_at (He.ga K "_law_cell_at") d__law_cell_at
  b__law_cell_at : Binds K d__law_cell_at ["script", "k"] []
  d__law_whole : FuncData
  g__law_whole : mg "_law_whole" = some (.ref (He.ga K "_law_whole"))
  F__law_whole : Fun K "_law_whole" "_law_whole" s__law_whole (He.ga K "_law_whole") d__law_whole
  b__law_whole : Binds K d__law_whole ["found"] []
  d__law_next : FuncData
  g__law_next : mg "_law_next" = some (.ref (He.ga K "_law_next"))
  F__law_next : Fun K "_law_next" "_law_next" s__law_next (He.ga K "_law_next") d__law_next
  b__law_next : Binds K d__law_next ["seed"] []
  d__law_row : FuncData
  g__law_row : mg "_law_row" = some (.ref (He.ga K "_law_row"))
  F__law_row : Fun K "_law_row" "_law_row" s__law_row (He.ga K "_law_row") d__law_row
  b__law_row : Binds K d__law_row ["cell", "steps", "way", "great"] []
  d__law_alike : FuncData
  g__law_alike : mg "_law_alike" = some (.ref (He.ga K "_law_alike"))
  F__law_alike : Fun K "_law_alike" "_law_alike" s__law_alike (He.ga K "_law_alike") d__law_alike
  b__law_alike : Binds K d__law_alike ["found", "due"] []
  d_law : FuncData
  g_law : mg "law" = some (.ref (He.ga K "law"))
  F_law : Fun K "law" "law" s_law (He.ga K "law") d_law
  b_law : Binds K d_law ["script"] []
end Sg
namespace Sg
open PySem PySem.Spec PyProof.Rows L2 Evl
section
variable {P : Program} {w : World} {K : PySem.W.Frag} {mg : Str → Option Value} {base : Heap}
theorem ok_ask_row (T : Txt K mg) : FnOk P w K mg base (L2.CX P w) 1 (He.ga K "ask_row") T.d_ask_row ["row"] (sp_ask_row K) := by
  refine T.F_ask_row.okX sc_ask_row len_ask_row (fun cdv A outer s H vs Q E hr h => ⟨t_ask_row K E, ?_, pure_ask_row (T.v_LENGTHS) vs H Q E h⟩)
  exact (pss_cons (ps_if (pt_cmpR op_notIn_seq (pe_callB call_len_seq (by rfl) T.len PySem.boot_len (pa_cons (pv 0) pa_nil)) (pe_glob (v := .ref (He.ga K "LENGTHS")) (by rfl) T.m_LENGTHS rfl) (by rfl))
   (pss_one (ps_raise rfl (takes_of rfl rfl rfl rfl) (pmk_own PySem.F.excBase_ValueError T.x_NoRow.ok T.m_NoRow T.x_NoRow.kp (raises_own T.x_NoRow.sb T.x_NoRow.ty) (by exact rfl))))
   pss_nil)
  (pss_one (ps_for (passes_of rfl) rfl (pi_list (pv 0)) (pg_name (i := 1) sc_ask_row.nd rfl (Or.inl rfl))
   (pss_one (ps_if (pt_not (pt_chain op_le op_le (pe_un un_neg (pe_glob (by rfl) T.m_MOST.choose_spec ⟨_, rfl⟩)) (pv 1) (pe_glob (by rfl) T.m_MOST.choose_spec ⟨_, rfl⟩)))
    (pss_one (ps_raise rfl (takes_of rfl rfl rfl rfl) (pmk_own PySem.F.excBase_ValueError T.x_NoRow.ok T.m_NoRow T.x_NoRow.kp (raises_own T.x_NoRow.sb T.x_NoRow.ty) (by exact rfl))))
    pss_nil)))))
theorem ok_summed (T : Txt K mg) : FnOk P w K mg base CX0 1 (He.ga K "summed") T.d_summed ["row"] (sp_summed K) := by
  refine T.F_summed.ok sc_summed len_summed (fun cdv A outer s H vs Q E hr h => ⟨t_summed K, ?_, pure_summed vs H Q E h⟩)
  exact (pss_cons (ps_set (i := 1) sc_summed.nd rfl (Or.inl rfl) (pe_callTy call_list_of (by rfl) T.list (by decide +kernel) (pa_cons (pv 0) pa_nil)))
  (pss_cons (ps_set (i := 2) sc_summed.nd rfl (Or.inl rfl) pe_int)
  (pss_cons (ps_while PassesOwn.never (pt_cmpR op_lt (pv 2) (pe_callB call_len_seq (by rfl) T.len PySem.boot_len (pa_cons (pv 1) pa_nil)) (nomark _))
   (pss_cons (ps_set (i := 3) sc_summed.nd rfl (Or.inl rfl) (pe_callTy call_list_of (by rfl) T.list (by decide +kernel) (pa_cons (pv 1) pa_nil)))
   (pss_cons (ps_for PassesOwn.never rfl (pi_range1 (by rfl) T.range (pa_cons (pe_callB call_len_seq (by rfl) T.len PySem.boot_len (pa_cons (pv 1) pa_nil)) pa_nil)) (pg_name (i := 4) sc_summed.nd rfl (Or.inl rfl))
    (pss_one (ps_if (pt_cmpR op_eq (pe_op op_mod (pe_op op_fdiv (pv 4) (pv 2)) pe_int) pe_int (nomark _))
     (pss_cons (ps_asg (pe_op op_add (pe_ix ix_list (pv 1) (pv 4) (fun _ _ => rfl)) (pe_ix ix_list (pv 1) (pe_op op_add (pv 4) (pv 2)) (fun _ _ => rfl))) (pg_sub (pv 3) (pv 4) set_list))
     (pss_one (ps_asg (pe_op op_sub (pe_ix ix_list (pv 1) (pv 4) (fun _ _ => rfl)) (pe_ix ix_list (pv 1) (pe_op op_add (pv 4) (pv 2)) (fun _ _ => rfl))) (pg_sub (pv 3) (pe_op op_add (pv 4) (pv 2)) set_list))))
     pss_nil)))
   (pss_cons (ps_set (i := 1) sc_summed.nd rfl (Or.inl rfl) (pv 3))
   (pss_one (ps_set (i := 2) sc_summed.nd rfl (Or.inl rfl) (pe_op op_mulW pe_int (pv 2))))))))
  (pss_one (ps_ret (pv 1))))))
theorem ok_sums (T : Txt K mg) (G_ask_row : FnOk P w K mg base (L2.CX P w) 1 (He.ga K "ask_row") T.d_ask_row ["row"] (sp_ask_row K)) (G_summed : FnOk P w K mg base CX0 1 (He.ga K "summed") T.d_summed ["row"] (sp_summed K)) : FnOk P w K mg base (L2.CX P w) 2 (He.ga K "sums") T.d_sums ["row"] (sp_sums K) := by
  refine T.F_sums.okX sc_sums len_sums (fun cdv A outer s H vs Q E hr h => ⟨t_sums K E, ?_, pure_sums vs H Q E h⟩)
  exact (pss_cons (ps_expr (pe_call G_ask_row (hr.mono (by decide)) (by rfl) T.g_ask_row T.F_ask_row.kp T.b_ask_row .nil (passes_call (takes_of rfl rfl rfl rfl) (fun _ _ _ _ h => h)) (pa_cons (pv 0) pa_nil)))
  (pss_one (ps_ret (pe_call G_summed (hr.mono (by decide)) (by rfl) T.g_summed T.F_summed.kp T.b_summed .nil pass0 (pa_cons (pv 0) pa_nil)))))
theorem ok_steps_of (T : Txt K mg) : FnOk P w K mg base CX0 1 (He.ga K "steps_of") T.d_steps_of ["row"] (sp_steps_of K) := by
  refine T.F_steps_of.ok sc_steps_of len_steps_of (fun cdv A outer s H vs Q E hr h => ⟨t_steps_of K, ?_, pure_steps_of vs H Q E h⟩)
  exact (pss_one (ps_ret (pe_dget (hu_of hr) (pe_disp (pps_cons pe_int pe_int (pps_cons pe_int pe_int (pps_cons pe_int pe_int (pps_cons pe_int pe_int (pps_cons pe_int pe_int (pps_cons pe_int pe_int pps_nil)))))) (by rfl) (by rfl) (fun z => by cases z) (by decide)) (pe_callB call_len_seq (by rfl) T.len PySem.boot_len (pa_cons (pv 0) pa_nil)) (fun _ _ => rfl))))
theorem ok_halved (T : Txt K mg) (G_ask_row : FnOk P w K mg base (L2.CX P w) 1 (He.ga K "ask_row") T.d_ask_row ["row"] (sp_ask_row K)) (G_steps_of : FnOk P w K mg base CX0 1 (He.ga K "steps_of") T.d_steps_of ["row"] (sp_steps_of K)) : FnOk P w K mg base (L2.CX P w) 2 (He.ga K "halved") T.d_halved ["row", "step", "half"] (sp_halved K) := by
  refine T.F_halved.okX sc_halved len_halved (fun cdv A outer s H vs Q E hr h => ⟨t_halved K E, ?_, pure_halved vs H Q E h⟩)
  exact (pss_cons (ps_expr (pe_call G_ask_row (hr.mono (by decide)) (by rfl) T.g_ask_row T.F_ask_row.kp T.b_ask_row .nil (passes_call (takes_of rfl rfl rfl rfl) (fun _ _ _ _ h => h)) (pa_cons (pv 0) pa_nil)))
  (pss_cons (ps_if (PW.pt (pw_or (pt_not (pt_chain op_le op_lt pe_int (pv 1) (pe_call G_steps_of (hr.mono (by decide)) (by rfl) T.g_steps_of T.F_steps_of.kp T.b_steps_of .nil pass0 (pa_cons (pv 0) pa_nil)))) (pw_or1 (pt_cmpR op_notIn_seq (pv 2) (pe_tup (pa_cons pe_int (pa_cons pe_int pa_nil))) (by rfl)))))
   (pss_one (ps_raise rfl (takes_of rfl rfl rfl rfl) (pmk_own PySem.F.excBase_ValueError T.x_NoStep.ok T.m_NoStep T.x_NoStep.kp (raises_own T.x_NoStep.sb T.x_NoStep.ty) (by exact rfl))))
   pss_nil)
  (pss_cons (ps_set (i := 3) sc_halved.nd rfl (Or.inr rfl) (pe_ix ix_list (pe_lst (pa_cons pe_int (pa_cons pe_int (pa_cons pe_int (pa_cons pe_int (pa_cons pe_int pa_nil)))))) (pv 1) (fun _ _ => rfl)))
  (pss_one (ps_ret (pe_lc (own := [("place", 4)]) (g := (gName 4)) (tt := (tTest (tOp rEq (tOp rModI (tOp rDivI (tVar 4) (tVar 3)) (tC (.int 2))) (tVar 2)))) rfl sc_halved.nd (pi_range1 (by rfl) T.range (pa_cons (pe_callB call_len_seq (by rfl) T.len PySem.boot_len (pa_cons (pv 0) pa_nil)) pa_nil)) (blkOk_by (own := [("place", 4)]) (N := N_halved) (sc := defScope s_halved) (by decide +kernel)) (fun _ _ _ _ _ => pg_name (i := 4) sc_halved.nd rfl (Or.inl rfl)) (fun _ _ _ _ _ => pts_one (pt_cmpR op_eq (pe_op op_mod (pe_op op_fdiv (pv 4) (pv 3)) pe_int) (pv 2) (nomark _))) (fun _ _ _ _ _ => (pe_ix ix_list (pv 0) (pv 4) (fun _ _ => rfl)))))))))
theorem ok_law_cell_at (T : Txt K mg) : FnOk P w K mg base CX0 1 (He.ga K "_law_cell_at") T.d__law_cell_at ["script", "k"] (sp_law_cell_at K) := by
  refine T.F__law_cell_at.ok sc__law_cell_at len_law_cell_at (fun cdv A outer s H vs Q E hr h => ⟨t_law_cell_at K, ?_, pure_law_cell_at vs H Q E h⟩)
  exact (pss_cons (ps_if (pt_cmpR op_lt (pv 1) (pe_callB call_len_seq (by rfl) T.len PySem.boot_len (pa_cons (pv 0) pa_nil)) (nomark _))
   (pss_one (ps_ret (pe_ix ix_list (pv 0) (pv 1) (fun _ _ => rfl))))
   pss_nil)
  (pss_one (ps_ret pe_int)))
theorem ok_law_whole (T : Txt K mg) : FnOk P w K mg base CX0 1 (He.ga K "_law_whole") T.d__law_whole ["found"] (sp_law_whole K) := by
  refine T.F__law_whole.ok sc__law_whole len_law_whole (fun cdv A outer s H vs Q E hr h => ⟨t_law_whole K, ?_, pure_law_whole vs H Q E h⟩)
  exact (pss_one (ps_ret (pe_and (pe_callB call_isi (by rfl) T.isinstance (by decide +kernel) (pa_cons (pv 0) (pa_cons (pe_bltn (v := .ty "int") (by rfl) T.int (by decide +kernel) rfl) pa_nil))) (pe_one (pe_not (pe_callB call_isi (by rfl) T.isinstance (by decide +kernel) (pa_cons (pv 0) (pa_cons (pe_bltn (v := .ty "bool") (by rfl) T.bool (by decide +kernel) rfl) pa_nil))))))))
theorem ok_law_next (T : Txt K mg) : FnOk P w K mg base CX0 1 (He.ga K "_law_next") T.d__law_next ["seed"] (sp_law_next K) := by
  refine T.F__law_next.ok sc__law_next len_law_next (fun cdv A outer s H vs Q E hr h => ⟨t_law_next K, ?_, pure_law_next vs H Q E h⟩)
  exact (pss_cons (ps_set (i := 0) sc__law_next.nd rfl (Or.inl rfl) (pe_op op_mod (pe_op op_add (pv 0) pe_int) pe_int))
  (pss_one (ps_ret (pe_op op_mod (pe_op op_add (pe_op op_add (pe_op op_mulW (pv 0) (pv 0)) (pe_op op_mulW pe_int (pv 0))) pe_int) pe_int))))
theorem ok_law_row (T : Txt K mg) (G_law_next : FnOk P w K mg base CX0 1 (He.ga K "_law_next") T.d__law_next ["seed"] (sp_law_next K)) : FnOk P w K mg base CX0 2 (He.ga K "_law_row") T.d__law_row ["cell", "steps", "way", "great"] (sp_law_row K) := by
  refine T.F__law_row.ok sc__law_row len_law_row (fun cdv A outer s H vs Q E hr h => ⟨t_law_row K, ?_, pure_law_row vs H Q E h⟩)
  exact (pss_cons (ps_set (i := 4) sc__law_row.nd rfl (Or.inl rfl) (pe_lst pa_nil))
  (pss_cons (ps_for PassesOwn.never rfl (pi_range1 (by rfl) T.range (pa_cons (pe_ix ix_list (pe_lst (pa_cons pe_int (pa_cons pe_int (pa_cons pe_int (pa_cons pe_int (pa_cons pe_int (pa_cons pe_int pa_nil))))))) (pv 1) (fun _ _ => rfl)) pa_nil)) (pg_name (i := 5) sc__law_row.nd rfl (Or.inl rfl))
   (pss_cons (ps_set (i := 0) sc__law_row.nd rfl (Or.inl rfl) (pe_call G_law_next (hr.mono (by decide)) (by rfl) T.g__law_next T.F__law_next.kp T.b__law_next .nil pass0 (pa_cons (pe_op op_add (pe_op op_mod (pv 0) pe_int) (pe_op op_mulW pe_int (pv 5))) pa_nil)))
   (pss_cons (ps_set (i := 6) sc__law_row.nd rfl (Or.inl rfl) (pe_op op_sub (pe_op op_mod (pe_op op_fdiv (pv 0) pe_int) pe_int) pe_int))
   (pss_cons (ps_if (pt_cmpR op_eq (pe_op op_mod (pe_op op_fdiv (pv 2) pe_int) pe_int) pe_int (nomark _))
    (pss_one (ps_set (i := 6) sc__law_row.nd rfl (Or.inl rfl) (pe_op op_add (pe_op op_mulW (pv 6) (pv 3)) (pe_op op_mulW (pe_op op_sub pe_int (pe_op op_mulW pe_int (pe_callTy call_int1 (by rfl) T.int (by decide +kernel) (pa_cons (pe_cmpR op_lt (pv 6) pe_int (nomark _)) pa_nil)))) (pe_op op_mod (pe_op op_fdiv (pv 0) pe_int) (pv 3))))))
    pss_nil)
   (pss_cons (ps_if (pt_cmpR op_eq (pe_op op_mod (pv 2) pe_int) pe_int (nomark _))
    (pss_one (ps_set (i := 6) sc__law_row.nd rfl (Or.inl rfl) (pe_op op_sub pe_int (pe_op op_mulW pe_int (pe_op op_mod (pe_op op_fdiv (pv 0) pe_int) pe_int)))))
    pss_nil)
   (pss_cons (ps_if (pt_cmpR op_eq (pe_op op_mod (pv 2) pe_int) pe_int (nomark _))
    (pss_one (ps_set (i := 6) sc__law_row.nd rfl (Or.inl rfl) (pe_op op_sub (pe_op op_mod (pe_op op_fdiv (pv 0) pe_int) pe_int) pe_int)))
    pss_nil)
   (pss_cons (ps_if (PW.pt (pw_and (pt_cmpR op_eq (pe_op op_mod (pv 2) pe_int) pe_int (nomark _)) (pw_and1 (pt_cmpR op_gt (pe_op op_mod (pe_op op_fdiv (pv 0) pe_int) pe_int) pe_int (nomark _)))))
    (pss_one (ps_set (i := 6) sc__law_row.nd rfl (Or.inl rfl) pe_int))
    pss_nil)
   (pss_one (ps_expr (pe_bm PySem.F.plainAttrs_list PySem.F.slot_list_append PySem.F.type_list_append mt_append (pv 4) (pa_cons (pv 6) pa_nil)))))))))))
  (pss_one (ps_ret (pv 4)))))
theorem ok_law_alike (T : Txt K mg) (G_law_whole : FnOk P w K mg base CX0 1 (He.ga K "_law_whole") T.d__law_whole ["found"] (sp_law_whole K)) : FnOk P w K mg base CX0 2 (He.ga K "_law_alike") T.d__law_alike ["found", "due"] (sp_law_alike K) := by
  refine T.F__law_alike.ok sc__law_alike len_law_alike (fun cdv A outer s H vs Q E hr h => ⟨t_law_alike K, ?_, pure_law_alike vs H Q E h⟩)
  exact (pss_cons (ps_if (PW.pt (pw_or (pt_not (pt_val (pe_callB call_isi (by rfl) T.isinstance (by decide +kernel) (pa_cons (pv 0) (pa_cons (pe_bltn (v := .ty "list") (by rfl) T.list (by decide +kernel) rfl) pa_nil))))) (pw_or1 (pt_cmpR op_ne (pe_callB call_len_seq (by rfl) T.len PySem.boot_len (pa_cons (pv 0) pa_nil)) (pe_callB call_len_seq (by rfl) T.len PySem.boot_len (pa_cons (pv 1) pa_nil)) (nomark _)))))
   (pss_one (ps_ret pe_bl))
   pss_nil)
  (pss_cons (ps_for PassesOwn.never rfl (pi_range1 (by rfl) T.range (pa_cons (pe_callB call_len_seq (by rfl) T.len PySem.boot_len (pa_cons (pv 1) pa_nil)) pa_nil)) (pg_name (i := 2) sc__law_alike.nd rfl (Or.inl rfl))
   (pss_one (ps_if (PW.pt (pw_or (pt_not (pt_val (pe_call G_law_whole (hr.mono (by decide)) (by rfl) T.g__law_whole T.F__law_whole.kp T.b__law_whole .nil pass0 (pa_cons (pe_ix ix_list (pv 0) (pv 2) (fun _ _ => rfl)) pa_nil)))) (pw_or1 (pt_cmpR op_ne (pe_ix ix_list (pv 0) (pv 2) (fun _ _ => rfl)) (pe_ix ix_list (pv 1) (pv 2) (fun _ _ => rfl)) (nomark _)))))
    (pss_one (ps_ret pe_bl))
    pss_nil)))
  (pss_one (ps_ret pe_bl))))
theorem ok_law (T : Txt K mg) (G_law_row : FnOk P w K mg base CX0 2 (He.ga K "_law_row") T.d__law_row ["cell", "steps", "way", "great"] (sp_law_row K)) (G_sums : FnOk P w K mg base (L2.CX P w) 2 (He.ga K "sums") T.d_sums ["row"] (sp_sums K)) (G_law_cell_at : FnOk P w K mg base CX0 1 (He.ga K "_law_cell_at") T.d__law_cell_at ["script", "k"] (sp_law_cell_at K)) (G_halved : FnOk P w K mg base (L2.CX P w) 2 (He.ga K "halved") T.d_halved ["row", "step", "half"] (sp_halved K)) (G_law_alike : FnOk P w K mg base CX0 2 (He.ga K "_law_alike") T.d__law_alike ["found", "due"] (sp_law_alike K)) : FnOk P w K mg base CX0 3 (He.ga K "law") T.d_law ["script"] (sp_law K) := by
  refine T.F_law.ok sc_law len_law (fun cdv A outer s H vs Q E hr h => ⟨t_law K, ?_, pure_law vs H Q E h⟩)
  exact (pss_cons (ps_set (i := 1) sc_law.nd rfl (Or.inl rfl) (pe_op op_add pe_int (pe_op op_mod (pe_call G_law_cell_at (hr.mono (by decide)) (by rfl) T.g__law_cell_at T.F__law_cell_at.kp T.b__law_cell_at .nil pass0 (pa_cons (pv 0) (pa_cons pe_int pa_nil))) pe_int)))
  (pss_cons (ps_set (i := 2) sc_law.nd rfl (Or.inr rfl) (pe_call G_law_row (hr.mono (by decide)) (by rfl) T.g__law_row T.F__law_row.kp T.b__law_row .nil pass0 (pa_cons (pe_call G_law_cell_at (hr.mono (by decide)) (by rfl) T.g__law_cell_at T.F__law_cell_at.kp T.b__law_cell_at .nil pass0 (pa_cons (pv 0) (pa_cons pe_int pa_nil))) (pa_cons (pv 1) (pa_cons (pe_call G_law_cell_at (hr.mono (by decide)) (by rfl) T.g__law_cell_at T.F__law_cell_at.kp T.b__law_cell_at .nil pass0 (pa_cons (pv 0) (pa_cons pe_int pa_nil))) (pa_cons (pe_op op_mulW pe_int (pe_op op_pow pe_int pe_int)) pa_nil))))))
  (pss_cons (ps_set (i := 3) sc_law.nd rfl (Or.inl rfl) (pe_op op_mod (pe_call G_law_cell_at (hr.mono (by decide)) (by rfl) T.g__law_cell_at T.F__law_cell_at.kp T.b__law_cell_at .nil pass0 (pa_cons (pv 0) (pa_cons pe_int pa_nil))) (pv 1)))
  (pss_cons (ps_set (i := 4) sc_law.nd rfl (Or.inr rfl) (pe_ix ix_list (pe_lst (pa_cons pe_int (pa_cons pe_int (pa_cons pe_int (pa_cons pe_int (pa_cons pe_int pa_nil)))))) (pv 3) (fun _ _ => rfl)))
  (pss_cons (ps_set (i := 5) sc_law.nd rfl (Or.inl rfl) (pe_callTy call_list_of (by rfl) T.list (by decide +kernel) (pa_cons (pv 2) pa_nil)))
  (pss_cons (ps_set (i := 6) sc_law.nd rfl (Or.inr rfl) (pe_lst pa_nil))
  (pss_cons (ps_for PassesOwn.never rfl (pi_range1 (by rfl) T.range (pa_cons pe_int pa_nil)) (pg_name (i := 7) sc_law.nd rfl (Or.inr rfl))
   (pss_cons (ps_setLc (i := 8) (own := [("place", 13)]) (g := (gName 13)) (tt := (tTest (tOp rEq (tOp rModI (tOp rDivI (tVar 13) (tVar 4)) (tC (.int 2))) (tVar 7)))) rfl sc_law.nd rfl rfl (sw_true rfl rfl rfl (by decide +kernel)) (pi_range1 (by rfl) T.range (pa_cons (pe_callB call_len_seq (by rfl) T.len PySem.boot_len (pa_cons (pv 2) pa_nil)) pa_nil)) (blkOk_by (own := [("place", 13)]) (N := N_law) (sc := defScope s_law) (by decide +kernel)) (fun _ _ _ _ _ => pg_name (i := 13) sc_law.nd rfl (Or.inl rfl)) (fun _ _ _ _ _ => pts_one (pt_cmpR op_eq (pe_op op_mod (pe_op op_fdiv (pv 13) (pv 4)) pe_int) (pv 7) (nomark _))) (fun _ _ _ _ _ => (pe_ix ix_list (pv 2) (pv 13) (fun _ _ => rfl))))
   (pss_cons (ps_set (i := 9) sc_law.nd rfl (Or.inl rfl) (pe_call G_halved (hr.mono (by decide)) (by rfl) T.g_halved T.F_halved.kp T.b_halved .nil passL (pa_cons (pv 5) (pa_cons (pv 3) (pa_cons (pv 7) pa_nil)))))
   (pss_cons (ps_if (PW.pt (pw_or (pt_not (pt_val (pe_call G_law_alike (hr.mono (by decide)) (by rfl) T.g__law_alike T.F__law_alike.kp T.b__law_alike .nil pass0 (pa_cons (pv 9) (pa_cons (pv 8) pa_nil))))) (pw_or1 (pt_cmpR (op_neD hr.units) (pv 5) (pv 2) (nomark _)))))
    (pss_one (ps_ret pe_bl))
    pss_nil)
   (pss_cons (ps_expr (pe_bm PySem.F.plainAttrs_list PySem.F.slot_list_append PySem.F.type_list_append mt_append (pv 6) (pa_cons (pe_call G_sums (hr.mono (by decide)) (by rfl) T.g_sums T.F_sums.kp T.b_sums .nil passL (pa_cons (pv 9) pa_nil)) pa_nil)))
   (pss_one (ps_expr (pe_bm PySem.F.plainAttrs_list PySem.F.slot_list_append PySem.F.type_list_append mt_append (pv 9) (pa_cons pe_int pa_nil)))))))))
  (pss_cons (ps_set (i := 10) sc_law.nd rfl (Or.inr rfl) (pe_call G_sums (hr.mono (by decide)) (by rfl) T.g_sums T.F_sums.kp T.b_sums .nil passL (pa_cons (pv 5) pa_nil)))
  (pss_cons (ps_setLc (i := 11) (own := [("place", 13)]) (g := (gName 13)) (tt := (tTest (tOp rEq (tOp rModI (tOp rDivI (tVar 13) (tVar 4)) (tC (.int 2))) (tC (.int 0))))) rfl sc_law.nd rfl rfl (sw_true rfl rfl rfl (by decide +kernel)) (pi_range1 (by rfl) T.range (pa_cons (pe_callB call_len_seq (by rfl) T.len PySem.boot_len (pa_cons (pv 2) pa_nil)) pa_nil)) (blkOk_by (own := [("place", 13)]) (N := N_law) (sc := defScope s_law) (by decide +kernel)) (fun _ _ _ _ _ => pg_name (i := 13) sc_law.nd rfl (Or.inl rfl)) (fun _ _ _ _ _ => pts_one (pt_cmpR op_eq (pe_op op_mod (pe_op op_fdiv (pv 13) (pv 4)) pe_int) pe_int (nomark _))) (fun _ _ _ _ _ => (pe_ix ix_list (pv 10) (pv 13) (fun _ _ => rfl))))
  (pss_cons (ps_setLc (i := 12) (own := [("place", 13)]) (g := (gName 13)) (tt := (tTest (tOp rEq (tOp rModI (tOp rDivI (tVar 13) (tVar 4)) (tC (.int 2))) (tC (.int 1))))) rfl sc_law.nd rfl rfl (sw_true rfl rfl rfl (by decide +kernel)) (pi_range1 (by rfl) T.range (pa_cons (pe_callB call_len_seq (by rfl) T.len PySem.boot_len (pa_cons (pv 2) pa_nil)) pa_nil)) (blkOk_by (own := [("place", 13)]) (N := N_law) (sc := defScope s_law) (by decide +kernel)) (fun _ _ _ _ _ => pg_name (i := 13) sc_law.nd rfl (Or.inl rfl)) (fun _ _ _ _ _ => pts_one (pt_cmpR op_eq (pe_op op_mod (pe_op op_fdiv (pv 13) (pv 4)) pe_int) pe_int (nomark _))) (fun _ _ _ _ _ => (pe_ix ix_list (pv 10) (pv 13) (fun _ _ => rfl))))
  (pss_cons (ps_if (pt_cmpR (op_neD hr.units) (pe_lc (own := [("k", 14)]) (g := (gName 14)) (tt := tYes) rfl sc_law.nd (pi_range1 (by rfl) T.range (pa_cons (pe_callB call_len_seq (by rfl) T.len PySem.boot_len (pa_cons (pv 11) pa_nil)) pa_nil)) (blkOk_by (own := [("k", 14)]) (N := N_law) (sc := defScope s_law) (by decide +kernel)) (fun _ _ _ _ _ => pg_name (i := 14) sc_law.nd rfl (Or.inl rfl)) (fun _ _ _ _ _ => pts_nil) (fun _ _ _ _ _ => (pe_op op_add (pe_ix ix_list (pe_ix ix_list (pv 6) pe_int (fun _ _ => rfl)) (pv 14) (fun _ _ => rfl)) (pe_ix ix_list (pe_ix ix_list (pv 6) pe_int (fun _ _ => rfl)) (pv 14) (fun _ _ => rfl))))) (pv 11) (nomark _))
   (pss_one (ps_ret pe_bl))
   pss_nil)
  (pss_one (ps_ret (pe_cmpR (op_eqD hr.units) (pe_lc (own := [("k", 14)]) (g := (gName 14)) (tt := tYes) rfl sc_law.nd (pi_range1 (by rfl) T.range (pa_cons (pe_callB call_len_seq (by rfl) T.len PySem.boot_len (pa_cons (pv 12) pa_nil)) pa_nil)) (blkOk_by (own := [("k", 14)]) (N := N_law) (sc := defScope s_law) (by decide +kernel)) (fun _ _ _ _ _ => pg_name (i := 14) sc_law.nd rfl (Or.inl rfl)) (fun _ _ _ _ _ => pts_nil) (fun _ _ _ _ _ => (pe_op op_sub (pe_ix ix_list (pe_ix ix_list (pv 6) pe_int (fun _ _ => rfl)) (pv 14) (fun _ _ => rfl)) (pe_ix ix_list (pe_ix ix_list (pv 6) pe_int (fun _ _ => rfl)) (pv 14) (fun _ _ => rfl))))) (pv 12) (nomark _)))))))))))))))
end
end Sg
namespace Sg
open PySem PySem.Spec PyProof.Rows L2
/-! ### the head: what is looked at behind the top -/
/-- a def without defaults, from the head's facts -/
theorem fun_of {K : PySem.W.Frag} {x : Str} {st : Stmt} {f : Addr} {fd : FuncData} (F : FunD K x x (defArgs st) (defBody st) (defScope st) [] [] f fd) : Fun K x x st f fd := by
  obtain ⟨oc, od, dV, kV, doc, pm, an, cdv, ct, osl, e, lk, hc, hD, hK⟩ := F.ex
  rcases hD with ⟨_, e0⟩ | ⟨e0, _⟩
  · subst e0
    exact ⟨⟨oc, od, kV, doc, pm, an, cdv, ct, osl, e, lk, hc⟩, F.kp⟩
  · exact absurd rfl e0
abbrev AlE : Type := He.AlD × Bool
def obsE (n : Nat) (fa : List He.Fa) (fn : List He.DefD) (ex : PySem.W.Frag → Bool) (g : Addr → Option Obj) : AlE :=
  (He.obsD fa fn (He.frG g (He.asD g n)), ex (He.frG g (He.asD g n)))
def SaysE (fa : List He.Fa) (fn : List He.DefD) (ex : PySem.W.Frag → Bool) (K : PySem.W.Frag) : Prop := He.SaysD fa fn K ∧ ex K = true
def hookE (n : Nat) (fa : List He.Fa) (fn : List He.DefD) (ex : PySem.W.Frag → Bool) : PySem.W.Hook where
  α := AlE
  obs := fun s => obsE n fa fn ex s.heap.get?
  val := fun _ => (He.valD fn, true)
  says := fun _ h => ∃ K : PySem.W.Frag, K.In h ∧ SaysE fa fn ex K
  of := fun _ _ e => ⟨_, He.frG_in, congrArg (fun z : AlE => z.1) e, congrArg (fun z : AlE => z.2) e⟩
  keeps := fun _ _ _ ⟨K, hK, c⟩ k => ⟨K, PySem.W.Frag.In.keeps hK k, c⟩
theorem obsE_eq {n : Nat} {fa : List He.Fa} {fn : List He.DefD} {ex : PySem.W.Frag → Bool} {g : Addr → Option Obj} {s : Shared} (h : ∀ a, g a = s.heap.get? a) : obsE n fa fn ex g = (hookE n fa fn ex).obs s := by
  rw [show g = s.heap.get? from funext h] <;> rfl
theorem xok_of {K : PySem.W.Frag} {x : Str} (c : (He.Fa.exc x).ok K = true) : XOk K (He.ga K x) := by
  obtain ⟨c1, c2⟩ := He.ba c
  obtain ⟨c3, c4⟩ := He.ba c2
  obtain ⟨c5, c6⟩ := He.ba c4
  exact ⟨c1, c3, of_decide_eq_true c5, of_decide_eq_true c6⟩
end Sg
namespace Sg
open PySem PySem.Spec PyProof.Rows L2
def D_ask_row : He.DefD := ⟨("ask_row", none), "ask_row", "ask_row", defArgs s_ask_row, defBody s_ask_row, defScope s_ask_row, [], []⟩
def D_summed : He.DefD := ⟨("summed", none), "summed", "summed", defArgs s_summed, defBody s_summed, defScope s_summed, [], []⟩
def D_sums : He.DefD := ⟨("sums", none), "sums", "sums", defArgs s_sums, defBody s_sums, defScope s_sums, [], []⟩
def D_steps_of : He.DefD := ⟨("steps_of", none), "steps_of", "steps_of", defArgs s_steps_of, defBody s_steps_of, defScope s_steps_of, [], []⟩
def D_halved : He.DefD := ⟨("halved", none), "halved", "halved", defArgs s_halved, defBody s_halved, defScope s_halved, [], []⟩
def D__law_cell_at : He.DefD := ⟨("_law_cell_at", none), "_law_cell_at", "_law_cell_at", defArgs s__law_cell_at, defBody s__law_cell_at, defScope s__law_cell_at, [], []⟩
def D__law_whole : He.DefD := ⟨("_law_whole", none), "_law_whole", "_law_whole", defArgs s__law_whole, defBody s__law_whole, defScope s__law_whole, [], []⟩
def D__law_next : He.DefD := ⟨("_law_next", none), "_law_next", "_law_next", defArgs s__law_next, defBody s__law_next, defScope s__law_next, [], []⟩
def D__law_row : He.DefD := ⟨("_law_row", none), "_law_row", "_law_row", defArgs s__law_row, defBody s__law_row, defScope s__law_row, [], []⟩
def D__law_alike : He.DefD := ⟨("_law_alike", none), "_law_alike", "_law_alike", defArgs s__law_alike, defBody s__law_alike, defScope s__law_alike, [], []⟩
def D_law : He.DefD := ⟨("law", none), "law", "law", defArgs s_law, defBody s_law, defScope s_law, [], []⟩
def headFn : List He.DefD := [D_ask_row, D_summed, D_sums, D_steps_of, D_halved, D__law_cell_at, D__law_whole, D__law_next, D__law_row, D__law_alike, D_law]
def headFa : List He.Fa := [.glo "ask_row", .glo "summed", .glo "sums", .glo "steps_of", .glo "halved", .glo "_law_cell_at", .glo "_law_whole", .glo "_law_next", .glo "_law_row", .glo "_law_alike", .glo "law", .glo "SignError", .exc "SignError", .glo "NoRow", .exc "NoRow", .glo "NoStep", .exc "NoStep", .glo "LENGTHS", .int "MOST" 100000000000000000000, .free "bool", .free "int", .free "isinstance", .free "len", .free "list", .free "range", .exm "NoRow" "SignError" true, .exm "NoStep" "SignError" true, .exm "NoRow" "NoRow" true]
def headEx (K : PySem.W.Frag) : Bool := (He.tupB K "LENGTHS" [.int (1), .int (2), .int (4), .int (8), .int (16), .int (32)])
abbrev headR : PySem.W.OpenRow := PySem.W.OpenLaw.row PySem.Challenge.rw_signsums_k07_whole_halved
abbrev headHk : PySem.W.Hook := hookE 4 headFa headFn headEx
def headOb (s : PySem.W.SharedT) : AlE := obsE 4 headFa headFn headEx (HandSHeadRun.getT s)
theorem headOb_eq (s : PySem.W.SharedT) : headOb s = headHk.obs s.abs := obsE_eq (HandSHeadRun.getT_eq s)
def headLoose : List PySem.Str := ["SignError", "NoRow", "NoStep", "LENGTHS", "MOST", "ask_row", "summed", "sums", "steps_of", "halved", "_law_cell_at", "_law_whole", "_law_next", "_law_row", "_law_alike"]
theorem headRun (w : World) : HandSHeadRun.RunEq headR (PySem.W.view headR.prog [19]) headHk headOb 3000 headLoose w := by
  intro os
  kernel_rfl
theorem head_txt {K : PySem.W.Frag} {h : Heap} {mg : Str → Option Value} (X : K.In h) (G : h.Ns mainGlobals mg) (c : SaysE headFa headFn headEx K) : Nonempty (Txt K mg) := by
  have fct : ∀ f : He.Fa, f ∈ headFa → f.ok K = true := fun f hf => by
    obtain ⟨i, hi⟩ := List.mem_iff_getElem?.mp hf
    exact c.1.fact i hi
  have hx := c.2
  unfold headEx at hx
  obtain ⟨d_ask_row, FD_ask_row⟩ := c.1.def_ 0 (d := D_ask_row) rfl
  have F_ask_row : Fun K "ask_row" "ask_row" s_ask_row (He.ga K "ask_row") d_ask_row := fun_of FD_ask_row
  obtain ⟨d_summed, FD_summed⟩ := c.1.def_ 1 (d := D_summed) rfl
  have F_summed : Fun K "summed" "summed" s_summed (He.ga K "summed") d_summed := fun_of FD_summed
  obtain ⟨d_sums, FD_sums⟩ := c.1.def_ 2 (d := D_sums) rfl
  have F_sums : Fun K "sums" "sums" s_sums (He.ga K "sums") d_sums := fun_of FD_sums
  obtain ⟨d_steps_of, FD_steps_of⟩ := c.1.def_ 3 (d := D_steps_of) rfl
  have F_steps_of : Fun K "steps_of" "steps_of" s_steps_of (He.ga K "steps_of") d_steps_of := fun_of FD_steps_of
  obtain ⟨d_halved, FD_halved⟩ := c.1.def_ 4 (d := D_halved) rfl
  have F_halved : Fun K "halved" "halved" s_halved (He.ga K "halved") d_halved := fun_of FD_halved
  obtain ⟨d__law_cell_at, FD__law_cell_at⟩ := c.1.def_ 5 (d := D__law_cell_at) rfl
  have F__law_cell_at : Fun K "_law_cell_at" "_law_cell_at" s__law_cell_at (He.ga K "_law_cell_at") d__law_cell_at := fun_of FD__law_cell_at
  obtain ⟨d__law_whole, FD__law_whole⟩ := c.1.def_ 6 (d := D__law_whole) rfl
  have F__law_whole : Fun K "_law_whole" "_law_whole" s__law_whole (He.ga K "_law_whole") d__law_whole := fun_of FD__law_whole
  obtain ⟨d__law_next, FD__law_next⟩ := c.1.def_ 7 (d := D__law_next) rfl
  have F__law_next : Fun K "_law_next" "_law_next" s__law_next (He.ga K "_law_next") d__law_next := fun_of FD__law_next
  obtain ⟨d__law_row, FD__law_row⟩ := c.1.def_ 8 (d := D__law_row) rfl
  have F__law_row : Fun K "_law_row" "_law_row" s__law_row (He.ga K "_law_row") d__law_row := fun_of FD__law_row
  obtain ⟨d__law_alike, FD__law_alike⟩ := c.1.def_ 9 (d := D__law_alike) rfl
  have F__law_alike : Fun K "_law_alike" "_law_alike" s__law_alike (He.ga K "_law_alike") d__law_alike := fun_of FD__law_alike
  obtain ⟨d_law, FD_law⟩ := c.1.def_ 10 (d := D_law) rfl
  have F_law : Fun K "law" "law" s_law (He.ga K "law") d_law := fun_of FD_law
  exact ⟨{
    bool := He.free_ok X G (c.1.fact 19 (f := .free "bool") rfl)
    int := He.free_ok X G (c.1.fact 20 (f := .free "int") rfl)
    isinstance := He.free_ok X G (c.1.fact 21 (f := .free "isinstance") rfl)
    len := He.free_ok X G (c.1.fact 22 (f := .free "len") rfl)
    list := He.free_ok X G (c.1.fact 23 (f := .free "list") rfl)
    range := He.free_ok X G (c.1.fact 24 (f := .free "range") rfl)
    m_SignError := He.glo_ok X G (c.1.fact 11 (f := .glo "SignError") rfl)
    x_SignError := xok_of (c.1.fact 12 (f := .exc "SignError") rfl)
    m_NoRow := He.glo_ok X G (c.1.fact 13 (f := .glo "NoRow") rfl)
    x_NoRow := xok_of (c.1.fact 14 (f := .exc "NoRow") rfl)
    m_NoStep := He.glo_ok X G (c.1.fact 15 (f := .glo "NoStep") rfl)
    x_NoStep := xok_of (c.1.fact 16 (f := .exc "NoStep") rfl)
    m_LENGTHS := He.glo_ok X G (c.1.fact 17 (f := .glo "LENGTHS") rfl)
    v_LENGTHS := fun H => He.tupB_ok hx H
    m_MOST := He.int_ok X G (c.1.fact 18 (f := .int "MOST" 100000000000000000000) rfl)
    d_ask_row := d_ask_row
    g_ask_row := He.glo_ok X G (c.1.fact 0 (f := .glo "ask_row") rfl)
    F_ask_row := F_ask_row
    b_ask_row := F_ask_row.binds fun _ _ _ _ _ _ us hl => match us, hl with | [_], _ => rfl
    d_summed := d_summed
    g_summed := He.glo_ok X G (c.1.fact 1 (f := .glo "summed") rfl)
    F_summed := F_summed
    b_summed := F_summed.binds fun _ _ _ _ _ _ us hl => match us, hl with | [_], _ => rfl
    d_sums := d_sums
    g_sums := He.glo_ok X G (c.1.fact 2 (f := .glo "sums") rfl)
    F_sums := F_sums
    b_sums := F_sums.binds fun _ _ _ _ _ _ us hl => match us, hl with | [_], _ => rfl
    d_steps_of := d_steps_of
    g_steps_of := He.glo_ok X G (c.1.fact 3 (f := .glo "steps_of") rfl)
    F_steps_of := F_steps_of
    b_steps_of := F_steps_of.binds fun _ _ _ _ _ _ us hl => match us, hl with | [_], _ => rfl
    d_halved := d_halved
    g_halved := He.glo_ok X G (c.1.fact 4 (f := .glo "halved") rfl)
    F_halved := F_halved
    b_halved := F_halved.binds fun _ _ _ _ _ _ us hl => match us, hl with | [_, _, _], _ => rfl
    d__law_cell_at := d__law_cell_at
    g__law_cell_at := He.glo_ok X G (c.1.fact 5 (f := .glo "_law_cell_at") rfl)
    F__law_cell_at := F__law_cell_at
    b__law_cell_at := F__law_cell_at.binds fun _ _ _ _ _ _ us hl => match us, hl with | [_, _], _ => rfl
    d__law_whole := d__law_whole
    g__law_whole := He.glo_ok X G (c.1.fact 6 (f := .glo "_law_whole") rfl)
    F__law_whole := F__law_whole
    b__law_whole := F__law_whole.binds fun _ _ _ _ _ _ us hl => match us, hl with | [_], _ => rfl
    d__law_next := d__law_next
    g__law_next := He.glo_ok X G (c.1.fact 7 (f := .glo "_law_next") rfl)
    F__law_next := F__law_next
    b__law_next := F__law_next.binds fun _ _ _ _ _ _ us hl => match us, hl with | [_], _ => rfl
    d__law_row := d__law_row
    g__law_row := He.glo_ok X G (c.1.fact 8 (f := .glo "_law_row") rfl)
    F__law_row := F__law_row
    b__law_row := F__law_row.binds fun _ _ _ _ _ _ us hl => match us, hl with | [_, _, _, _], _ => rfl
    d__law_alike := d__law_alike
    g__law_alike := He.glo_ok X G (c.1.fact 9 (f := .glo "_law_alike") rfl)
    F__law_alike := F__law_alike
    b__law_alike := F__law_alike.binds fun _ _ _ _ _ _ us hl => match us, hl with | [_, _], _ => rfl
    d_law := d_law
    g_law := He.glo_ok X G (c.1.fact 10 (f := .glo "law") rfl)
    F_law := F_law
    b_law := F_law.binds fun _ _ _ _ _ _ us hl => match us, hl with | [_], _ => rfl }⟩
end Sg
namespace Sg
open PySem PySem.Spec PyProof.Rows L2 Evl
section
variable {P : Program} {w : World} {K : PySem.W.Frag} {mg : Str → Option Value} {base : Heap}
theorem law_binds (T : Txt K mg) (s : Shared) (u : Value) : BindsTo s T.d_law ⟨[u], []⟩ [("script", u)] := by
  obtain ⟨oc, od, kV, doc, pm, an, cdv, ct, osl, e, _, _⟩ := T.F_law.ex
  rw [e]
  exact .of_eq rfl
theorem all_ok (T : Txt K mg) : FnOk P w K mg base CX0 3 (He.ga K "law") T.d_law ["script"] (sp_law K) := by
  have G_ask_row := ok_ask_row (P := P) (w := w) (base := base) T
  have G_summed := ok_summed (P := P) (w := w) (base := base) T
  have G_steps_of := ok_steps_of (P := P) (w := w) (base := base) T
  have G_law_cell_at := ok_law_cell_at (P := P) (w := w) (base := base) T
  have G_law_whole := ok_law_whole (P := P) (w := w) (base := base) T
  have G_law_next := ok_law_next (P := P) (w := w) (base := base) T
  have G_sums := ok_sums (P := P) (w := w) (base := base) T G_ask_row G_summed
  have G_halved := ok_halved (P := P) (w := w) (base := base) T G_ask_row G_steps_of
  have G_law_row := ok_law_row (P := P) (w := w) (base := base) T G_law_next
  have G_law_alike := ok_law_alike (P := P) (w := w) (base := base) T G_law_whole
  have G_law := ok_law (P := P) (w := w) (base := base) T G_law_row G_sums G_law_cell_at G_halved G_law_alike
  exact G_law
end
end Sg
open PySem PySem.W PySem.Calls PyProof.Rows
set_option maxHeartbeats 0 in
theorem PySem.Challenge.cw_signsums_k07_whole_halved_holds : PySem.Challenge.rw_signsums_k07_whole_halved.Holds := by
  w_on; o_law
  refine HandSHeadRun.head_any (r := OpenLaw.row PySem.Challenge.rw_signsums_k07_whole_halved) (q := view (OpenLaw.row PySem.Challenge.rw_signsums_k07_whole_halved).prog [19]) (H := Sg.headHk) (ob := Sg.headOb) (M := 3000) (loose := Sg.headLoose) (d := HandSHeadRun.topDef (OpenLaw.row PySem.Challenge.rw_signsums_k07_whole_halved).prog 19) (kwd := []) Sg.headOb_eq
    (by kernel_rfl) (fun s => by kernel_rfl) Sg.headRun (by kernel_rfl) (by kernel_rfl) (by kernel_rfl) (by rfl) (by first | assumption | decide +kernel) (by decide +kernel) ⟨rfl, rfl, rfl, rfl, rfl, by decide +kernel⟩ ?hw ?hc
  case hw => w_witness2
  case hc =>
    refine L2.walk_ofE (l := PySem.Challenge.rw_signsums_k07_whole_halved) (n := 63) (k := 3) (x := "script") (CX := L2.CX0) rfl (by decide) (by kernel_rfl) ⟨rfl, by decide, by decide⟩ ?F (fun _ _ _ _ z => z)
    intro w mg fa h Y G hmg0
    obtain ⟨K, KX, c⟩ := Y
    obtain ⟨T⟩ := Sg.head_txt KX G c
    have hmg : mg ("law" : PySem.Str) = some (.ref fa) := by
      have e : (HandSHeadRun.topDef (OpenLaw.row PySem.Challenge.rw_signsums_k07_whole_halved).prog 19).name = ("law" : PySem.Str) := by kernel_rfl
      rw [← e]
      exact hmg0
    have ea := T.g_law.symm.trans hmg
    cases ea
    have b := T.b_law
    exact ⟨K, T.d_law, Sg.sp_law K, KX, Sg.law_binds T, fun H a ns hl _ hS => ⟨a, ns, rfl, hS, hl, fun _ => rfl⟩, fun base _ _ => Sg.all_ok T⟩

