import PyProof.Rows.All
import Wide.All
import OpenK.AllK
import Wide.FinOn
import Lean
import KE.KIsAll
import HandS.ForMost
import HandS.ForExc
import HandS.Evl
import HandS.Wide
import HandS.IsInst
import HandS.ExcIs
import HandS.Zip
import HandS.Conv
import HandS.Defaults
import HandS.HotCalls
import HandS.SuiteRaise
import HandS.Head0
import HandS.Head1
import HandS.Head2
import HandS.HeadEnd
import HandS.HeadHook1
import HandS.HeadHook2
import PySem.Challenge.RW_signsums_k06_tied
set_option Elab.async false
set_option linter.all false
set_option maxRecDepth 100000
set_option maxHeartbeats 4000000
namespace Sg
open PySem PySem.Spec PyProof.Rows L2 Evl
/-! ### the readings' short names -/
abbrev rAddI : R2 := rI0 fun i j => .int (i + j)
abbrev rSubI : R2 := rI0 fun i j => .int (i - j)
abbrev rMulI : R2 := rI CMulW fun i j => .int (i * j)
abbrev rModI : R2 := rI (fun _ j => 0 < j) fun i j => .int (i % j)
abbrev rDivI : R2 := rI CDiv fun i j => .int (i / j)
abbrev rPowI : R2 := rI CPow fun i j => .int (i ^ j.toNat)
abbrev rNegI : V → Hp → VK → Prop := rU fun i => .int (-i)
abbrev rLtI : R2 := rI0 fun i j => .bl (decide (i < j))
abbrev rLeI : R2 := rI0 fun i j => .bl (decide (i ≤ j))
abbrev rGtI : R2 := rI0 fun i j => .bl (decide (j < i))
abbrev rGeI : R2 := rI0 fun i j => .bl (decide (j ≤ i))
abbrev rIsNo : R2 := fun x y H Q => y = .non ∧ Q (.bl (decide (x = .non))) H
abbrev rAddStr : R2 := fun x y H Q => ∃ i j, x = .str i ∧ y = .str j ∧ i.length + j.length ≤ sizeLine ∧ Q (.str (i ++ j)) H
abbrev rAbs : List V → Hp → VK → Prop := fun xs H Q => ∃ i, xs = [.int i] ∧ Q (.int (if i < 0 then -i else i)) H
abbrev rInt1 : List V → Hp → VK → Prop := fun xs H Q => (∃ i, xs = [.int i] ∧ Q (.int i) H) ∨ ∃ k, xs = [.bl k] ∧ Q (.int (if k then 1 else 0)) H
abbrev rIntStr : List V → Hp → VK → Prop := fun xs H Q => ∃ a n, xs = [.str a] ∧ PySem.intText? a = some n ∧ a.length ≤ 640 ∧ Q (.int n) H
abbrev rStrInt : List V → Hp → VK → Prop := fun xs H Q => ∃ i, xs = [.int i] ∧ i.natAbs.log2 < 1920 ∧ Q (.str (toString i)) H
abbrev rLenStr : List V → Hp → VK → Prop := fun xs H Q => ∃ z, xs = [.str z] ∧ z.length ≤ sizeLine ∧ Q (.int z.length) H
/-- raise of an own class -/
def tRz (E : XK) (C : Addr) : TS := fun _ _ H => E (.ref C) none H
/-! ### an own class of errors, as the head tells it -/
structure XOk (K : PySem.W.Frag) (C : Addr) : Prop where
  ok : PySem.W.excIn K C [.type "ValueError", .type "Exception", .type "BaseException", .type "object"] "ValueError.__new__" = true
  kp : PySem.W.keepIn K (.ref C) = true
  sb : PySem.W.subIn K (.ref C) (.type "BaseException") = some true
  ty : PySem.W.typeIn K (.ref C) = some (.type "type")
end Sg
namespace Sg
open PySem PySem.Spec PyProof.Rows L2 Evl
/-! ### rows -/
def IsRow (ns : List Int) : Prop := ns.length ∈ [1, 2, 4, 8, 16, 32] ∧ ∀ x ∈ ns, -100000000000000000000 ≤ x ∧ x ≤ 100000000000000000000
/-- the sum of the first n values -/
def sm (n : Nat) (f : Nat → Int) : Int := ((List.range n).map f).sum
/-- the sign of a place by a choice, as the law reckons it -/
def sgStep (p c : Int) (f w : Int) : Int := if p / w % 2 = 1 ∧ c / w % 2 = 1 then 0 - f else f
def sg (p c : Int) : Int := [1, 2, 4, 8, 16].foldl (sgStep p c) 1
def sumAt (ns : List Int) (c : Nat) : Int := sm ns.length fun p => sg p c * ns.getD p 0
def sumsL (ns : List Int) : List Int := (List.range ns.length).map (sumAt ns)
/-! ### the law's draws -/
def cellAt (ns : List Int) (k : Nat) : Int := ns.getD k 0
def lawNext (s : Int) : Int := ((s + 7919) % 2147483647 * ((s + 7919) % 2147483647) + 48271 * ((s + 7919) % 2147483647) + 12345) % 2147483629
def num1 (cell way great : Int) : Int := if way / 4 % 2 = 1 then (cell / 7 % 2000001 - 1000000) * great + (1 - 2 * (if cell / 7 % 2000001 - 1000000 < 0 then 1 else 0)) * (cell / 64 % great) else cell / 7 % 2000001 - 1000000
def num2 (cell way x : Int) : Int := if way % 4 = 0 then 1 - 2 * (cell / 7 % 2) else x
def num3 (cell way x : Int) : Int := if way % 4 = 1 then cell / 7 % 9 - 4 else x
def num4 (cell way x : Int) : Int := if way % 4 = 3 ∧ 0 < cell / 14000007 % 3 then 0 else x
def lawNum (cell way great : Int) : Int := num4 cell way (num3 cell way (num2 cell way (num1 cell way great)))
/-- the cell behind i turns -/
def lawCell (cell : Int) : Nat → Int
  | 0 => cell
  | i + 1 => lawNext (lawCell cell i % 1000003 + 31 * (i : Int))
def lawRow (cell : Int) (n : Nat) (way great : Int) : List Int := (List.range n).map fun i => lawNum (lawCell cell (i + 1)) way great
end Sg
namespace Sg
theorem sg_abs_aux (p c : Int) : ∀ (l : List Int) (f : Int), f.natAbs = 1 → (l.foldl (sgStep p c) f).natAbs = 1
  | [], _, h => h
  | w :: l, f, h => by
    refine sg_abs_aux p c l _ ?_
    unfold sgStep
    split <;> omega
theorem sg_abs1 (p c : Int) : (sg p c).natAbs = 1 := sg_abs_aux p c _ 1 rfl
theorem sg_abs (p c : Int) : (sg p c).natAbs < 2 ^ 2 := by rw [sg_abs1]; decide
end Sg
namespace Sg
theorem lawNext_bd (s : Int) : 0 ≤ lawNext s ∧ lawNext s < 2147483629 := by
  unfold lawNext
  omega
theorem lawCell_bd (c : Int) (i : Nat) : 0 ≤ lawCell c (i + 1) ∧ lawCell c (i + 1) < 2147483629 := lawNext_bd _
theorem lawRow_length (c : Int) (n : Nat) (w g : Int) : (lawRow c n w g).length = n := by
  unfold lawRow
  rw [List.length_map, List.length_range]
theorem pow_cases {s : Nat} (h : s ≤ 5) : s = 0 ∨ s = 1 ∨ s = 2 ∨ s = 3 ∨ s = 4 ∨ s = 5 := by omega
end Sg
namespace Sg
/-! ### how great the law's numbers are -/
theorem num1_bd {cell way g : Int} (hc : 0 ≤ cell) (hg : 0 < g) : -(1000001 * g) ≤ num1 cell way g ∧ num1 cell way g ≤ 1000001 * g := by
  unfold num1
  have z0 : -1000000 ≤ cell / 7 % 2000001 - 1000000 ∧ cell / 7 % 2000001 - 1000000 ≤ 1000000 := by omega
  generalize cell / 7 % 2000001 - 1000000 = n at z0
  have z1 := Int.emod_nonneg (cell / 64) (show g ≠ 0 by omega)
  have z2 := Int.emod_lt_of_pos (cell / 64) hg
  generalize cell / 64 % g = r at z1 z2
  have h1 : n * g ≤ 1000000 * g := Int.mul_le_mul_of_nonneg_right z0.2 (by omega)
  have h2 : (-1000000) * g ≤ n * g := Int.mul_le_mul_of_nonneg_right z0.1 (by omega)
  generalize n * g = m at h1 h2
  split
  · split
    · rw [show (1 - 2 * 1 : Int) = -1 from rfl]
      omega
    · omega
  · omega
theorem lawNum_bd {cell way g : Int} (hc : 0 ≤ cell) (hg : 0 < g) : -(1000001 * g) ≤ lawNum cell way g ∧ lawNum cell way g ≤ 1000001 * g := by
  have h1 := num1_bd (way := way) hc hg
  unfold lawNum num4 num3 num2
  generalize num1 cell way g = n at h1
  have a1 : 0 ≤ cell / 7 % 2 ∧ cell / 7 % 2 ≤ 1 := by omega
  have a2 : 0 ≤ cell / 7 % 9 ∧ cell / 7 % 9 ≤ 8 := by omega
  repeat' split
  all_goals omega
theorem lawRow_bd {c way g : Int} {n : Nat} (hg : 0 < g) : ∀ x ∈ lawRow c n way g, -(1000001 * g) ≤ x ∧ x ≤ 1000001 * g := by
  intro x hx
  unfold lawRow at hx
  obtain ⟨i, _, rfl⟩ := List.mem_map.mp hx
  exact lawNum_bd (lawCell_bd c i).1 hg
theorem pow_mem {s : Nat} (h : s ≤ 5) : 2 ^ s ∈ [1, 2, 4, 8, 16, 32] := by
  rcases pow_cases h with rfl | rfl | rfl | rfl | rfl | rfl <;> decide
theorem lawRow_isRow {c way g : Int} {s : Nat} (hs : s ≤ 5) (hg : 0 < g) (hb : 1000001 * g ≤ 100000000000000000000) : IsRow (lawRow c (2 ^ s) way g) := by
  refine ⟨by rw [lawRow_length]; exact pow_mem hs, fun x hx => ?_⟩
  have := lawRow_bd hg x hx
  omega
/-- sums are as long as the row -/
theorem sumsL_length (ns : List Int) : (sumsL ns).length = ns.length := by
  unfold sumsL
  rw [List.length_map, List.length_range]
/-- the law's steps: a rest by n, and one more -/
theorem steps_at (i j : Int) (n : Nat) (hn : 0 < n) : ∃ s : Nat, s ≤ n ∧ i % (n : Int) + (if decide (j % 6 = 1) = true then 1 else 0) = (s : Int) := by
  have h1 := Int.emod_nonneg i (show (n : Int) ≠ 0 by omega)
  have h2 := Int.emod_lt_of_pos i (show (0 : Int) < n by omega)
  refine ⟨(i % (n : Int) + (if decide (j % 6 = 1) = true then 1 else 0)).toNat, ?_, ?_⟩ <;> split <;> omega
end Sg
namespace Sg
/-! ### sums -/
theorem sm_zero (f : Nat → Int) : sm 0 f = 0 := rfl
theorem sum_append1 (l : List Int) (x : Int) : (l ++ [x]).sum = l.sum + x := by
  induction l with
  | nil => simp
  | cons a l ih => rw [List.cons_append, List.sum_cons, List.sum_cons, ih]; omega
theorem sm_succ (n : Nat) (f : Nat → Int) : sm (n + 1) f = sm n f + f n := by
  unfold sm
  rw [List.range_succ, List.map_append]
  exact sum_append1 _ _
theorem sm_congr {n : Nat} {f g : Nat → Int} (h : ∀ i, i < n → f i = g i) : sm n f = sm n g := by
  induction n with
  | zero => rfl
  | succ n ih => rw [sm_succ, sm_succ, ih fun i hi => h i (by omega), h n (by omega)]
theorem sm_add (n : Nat) (f g : Nat → Int) : sm n (fun i => f i + g i) = sm n f + sm n g := by
  induction n with
  | zero => rfl
  | succ n ih => rw [sm_succ, sm_succ, sm_succ, ih]; omega
theorem sm_sub (n : Nat) (f g : Nat → Int) : sm n (fun i => f i - g i) = sm n f - sm n g := by
  induction n with
  | zero => rfl
  | succ n ih => rw [sm_succ, sm_succ, sm_succ, ih]; omega
theorem sm_mulL (n : Nat) (a : Int) (f : Nat → Int) : sm n (fun i => a * f i) = a * sm n f := by
  induction n with
  | zero => rw [sm_zero, sm_zero, Int.mul_zero]
  | succ n ih => rw [sm_succ, sm_succ, ih, Int.mul_add]
theorem sm_mulR (n : Nat) (a : Int) (f : Nat → Int) : sm n (fun i => f i * a) = sm n f * a := by
  rw [Int.mul_comm, ← sm_mulL]
  exact sm_congr fun i _ => Int.mul_comm _ _
theorem sm_const0 (n : Nat) : sm n (fun _ => 0) = 0 := by
  induction n with
  | zero => rfl
  | succ n ih => rw [sm_succ, ih] <;> rfl
theorem sm_swap (n m : Nat) (f : Nat → Nat → Int) : sm n (fun i => sm m (fun j => f i j)) = sm m (fun j => sm n (fun i => f i j)) := by
  induction n with
  | zero => rw [sm_zero, show sm m (fun j => sm 0 fun i => f i j) = sm m (fun _ => 0) from rfl, sm_const0]
  | succ n ih =>
    rw [sm_succ, ih, ← sm_add]
    exact sm_congr fun j _ => (sm_succ n fun i => f i j).symm
theorem sm_delta (n : Nat) (f : Nat → Int) (j : Nat) : sm n (fun p => f p * (if p = j then 1 else 0)) = if j < n then f j else 0 := by
  induction n with
  | zero => rw [sm_zero, if_neg (by omega)]
  | succ n ih =>
    rw [sm_succ, ih]
    by_cases h : n = j
    · rw [if_pos h, h, if_neg (by omega), if_pos (by omega)]; omega
    · rw [if_neg h]
      by_cases h2 : j < n
      · rw [if_pos h2, if_pos (by omega)]; omega
      · rw [if_neg h2, if_neg (by omega)]; omega
theorem sm_split (n m : Nat) (f : Nat → Int) : sm (n + m) f = sm n f + sm m (fun i => f (n + i)) := by
  induction m with
  | zero => rw [sm_zero, Nat.add_zero]; omega
  | succ m ih => rw [← Nat.add_assoc, sm_succ, ih, sm_succ]; omega
/-! ### the program's steps -/
def stepAt (w : Nat) (f : Nat → Int) (j : Nat) : Int := if j / w % 2 = 0 then f j + f (j + w) else f (j - w) - f j
def fast : Nat → (Nat → Int) → Nat → Int
  | 0, f => f
  | k + 1, f => stepAt (2 ^ k) (fast k f)
theorem fast_lin (n : Nat) (a : Nat → Int) (d : Nat → Nat → Int) : ∀ k c, fast k (fun j => sm n fun p => a p * d p j) c = sm n fun p => a p * fast k (d p) c
  | 0, _ => rfl
  | k + 1, c => by
    have ih := fast_lin n a d k
    show stepAt (2 ^ k) (fast k (fun j => sm n fun p => a p * d p j)) c = _
    unfold stepAt
    by_cases h : c / 2 ^ k % 2 = 0
    · rw [if_pos h, ih, ih, ← sm_add]
      refine sm_congr fun p _ => ?_
      show _ = a p * stepAt (2 ^ k) (fast k (d p)) c
      unfold stepAt
      rw [if_pos h, Int.mul_add]
    · rw [if_neg h, ih, ih, ← sm_sub]
      refine sm_congr fun p _ => ?_
      show _ = a p * stepAt (2 ^ k) (fast k (d p)) c
      unfold stepAt
      rw [if_neg h, Int.mul_sub]
theorem fast_basis : ∀ s, s < 6 → ∀ p, p < 2 ^ s → ∀ c, c < 2 ^ s → fast s (fun j => if p = j then 1 else 0) c = sg p c := by decide +kernel
theorem fast_eq {s : Nat} (hs : s < 6) {f : Nat → Int} (hf : ∀ j, 2 ^ s ≤ j → f j = 0) {c : Nat} (hc : c < 2 ^ s) : fast s f c = sm (2 ^ s) fun p => sg p c * f p := by
  have e : f = fun j => sm (2 ^ s) fun p => f p * (if p = j then 1 else 0) := by
    funext j
    rw [sm_delta]
    by_cases h : j < 2 ^ s
    · rw [if_pos h]
    · rw [if_neg h, hf j (by omega)]
  have e2 := fast_lin (2 ^ s) f (fun p j => if p = j then 1 else 0) s c
  rw [← e] at e2
  rw [e2]
  exact sm_congr fun p hp => by rw [fast_basis s hs p hp c hc, Int.mul_comm]
theorem half_lt {s k j : Nat} (hs : s < 6) (hk : k < s) (hj : j < 2 ^ s) (h : j / 2 ^ k % 2 = 0) : j + 2 ^ k < 2 ^ s := by
  have z : ∀ s, s < 6 → ∀ k, k < s → ∀ j, j < 2 ^ s → j / 2 ^ k % 2 = 0 → j + 2 ^ k < 2 ^ s := by decide +kernel
  exact z s hs k hk j hj h
theorem odd_ge {k j : Nat} (h : ¬ j / 2 ^ k % 2 = 0) : 2 ^ k ≤ j := by
  refine Nat.le_of_not_lt fun q => h ?_
  rw [Nat.div_eq_of_lt q]
end Sg
namespace Sg
theorem pow_le' {s : Nat} (h : s < 6) : 2 ^ s ≤ 32 := by
  have z : ∀ s, s < 6 → 2 ^ s ≤ 32 := by decide
  exact z s h
end Sg
namespace Sg
theorem row_pos {ns : List Int} (h : IsRow ns) : 0 < ns.length ∧ ns.length ≤ 32 := by
  have := h.1
  simp only [List.mem_cons, List.not_mem_nil, or_false] at this
  omega
theorem row_len {ns : List Int} (h : IsRow ns) : ns.length ∈ [1, 2, 4, 8, 16, 32] := h.1
theorem pow_of_mem {n : Nat} (h : n ∈ [1, 2, 4, 8, 16, 32]) : ∃ s, s < 6 ∧ n = 2 ^ s := by
  simp only [List.mem_cons, List.not_mem_nil, or_false] at h
  rcases h with rfl | rfl | rfl | rfl | rfl | rfl
  · exact ⟨0, by decide, rfl⟩
  · exact ⟨1, by decide, rfl⟩
  · exact ⟨2, by decide, rfl⟩
  · exact ⟨3, by decide, rfl⟩
  · exact ⟨4, by decide, rfl⟩
  · exact ⟨5, by decide, rfl⟩
theorem pow_le32 {s : Nat} (h : s < 6) : 2 ^ s ≤ 32 ∧ 1 ≤ 2 ^ s := by
  have z : ∀ s, s < 6 → 2 ^ s ≤ 32 ∧ 1 ≤ 2 ^ s := by decide
  exact z s h
theorem ints_ext {L : List Int} {n : Nat} {f : Nat → Int} (hl : L.length = n) (h : ∀ j, j < n → L.getD j 0 = f j) : L = (List.range n).map f := by
  refine List.ext_getElem (by rw [List.length_map, List.length_range, hl]) fun k h1 h2 => ?_
  have z := h k (by omega)
  rw [List.getD_eq_getElem?_getD, List.getElem?_eq_getElem h1] at z
  rw [List.getElem_map, List.getElem_range]
  exact z
theorem getD_set {L : List Int} {k j : Nat} {v : Int} (hk : k < L.length) : (L.set k v).getD j 0 = if j = k then v else L.getD j 0 := by
  rw [List.getD_eq_getElem?_getD, List.getElem?_set, List.getD_eq_getElem?_getD]
  by_cases h : k = j
  · rw [if_pos h, if_pos (by omega), if_pos h.symm] <;> rfl
  · rw [if_neg h, if_neg (fun e => h e.symm)]
end Sg
namespace Sg
open PySem PySem.Spec PyProof.Rows L2 Evl
/-! ### promises -/
def sp_ask_row (K : PySem.W.Frag) : Sp := fun vs H Q E => ∃ (a : Addr) (ns : List Int), vs = [.ref a] ∧ SqL K H a (ns.map V.int) ∧
  (IsRow ns → ∀ H', Ex H H' → Q .non H') ∧ (¬ IsRow ns → ∀ H', Ex H H' → E (.ref (He.ga K "NoRow")) none H')
def sp_summed (K : PySem.W.Frag) : Sp := fun vs H Q _ => ∃ (a : Addr) (ns : List Int), vs = [.ref a] ∧ SqL K H a (ns.map V.int) ∧ ns.length ∈ [1, 2, 4, 8, 16, 32] ∧ RetL ((sumsL ns).map V.int) H Q
def sp_sums (K : PySem.W.Frag) : Sp := fun vs H Q E => ∃ (a : Addr) (ns : List Int), vs = [.ref a] ∧ SqL K H a (ns.map V.int) ∧
  (IsRow ns → RetL ((sumsL ns).map V.int) H Q) ∧ (¬ IsRow ns → ∀ H', Ex H H' → E (.ref (He.ga K "NoRow")) none H')
def sp_law_cell_at (K : PySem.W.Frag) : Sp := fun vs H Q _ => ∃ (a : Addr) (ns : List Int) (k : Nat), vs = [.ref a, .int k] ∧ SqL K H a (ns.map V.int) ∧ RetV (.int (cellAt ns k)) H Q
def sp_law_whole (K : PySem.W.Frag) : Sp := fun vs H Q _ => ∃ i : Int, vs = [.int i] ∧ RetV (.bl true) H Q
def sp_law_next (K : PySem.W.Frag) : Sp := fun vs H Q _ => ∃ i : Int, vs = [.int i] ∧ RetV (.int (lawNext i)) H Q
def sp_law_row (K : PySem.W.Frag) : Sp := fun vs H Q _ => ∃ (c : Int) (s : Nat) (w g : Int), vs = [.int c, .int s, .int w, .int g] ∧ s ≤ 5 ∧ 0 < g ∧ g < 1073741824 * 1073741824 ∧ RetL ((lawRow c (2 ^ s) w g).map V.int) H Q
def sp_law_sign (K : PySem.W.Frag) : Sp := fun vs H Q _ => ∃ (p c : Int), vs = [.int p, .int c] ∧ RetV (.int (sg p c)) H Q
def sp_law_sums (K : PySem.W.Frag) : Sp := fun vs H Q _ => ∃ (a : Addr) (ns : List Int), vs = [.ref a] ∧ SqL K H a (ns.map V.int) ∧ ns.length ≤ 32 ∧ (∀ x ∈ ns, x.natAbs < 2 ^ 100) ∧ RetL ((sumsL ns).map V.int) H Q
def sp_law_alike (K : PySem.W.Frag) : Sp := fun vs H Q _ => ∃ (a b : Addr) (ns ms : List Int), vs = [.ref a, .ref b] ∧ SqL K H a (ns.map V.int) ∧ SqL K H b (ms.map V.int) ∧ ns.length ≤ 1000 ∧ RetV (.bl (decide (ns = ms))) H Q
def sp_law (K : PySem.W.Frag) : Sp := fun vs H Q _ => ∃ (a : Addr) (ns : List Int), vs = [.ref a] ∧ SqL K H a (ns.map V.int) ∧ ns.length ≤ 63 ∧ ∀ H', Q (.bl true) H'
/-! ### how many arguments -/
theorem len_ask_row {K : PySem.W.Frag} : ∀ vs H Q E, sp_ask_row K vs H Q E → vs.length = 1 := fun _ _ _ _ h => by
  obtain ⟨_, _, rfl, _⟩ := h; rfl
theorem len_summed {K : PySem.W.Frag} : ∀ vs H Q E, sp_summed K vs H Q E → vs.length = 1 := fun _ _ _ _ h => by
  obtain ⟨_, _, rfl, _⟩ := h; rfl
theorem len_sums {K : PySem.W.Frag} : ∀ vs H Q E, sp_sums K vs H Q E → vs.length = 1 := fun _ _ _ _ h => by
  obtain ⟨_, _, rfl, _⟩ := h; rfl
theorem len_law_cell_at {K : PySem.W.Frag} : ∀ vs H Q E, sp_law_cell_at K vs H Q E → vs.length = 2 := fun _ _ _ _ h => by
  obtain ⟨_, _, _, rfl, _⟩ := h; rfl
theorem len_law_whole {K : PySem.W.Frag} : ∀ vs H Q E, sp_law_whole K vs H Q E → vs.length = 1 := fun _ _ _ _ h => by
  obtain ⟨_, rfl, _⟩ := h; rfl
theorem len_law_next {K : PySem.W.Frag} : ∀ vs H Q E, sp_law_next K vs H Q E → vs.length = 1 := fun _ _ _ _ h => by
  obtain ⟨_, rfl, _⟩ := h; rfl
theorem len_law_row {K : PySem.W.Frag} : ∀ vs H Q E, sp_law_row K vs H Q E → vs.length = 4 := fun _ _ _ _ h => by
  obtain ⟨_, _, _, _, rfl, _⟩ := h; rfl
theorem len_law_sign {K : PySem.W.Frag} : ∀ vs H Q E, sp_law_sign K vs H Q E → vs.length = 2 := fun _ _ _ _ h => by
  obtain ⟨_, _, rfl, _⟩ := h; rfl
theorem len_law_sums {K : PySem.W.Frag} : ∀ vs H Q E, sp_law_sums K vs H Q E → vs.length = 1 := fun _ _ _ _ h => by
  obtain ⟨_, _, rfl, _⟩ := h; rfl
theorem len_law_alike {K : PySem.W.Frag} : ∀ vs H Q E, sp_law_alike K vs H Q E → vs.length = 2 := fun _ _ _ _ h => by
  obtain ⟨_, _, _, _, rfl, _⟩ := h; rfl
theorem len_law {K : PySem.W.Frag} : ∀ vs H Q E, sp_law K vs H Q E → vs.length = 1 := fun _ _ _ _ h => by
  obtain ⟨_, _, rfl, _⟩ := h; rfl
end Sg
namespace Sg
open PySem PySem.Spec PyProof.Rows L2 Evl
/-! ### readings: more words over Evl -/
section
variable {K : PySem.W.Frag} {σ : L2.St} {H : Hp} {ta tb te : TE} {x y z v : V}
theorem map_at {ns : List Int} {k : Nat} (h : k < ns.length) : (ns.map V.int)[k]? = some (.int (ns.getD k 0)) := by
  rw [List.getElem?_map, List.getElem?_eq_getElem h, List.getD_eq_getElem?_getD, List.getElem?_eq_getElem h] <;> rfl
theorem at_map {ns : List Int} {k : Nat} {i : Int} (e : i = (k : Int)) (h : k < ns.length) : atI (ns.map V.int) i = some (.int (ns.getD k 0)) := by
  rw [e]; exact atI_nat (map_at h)
theorem rv_ixN {p : Addr} {ns : List Int} {k : Nat} {i : Int} (h : SqL K H p (ns.map V.int)) (e : i = (k : Int)) (hk : k < ns.length) : RV (rIxL K) (.ref p) (.int i) H (.int (ns.getD k 0)) := rv_ixL h (at_map e hk)
theorem ev_lenM {p : Addr} {ns : List Int} (ha : Ev ta σ H (.ref p)) (h : SqL K H p (ns.map V.int)) : Ev (tCB (rLenS K) (tCons ta tNil)) σ H (.int (ns.length : Int)) := by
  have e := ev_len ha h
  rw [List.length_map] at e
  exact e
theorem rv_mul {i j : Int} {a b : Nat} (ha : i.natAbs < 2 ^ a) (hb : j.natAbs < 2 ^ b) (h0 : 0 < a) (h1 : 0 < b) (h : a + b ≤ 1000000) : RV rMulI (.int i) (.int j) H (.int (i * j)) := rv_I (C := CMulW) (g := fun i j => .int (i * j)) (wide_mul ha hb h0 h1 h)
theorem rv_mod {i j : Int} (h : 0 < j) : RV rModI (.int i) (.int j) H (.int (i % j)) := rv_I (C := fun _ j => 0 < j) (g := fun i j => .int (i % j)) h
theorem rv_div {i j : Int} (h : 0 < j) (h2 : j < 1073741824) : RV rDivI (.int i) (.int j) H (.int (i / j)) := rv_I (C := CDiv) (g := fun i j => .int (i / j)) ⟨h, h2⟩
theorem rv_add {i j : Int} : RV rAddI (.int i) (.int j) H (.int (i + j)) := rv_I0 (g := fun i j => .int (i + j))
theorem rv_sub {i j : Int} : RV rSubI (.int i) (.int j) H (.int (i - j)) := rv_I0 (g := fun i j => .int (i - j))
theorem rv_lt {i j : Int} : RV rLtI (.int i) (.int j) H (.bl (decide (i < j))) := rv_I0 (g := fun i j => .bl (decide (i < j)))
theorem rv_le {i j : Int} : RV rLeI (.int i) (.int j) H (.bl (decide (i ≤ j))) := rv_I0 (g := fun i j => .bl (decide (i ≤ j)))
theorem rv_gt {i j : Int} : RV rGtI (.int i) (.int j) H (.bl (decide (j < i))) := rv_I0 (g := fun i j => .bl (decide (j < i)))
theorem rv_ge {i j : Int} : RV rGeI (.int i) (.int j) H (.bl (decide (j ≤ i))) := rv_I0 (g := fun i j => .bl (decide (j ≤ i)))
theorem dec_V {i j : Int} : decide (V.int i = V.int j) = decide (i = j) := by
  by_cases e : i = j
  · rw [e, decide_eq_true rfl, decide_eq_true rfl]
  · rw [decide_eq_false e, decide_eq_false fun q => e (V.int.inj q)]
theorem rv_eqI {i j : Int} : RV rEq (.int i) (.int j) H (.bl (decide (i = j))) := by
  have h := rv_eq (H := H) (x := .int i) (y := .int j) rfl
  rw [dec_V] at h
  exact h
theorem rv_neI {i j : Int} : RV rNe (.int i) (.int j) H (.bl (!decide (i = j))) := by
  have h := rv_ne (H := H) (x := .int i) (y := .int j) rfl
  rw [dec_V] at h
  exact h
theorem ev_int1 {i : Int} (h : Ev te σ H (.int i)) : Ev (tCB rInt1 (tCons te tNil)) σ H (.int i) := fun H1 e Q q => h H1 e _ fun H2 e2 => .inl ⟨i, rfl, q H2 e2⟩
theorem ev_int1b {k : Bool} (h : Ev te σ H (.bl k)) : Ev (tCB rInt1 (tCons te tNil)) σ H (.int (if k then 1 else 0)) := fun H1 e Q q => h H1 e _ fun H2 e2 => .inr ⟨k, rfl, q H2 e2⟩
theorem ev_neg {i : Int} (h : Ev te σ H (.int i)) : Ev (tUn rNegI te) σ H (.int (-i)) := ev_un h ru_neg
theorem ev_chain {r r' : R2} {tc : TE} {a b c : V} {k k' : Bool} (ha : Ev ta σ H a) (hb : Ev tb σ H b) (hr : RV r a b H (.bl k)) (hc : Ev tc σ H c) (hr' : RV r' b c H (.bl k')) : Ev (tChain r r' ta tb tc) σ H (.bl (k && k')) := fun H1 e Q q =>
  ha H1 e _ fun H2 e2 => hb H2 (e.trans e2) _ fun H3 e3 => hr H3 ((e.trans e2).trans e3) _ fun H4 e4 => ⟨k, rfl, by
    cases k with
    | false => exact q H4 ((e2.trans e3).trans e4)
    | true => exact hc H4 (((e.trans e2).trans e3).trans e4) _ fun H5 e5 => hr' H5 ((((e.trans e2).trans e3).trans e4).trans e5) _ fun H6 e6 => q H6 ((((e2.trans e3).trans e4).trans e5).trans e6)⟩
/-- a slot's word after a turn -/
theorem take_fold {α β : Type} (f : β → α → β) (b : β) {l : List α} {i : Nat} {x : α} (h : l[i]? = some x) : (l.take (i + 1)).foldl f b = f ((l.take i).foldl f b) x := by
  rw [List.take_add_one, h, List.foldl_append] <;> rfl
theorem given_yes_all (n : Nat) (v : Nat → V) : given n (fun _ => true) v = (List.range n).map v := by
  unfold given
  rw [List.filter_eq_self.mpr fun _ _ => rfl]
theorem et_yes : EvT tYes σ H true := fun H1 _ _ q => q H1 (Ex.refl H1)
theorem ev_sum {p : Addr} {ns : List Int} (h : Ev te σ H (.ref p)) (hS : SqL K H p (ns.map V.int)) : Ev (tCB (rSum K) (tCons te tNil)) σ H (.int ns.sum) := fun H1 e Q q => h H1 e _ fun H2 e2 => ⟨p, ns, rfl, ex_l (e.trans e2) hS, q H2 e2⟩
theorem ev_sumL {ns : List Int} (h : EvL te σ H (ns.map V.int)) : Ev (tCB (rSum K) (tCons te tNil)) σ H (.int ns.sum) := fun H1 e Q q => h H1 e _ fun p H2 _ e2 hp => ⟨p, ns, rfl, sq_of hp, q H2 e2⟩
/-- calls -/
theorem spv {sp : Sp} {vs : List V} (h : ∀ H1, Ex H H1 → ∀ (Q : VK) (E : XK), RetV z H1 Q → sp vs H1 Q E) : SpV sp vs H z := fun H1 e Q q E => h H1 e Q E q
theorem spl {sp : Sp} {vs xs : List V} (h : ∀ H1, Ex H H1 → ∀ (Q : VK) (E : XK), RetL xs H1 Q → sp vs H1 Q E) : SpL sp vs H xs := fun H1 e Q q E => h H1 e Q E q
theorem ev_call1 {sp : Sp} {E : XK} (h : Ev te σ H x) (hs : SpV sp [x] H z) : Ev (tCall sp [] E (tCons te tNil)) σ H z := ev_call (dvs := []) (ea_cons h ea_nil) hs
theorem ev_call2 {sp : Sp} {E : XK} (h : Ev ta σ H x) (h2 : Ev tb σ H y) (hs : SpV sp [x, y] H z) : Ev (tCall sp [] E (tCons ta (tCons tb tNil))) σ H z := ev_call (dvs := []) (ea_cons h (ea_cons h2 ea_nil)) hs
theorem el_call1 {sp : Sp} {xs : List V} {E : XK} (h : Ev te σ H x) (hs : SpL sp [x] H xs) : EvL (tCall sp [] E (tCons te tNil)) σ H xs := el_call (dvs := []) (ea_cons h ea_nil) hs
end
end Sg
namespace Sg
open PySem PySem.Spec PyProof.Rows L2 Evl
section
variable {K : PySem.W.Frag} {σ : L2.St} {H : Hp} {ta tb te : TE} {x y z v : V}
theorem sql_ty {a : Addr} {xs : List V} (h : SqL K H a xs) : TyX K H (.ref a) (.type "list") := by
  rcases h with h | ⟨o, its, n, hk, hc, _⟩
  · rcases h with h | ⟨o, h⟩
    · exact .base (.lst h)
    · exact .base (.frz h)
  · exact .kList hk hc
theorem ev_isi {a b : String} {r : Bool} (h : Ev te σ H x) (ht : ∀ H1, Ex H H1 → TyX K H1 x (.type a)) (hk : kitB a b = some r) : Ev (tCB (rIsi K) (tCons te (tCons (tC (.ty b)) tNil))) σ H (.bl r) := fun H1 e Q q =>
  h H1 e _ fun H2 e2 => ⟨x, .ty b, .type a, .type b, r, rfl, .ty b, ht H2 (e.trans e2), kit_ty hk, q H2 e2⟩
theorem ev_isint {i : Int} (h : Ev te σ H (.int i)) : Ev (tCB (rIsi K) (tCons te (tCons (tC (.ty "int")) tNil))) σ H (.bl true) := ev_isi h (fun _ _ => .base (.int i)) (by decide +kernel)
theorem ev_isbool {i : Int} (h : Ev te σ H (.int i)) : Ev (tCB (rIsi K) (tCons te (tCons (tC (.ty "bool")) tNil))) σ H (.bl false) := ev_isi h (fun _ _ => .base (.int i)) (by decide +kernel)
theorem ev_islist {a : Addr} {xs : List V} (h : Ev te σ H (.ref a)) (hS : SqL K H a xs) : Ev (tCB (rIsi K) (tCons te (tCons (tC (.ty "list")) tNil))) σ H (.bl true) := ev_isi h (fun _ e => sql_ty (ex_l e hS)) (by decide +kernel)
end
end Sg
namespace Sg
open PySem PySem.Spec PyProof.Rows L2 Evl
section
variable {K : PySem.W.Frag} {σ : L2.St} {H : Hp} {ta tb te : TE} {x y z v : V}
/-- a written list's item -/
theorem ev_tab {xs : List V} {i : Int} (l : EvL ta σ H xs) (hi : Ev tb σ H (.int i)) (ha : atI xs i = some v) : Ev (tOp (rIxL K) ta tb) σ H v := ev_opL1 l (fun _ e => hi.mono e) fun p H1 hp _ => rv_ixL (sq_of hp) ha
theorem at_six {s : Nat} (h : s ≤ 5) : atI ([.int 1, .int 2, .int 4, .int 8, .int 16, .int 32] : List V) (s : Int) = some (.int ((2 ^ s : Nat) : Int)) := by
  rcases Sg.pow_cases h with rfl | rfl | rfl | rfl | rfl | rfl <;> rfl
theorem el_six : EvL (tLst (tCons (tC (.int 1)) (tCons (tC (.int 2)) (tCons (tC (.int 4)) (tCons (tC (.int 8)) (tCons (tC (.int 16)) (tCons (tC (.int 32)) tNil))))))) σ H [.int 1, .int 2, .int 4, .int 8, .int 16, .int 32] :=
  el_lst (ea_cons ev_c (ea_cons ev_c (ea_cons ev_c (ea_cons ev_c (ea_cons ev_c (ea_cons ev_c ea_nil)))))) (by decide)
theorem range_take {n i : Nat} (f : Nat → Int) (h : i < n) : (((List.range n).map f).take (i + 1)).map V.int = (((List.range n).map f).take i).map V.int ++ [.int (f i)] := by
  rw [List.take_add_one, List.getElem?_map, List.getElem?_range h, List.map_append]
  rfl
theorem range_take_all {n : Nat} (f : Nat → Int) : ((List.range n).map f).take n = (List.range n).map f := List.take_of_length_le (by rw [List.length_map, List.length_range]; exact Nat.le_refl _)
theorem range_take_len {n i : Nat} (f : Nat → Int) (h : i ≤ n) : ((((List.range n).map f).take i).map V.int).length = i := by
  rw [List.length_map, List.length_take, List.length_map, List.length_range]
  omega
end
end Sg
namespace Sg
theorem not_t {P : Prop} [Decidable P] (h : (!decide P) = true) : ¬ P := fun p => by
  rw [decide_eq_true p] at h
  cases h
theorem not_f {P : Prop} [Decidable P] (h : (!decide P) = false) : P := by
  by_cases p : P
  · exact p
  · rw [decide_eq_false p] at h
    cases h
end Sg
namespace Sg
open PySem PySem.Spec PyProof.Rows L2 Evl
/-! ### == of lists of numbers -/
section
variable {K : PySem.W.Frag} {σ : L2.St} {H : Hp} {ta tb te : TE} {x y z v : V}
def dI (ns : List Int) : PyData := .list (ns.map PyData.int)
theorem dpAllI : ∀ ns : List Int, DpAll K H (ns.map V.int) (ns.map PyData.int)
  | [] => .nil
  | n :: ns => .cons (.int n) (dpAllI ns)
theorem dpI {a : Addr} {ns : List Int} (h : SqL K H a (ns.map V.int)) : Dp K H (.ref a) (dI ns) := .lst h (dpAllI ns)
theorem depthAllI : ∀ ns : List Int, PyData.depthAll (ns.map PyData.int) = 0
  | [] => by rw [List.map_nil, PyData.depthAll]
  | n :: ns => by rw [List.map_cons, PyData.depthAll, depthAllI ns, PyData.depth]; rfl
theorem layAllI : ∀ ns : List Int, PyData.canLayAll0 (ns.map PyData.int) = true
  | [] => by rw [List.map_nil, PyData.canLayAll0]
  | n :: ns => by rw [List.map_cons, PyData.canLayAll0, layAllI ns, PyData.canLay0]; rfl
theorem depthI (ns : List Int) : (dI ns).depth = 1 := by
  unfold dI
  rw [PyData.depth, depthAllI]
theorem layI (ns : List Int) : (dI ns).canLay0 = true := by
  unfold dI
  rw [PyData.canLay0, layAllI]
theorem shapedI (ns : List Int) : SeqAt.shaped (dI ns) = true := by
  unfold SeqAt.shaped
  rw [layI, depthI]
  rfl
theorem eqvAllI : ∀ ns ms : List Int, PyData.eqvAll (ns.map PyData.int) (ms.map PyData.int) = decide (ns = ms)
  | [], [] => by rw [List.map_nil, PyData.eqvAll]; rfl
  | [], m :: ms => by rw [List.map_nil, List.map_cons, PyData.eqvAll, decide_eq_false (by simp)]
  | n :: ns, [] => by rw [List.map_nil, List.map_cons, PyData.eqvAll, decide_eq_false (by simp)]
  | n :: ns, m :: ms => by
    rw [List.map_cons, List.map_cons, PyData.eqvAll, eqvAllI ns ms, PyData.eqv]
    by_cases h1 : n = m
    · subst h1
      by_cases h2 : ns = ms
      · subst h2
        rw [decide_eq_true rfl, decide_eq_true rfl, beq_self_eq_true] <;> rfl
      · rw [decide_eq_false h2, decide_eq_false (by simp [h2]), Bool.and_false]
    · rw [decide_eq_false (show ¬ n :: ns = m :: ms by simp [h1]), beq_eq_false_iff_ne.mpr h1, Bool.false_and]
theorem eqvI (ns ms : List Int) : PyData.eqv (dI ns) (dI ms) = decide (ns = ms) := by
  unfold dI
  rw [PyData.eqv, eqvAllI]
theorem rv_eqD {d e : PyData} (hx : ∀ H1, Ex H H1 → Dp K H1 x d) (hy : ∀ H1, Ex H H1 → Dp K H1 y e) (s1 : SeqAt.shaped d = true) (s2 : SeqAt.shaped e = true) : RV (rEqD K) x y H (.bl (PyData.eqv d e)) := fun H1 e1 _ q => ⟨d, e, hx H1 e1, hy H1 e1, s1, s2, q H1 (Ex.refl H1)⟩
theorem rv_neD {d e : PyData} (hx : ∀ H1, Ex H H1 → Dp K H1 x d) (hy : ∀ H1, Ex H H1 → Dp K H1 y e) (s1 : SeqAt.shaped d = true) (s2 : SeqAt.shaped e = true) : RV (rNeD K) x y H (.bl (!PyData.eqv d e)) := fun H1 e1 _ q => ⟨d, e, hx H1 e1, hy H1 e1, s1, s2, q H1 (Ex.refl H1)⟩
theorem rv_eqL {p q : Addr} {ns ms : List Int} (h : SqL K H p (ns.map V.int)) (h2 : SqL K H q (ms.map V.int)) : RV (rEqD K) (.ref p) (.ref q) H (.bl (decide (ns = ms))) := by
  have r := rv_eqD (K := K) (H := H) (fun H1 e => dpI (ex_l e h)) (fun H1 e => dpI (ex_l e h2)) (shapedI ns) (shapedI ms)
  rw [eqvI] at r
  exact r
theorem rv_neL {p q : Addr} {ns ms : List Int} (h : SqL K H p (ns.map V.int)) (h2 : SqL K H q (ms.map V.int)) : RV (rNeD K) (.ref p) (.ref q) H (.bl (!decide (ns = ms))) := by
  have r := rv_neD (K := K) (H := H) (fun H1 e => dpI (ex_l e h)) (fun H1 e => dpI (ex_l e h2)) (shapedI ns) (shapedI ms)
  rw [eqvI] at r
  exact r
/-- two lists of two rows each -/
def dII (a b : List Int) : PyData := .list [dI a, dI b]
theorem shapedII (a b : List Int) : SeqAt.shaped (dII a b) = true := by
  unfold SeqAt.shaped dII
  rw [PyData.canLay0, PyData.canLayAll0, PyData.canLayAll0, PyData.canLayAll0, layI, layI, PyData.depth, PyData.depthAll, PyData.depthAll, PyData.depthAll, depthI, depthI]
  rfl
theorem eqvII (a b c d : List Int) : PyData.eqv (dII a b) (dII c d) = (decide (a = c) && decide (b = d)) := by
  unfold dII
  rw [PyData.eqv, PyData.eqvAll, PyData.eqvAll, PyData.eqvAll, eqvI, eqvI, Bool.and_true]
theorem dpII {p a b : Addr} {ns ms : List Int} (h : SqL K H p [.ref a, .ref b]) (h1 : SqL K H a (ns.map V.int)) (h2 : SqL K H b (ms.map V.int)) : Dp K H (.ref p) (dII ns ms) := .lst h (.cons (dpI h1) (.cons (dpI h2) .nil))
/-- the law's own row -/
theorem el_law_row {E : XK} {t1 t2 t3 t4 : TE} {c w g : Int} {s : Nat} (h1 : Ev t1 σ H (.int c)) (h2 : Ev t2 σ H (.int s)) (h3 : Ev t3 σ H (.int w)) (h4 : Ev t4 σ H (.int g)) (hs : s ≤ 5) (g1 : 0 < g) (g2 : g < 1073741824 * 1073741824) :
    EvL (tCall (sp_law_row K) [] E (tCons t1 (tCons t2 (tCons t3 (tCons t4 tNil))))) σ H ((lawRow c (2 ^ s) w g).map V.int) :=
  el_call (dvs := []) (ea_cons h1 (ea_cons h2 (ea_cons h3 (ea_cons h4 ea_nil)))) (spl fun H1 _ Q E q => ⟨c, s, w, g, rfl, hs, g1, g2, q⟩)
theorem ev_cell {E : XK} {a : Addr} {ns : List Int} {k : Nat} (h : Ev ta σ H (.ref a)) (h2 : Ev tb σ H (.int k)) (hS : SqL K H a (ns.map V.int)) : Ev (tCall (sp_law_cell_at K) [] E (tCons ta (tCons tb tNil))) σ H (.int (cellAt ns k)) :=
  ev_call2 h h2 (spv fun H1 e Q E q => ⟨a, ns, k, rfl, ex_l e hS, q⟩)
theorem ev_alike {E : XK} {a b : Addr} {ns ms : List Int} (h : Ev ta σ H (.ref a)) (h2 : Ev tb σ H (.ref b)) (hS : SqL K H a (ns.map V.int)) (hT : SqL K H b (ms.map V.int)) (hl : ns.length ≤ 1000) :
    Ev (tCall (sp_law_alike K) [] E (tCons ta (tCons tb tNil))) σ H (.bl (decide (ns = ms))) := ev_call2 h h2 (spv fun H1 e Q E q => ⟨a, b, ns, ms, rfl, ex_l e hS, ex_l e hT, hl, q⟩)
/-- the first argument a new list -/
theorem ev_alikeL {E : XK} {b : Addr} {ns ms : List Int} (h : EvL ta σ H (ns.map V.int)) (h2 : ∀ H1, Ex H H1 → Ev tb σ H1 (.ref b)) (hT : SqL K H b (ms.map V.int)) (hl : ns.length ≤ 1000) :
    Ev (tCall (sp_law_alike K) [] E (tCons ta (tCons tb tNil))) σ H (.bl (decide (ns = ms))) := fun H0 e0 Q q =>
  h H0 e0 _ fun p H1 _ e1 hp => h2 H1 (e0.trans e1) H1 (Ex.refl H1) _ fun H2 e2 => ⟨p, b, ns, ms, rfl, sq_of (e2 p _ hp), ex_l ((e0.trans e1).trans e2) hT, hl, fun H3 e3 => q H3 ((e1.trans e2).trans e3)⟩
theorem el_sums {E : XK} {a : Addr} {ns : List Int} (h : Ev te σ H (.ref a)) (hS : SqL K H a (ns.map V.int)) (hr : IsRow ns) : EvL (tCall (sp_sums K) [] E (tCons te tNil)) σ H ((sumsL ns).map V.int) :=
  el_call1 h (spl fun H1 e Q E q => ⟨a, ns, rfl, ex_l e hS, fun _ => q, fun n => absurd hr n⟩)
/-- sums of a new list -/
theorem el_sumsL {E : XK} {ns : List Int} (h : EvL te σ H (ns.map V.int)) (hr : IsRow ns) : EvL (tCall (sp_sums K) [] E (tCons te tNil)) σ H ((sumsL ns).map V.int) := fun H0 e0 Q q =>
  h H0 e0 _ fun p H1 _ e1 hp => ⟨p, ns, rfl, sq_of hp, fun _ => fun p2 H2 hp2 e2 h2 => q p2 H2 (fresh_back e1 hp2) (e1.trans e2) h2, fun n => absurd hr n⟩
theorem el_law_sums {E : XK} {a : Addr} {ns : List Int} (h : Ev te σ H (.ref a)) (hS : SqL K H a (ns.map V.int)) (hl : ns.length ≤ 32) (hb : ∀ x ∈ ns, x.natAbs < 2 ^ 100) : EvL (tCall (sp_law_sums K) [] E (tCons te tNil)) σ H ((sumsL ns).map V.int) :=
  el_call1 h (spl fun H1 e Q E q => ⟨a, ns, rfl, ex_l e hS, hl, hb, q⟩)
/-- 9 * 10 ** k -/
theorem ev_pow {b k : Int} {n : Nat} (h0 : 0 ≤ k ∧ k ≤ 1000) (hb : b.natAbs < 2 ^ 64) (ha : Ev ta σ H (.int b)) (hk : Ev tb σ H (.int k)) : Ev (tOp rPowI ta tb) σ H (.int (b ^ k.toNat)) := ev_op ha hk (rv_I (C := CPow) (g := fun i j => .int (i ^ j.toNat)) ⟨h0.1, by omega, hb⟩)
end
end Sg
namespace Sg
open PySem PySem.Spec PyProof.Rows L2 Evl
/-! ### what evaluates to some list of these numbers, old or new -/
section
variable {K : PySem.W.Frag} {σ : L2.St} {H H' : Hp} {ta tb te tl : TE} {x y z v : V}
def EvS (K : PySem.W.Frag) (te : TE) (σ : L2.St) (H : Hp) (ns : List Int) : Prop := ∀ H1, Ex H H1 → ∀ Q : VK, (∀ p H2, Ex H1 H2 → SqL K H2 p (ns.map V.int) → Q (.ref p) H2) → te σ H1 Q
theorem EvS.mono {ns : List Int} (e : Ex H H') (h : EvS K te σ H ns) : EvS K te σ H' ns := fun H1 a Q q => h H1 (e.trans a) Q q
theorem evs_of {a : Addr} {ns : List Int} (h : Ev te σ H (.ref a)) (hS : SqL K H a (ns.map V.int)) : EvS K te σ H ns := fun H1 e Q q => h H1 e _ fun H2 e2 => q a H2 e2 (ex_l (e.trans e2) hS)
theorem evs_new {ns : List Int} (h : EvL te σ H (ns.map V.int)) : EvS K te σ H ns := fun H1 e Q q => h H1 e _ fun p H2 _ e2 hp => q p H2 e2 (sq_of hp)
theorem evs_var {a : Addr} {ns : List Int} {i : Nat} (h : σ[i]? = some (some (.ref a))) (hS : SqL K H a (ns.map V.int)) : EvS K (tVar i) σ H ns := evs_of (ev_var h) hS
/-- a call of one such list -/
theorem ev_callS {sp : Sp} {E : XK} {ns : List Int} (h : EvS K te σ H ns) (hs : ∀ p H1, Ex H H1 → SqL K H1 p (ns.map V.int) → ∀ (Q : VK) (E : XK), RetV z H1 Q → sp [.ref p] H1 Q E) : Ev (tCall sp [] E (tCons te tNil)) σ H z := fun H0 e0 Q q =>
  h H0 e0 _ fun p H1 e1 hp => hs p H1 (e0.trans e1) hp Q E fun H2 e2 => q H2 (e1.trans e2)
theorem el_callS {sp : Sp} {E : XK} {ns : List Int} {xs : List V} (h : EvS K te σ H ns) (hs : ∀ p H1, Ex H H1 → SqL K H1 p (ns.map V.int) → ∀ (Q : VK) (E : XK), RetL xs H1 Q → sp [.ref p] H1 Q E) : EvL (tCall sp [] E (tCons te tNil)) σ H xs := fun H0 e0 Q q =>
  h H0 e0 _ fun p H1 e1 hp => hs p H1 (e0.trans e1) hp Q E fun p2 H2 n2 e2 h2 => q p2 H2 (fresh_back e1 n2) (e1.trans e2) h2
/-- a call of two such lists -/
theorem ev_callSS {sp : Sp} {E : XK} {ns ms : List Int} (h : EvS K ta σ H ns) (h2 : EvS K tb σ H ms) (hs : ∀ p q H1, Ex H H1 → SqL K H1 p (ns.map V.int) → SqL K H1 q (ms.map V.int) → ∀ (Q : VK) (E : XK), RetV z H1 Q → sp [.ref p, .ref q] H1 Q E) :
    Ev (tCall sp [] E (tCons ta (tCons tb tNil))) σ H z := fun H0 e0 Q q =>
  h H0 e0 _ fun p H1 e1 hp => h2 H1 (e0.trans e1) _ fun p2 H2 e2 hp2 => hs p p2 H2 ((e0.trans e1).trans e2) (ex_l e2 hp) hp2 Q E fun H3 e3 => q H3 ((e1.trans e2).trans e3)
theorem el_callSS {sp : Sp} {E : XK} {ns ms : List Int} {xs : List V} (h : EvS K ta σ H ns) (h2 : EvS K tb σ H ms) (hs : ∀ p q H1, Ex H H1 → SqL K H1 p (ns.map V.int) → SqL K H1 q (ms.map V.int) → ∀ (Q : VK) (E : XK), RetL xs H1 Q → sp [.ref p, .ref q] H1 Q E) :
    EvL (tCall sp [] E (tCons ta (tCons tb tNil))) σ H xs := fun H0 e0 Q q =>
  h H0 e0 _ fun p H1 e1 hp => h2 H1 (e0.trans e1) _ fun p2 H2 e2 hp2 => hs p p2 H2 ((e0.trans e1).trans e2) (ex_l e2 hp) hp2 Q E fun p3 H3 n3 e3 h3 => q p3 H3 (fresh_back (e1.trans e2) n3) ((e1.trans e2).trans e3) h3
theorem ev_alikeS {E : XK} {ns ms : List Int} (h : EvS K ta σ H ns) (h2 : EvS K tb σ H ms) (hl : ns.length ≤ 1000) : Ev (tCall (sp_law_alike K) [] E (tCons ta (tCons tb tNil))) σ H (.bl (decide (ns = ms))) :=
  ev_callSS h h2 fun p q H1 _ hp hq Q E r => ⟨p, q, ns, ms, rfl, hp, hq, hl, r⟩
theorem el_sumsS {E : XK} {ns : List Int} (h : EvS K te σ H ns) (hr : IsRow ns) : EvL (tCall (sp_sums K) [] E (tCons te tNil)) σ H ((sumsL ns).map V.int) :=
  el_callS h fun p H1 _ hp Q E r => ⟨p, ns, rfl, hp, fun _ => r, fun n => absurd hr n⟩
theorem el_listS {ns : List Int} (h : EvS K te σ H ns) : EvL (tCB (rListS K) (tCons te tNil)) σ H (ns.map V.int) := fun H0 e0 Q q =>
  h H0 e0 _ fun p H1 e1 hp => ⟨p, ns.map V.int, rfl, .inl hp, fun l hl => q l _ (fresh_back e1 hl) (e1.trans (Ex.new hl)) upd_same⟩
theorem ev_lenS {ns : List Int} (h : EvS K te σ H ns) : Ev (tCB (rLenS K) (tCons te tNil)) σ H (.int (ns.length : Int)) := fun H0 e0 Q q =>
  h H0 e0 _ fun p H1 e1 hp => ⟨p, ns.map V.int, rfl, .inl hp, by
    rw [List.length_map]
    exact q H1 e1⟩
theorem ev_sumS {ns : List Int} (h : EvS K te σ H ns) : Ev (tCB (rSum K) (tCons te tNil)) σ H (.int ns.sum) := fun H0 e0 Q q =>
  h H0 e0 _ fun p H1 e1 hp => ⟨p, ns, rfl, hp, q H1 e1⟩
theorem ev_eqS {ns ms : List Int} (h : EvS K ta σ H ns) (h2 : EvS K tb σ H ms) : Ev (tOp (rEqD K) ta tb) σ H (.bl (decide (ns = ms))) := fun H0 e0 Q q =>
  h H0 e0 _ fun p H1 e1 hp => h2 H1 (e0.trans e1) _ fun p2 H2 e2 hp2 => rv_eqL (ex_l e2 hp) hp2 H2 (Ex.refl H2) _ fun H3 e3 => q H3 ((e1.trans e2).trans e3)
theorem ev_neS {ns ms : List Int} (h : EvS K ta σ H ns) (h2 : EvS K tb σ H ms) : Ev (tOp (rNeD K) ta tb) σ H (.bl (!decide (ns = ms))) := fun H0 e0 Q q =>
  h H0 e0 _ fun p H1 e1 hp => h2 H1 (e0.trans e1) _ fun p2 H2 e2 hp2 => rv_neL (ex_l e2 hp) hp2 H2 (Ex.refl H2) _ fun H3 e3 => q H3 ((e1.trans e2).trans e3)
theorem el_law_sumsS {E : XK} {ns : List Int} (h : EvS K te σ H ns) (hl : ns.length ≤ 32) (hb : ∀ x ∈ ns, x.natAbs < 2 ^ 100) : EvL (tCall (sp_law_sums K) [] E (tCons te tNil)) σ H ((sumsL ns).map V.int) :=
  el_callS h fun p H1 _ hp Q E r => ⟨p, ns, rfl, hp, hl, hb, r⟩
theorem evs_ix {ns : List Int} {i : Int} {k : Nat} (h : EvS K ta σ H ns) (hi : Ev tb σ H (.int i)) (e : i = (k : Int)) (hk : k < ns.length) : Ev (tOp (rIxL K) ta tb) σ H (.int (ns.getD k 0)) := fun H0 e0 Q q =>
  h H0 e0 _ fun p H1 e1 hp => hi H1 (e0.trans e1) _ fun H2 e2 => rv_ixN (ex_l e2 hp) e hk H2 (Ex.refl H2) _ fun H3 e3 => q H3 ((e1.trans e2).trans e3)
/-! ### comprehensions -/
theorem int_of_map {ns : List Int} {i : Nat} {x : V} (h : (ns.map V.int)[i]? = some x) : ∃ n, ns[i]? = some n ∧ x = .int n := by
  rw [List.getElem?_map] at h
  cases e : ns[i]? with
  | none => rw [e] at h; cases h
  | some n => rw [e] at h; exact ⟨n, rfl, (Option.some.inj h).symm⟩
theorem given_map {ns : List Int} (g : Int → V) : given ns.length (fun _ => true) (fun i => g (ns.getD i 0)) = ns.map g := by
  rw [given_yes_all]
  refine List.ext_getElem (by rw [List.length_map, List.length_range, List.length_map]) fun k h1 h2 => ?_
  rw [List.length_map] at h2
  rw [List.getElem_map, List.getElem_range, List.getElem_map, List.getD_eq_getElem?_getD, List.getElem?_eq_getElem h2] <;> rfl
/-- [e for x in such a list] -/
theorem el_mapS {ns : List Int} {j : Nat} {vs : List Nat} (g : Int → V) (h : EvS K tl σ H ns) (hz : ns.length ≤ 40000) (hw : ∀ x, wipe ((wipe σ vs).set j (some x)) vs = wipe σ vs)
    (he : ∀ n ∈ ns, ∀ H1, Ex H H1 → Ev te ((wipe σ vs).set j (some (.int n))) H1 (g n)) : EvL (tLc (iList K tl) (gName j) tYes te vs) σ H (ns.map g) := fun H0 e0 Q q =>
  h H0 e0 _ fun a H1 e1 hx => ⟨a, rfl, ⟨ns.map V.int, hx⟩, fun Dl hD =>
    lc_list (xs := ns.map V.int) (Cw H1 (fun _ => true) (fun i => g (ns.getD i 0)) Dl) ⟨hD, Ex.new hD, upd_same⟩ (fun i H2 _ p => ex_l p.2.1 hx) (fun i x H2 hi p => by
      obtain ⟨n, hn, rfl⟩ := int_of_map hi
      have hl : i < ns.length := (List.getElem?_eq_some_iff.mp hn).1
      refine ⟨hw _, cw_turn p (by omega) et_yes fun _ => ?_⟩
      have e : ns.getD i 0 = n := by rw [List.getD_eq_getElem?_getD, hn] <;> rfl
      rw [e]
      exact he n (List.mem_of_getElem? hn) H1 (e0.trans e1)) (fun H2 p => by
      have p3 := p.2.2
      rw [List.length_map, given_map] at p3
      exact q Dl H2 (fresh_back e1 p.1) (e1.trans p.2.1) p3)⟩
/-- [e for i in range(n)] -/
theorem el_mapR {ta : TA} {j n : Nat} {vs : List Nat} (g : Nat → V) (h : EvA ta σ H [.int (n : Int)]) (hn : n ≤ 40000) (hw : ∀ x, wipe ((wipe σ vs).set j (some x)) vs = wipe σ vs)
    (he : ∀ i : Nat, i < n → ∀ H1, Ex H H1 → Ev te ((wipe σ vs).set j (some (.int (i : Int)))) H1 (g i)) : EvL (tLc (iRng1 ta) (gName j) tYes te vs) σ H ((List.range n).map g) := by
  have el := el_lcR1 (σ := σ) (H := H) (t := tYes) (te := te) (ta := ta) (j := j) (vs := vs) (n := (n : Int)) (fun _ => true) g h ⟨by omega, by omega⟩ hw (fun _ _ _ _ => et_yes) (fun i H1 e hi _ => he i (by omega) H1 e)
  rw [given_yes_all, Int.toNat_natCast] at el
  exact el
/-- [e for i in range(n) if t] -/
theorem el_filR {ta : TA} {t : TT} {j n : Nat} {vs : List Nat} (f : Nat → Bool) (g : Nat → V) (h : EvA ta σ H [.int (n : Int)]) (hn : n ≤ 40000) (hw : ∀ x, wipe ((wipe σ vs).set j (some x)) vs = wipe σ vs)
    (ht : ∀ i : Nat, i < n → ∀ H1, Ex H H1 → EvT t ((wipe σ vs).set j (some (.int (i : Int)))) H1 (f i)) (he : ∀ i : Nat, i < n → ∀ H1, Ex H H1 → Ev te ((wipe σ vs).set j (some (.int (i : Int)))) H1 (g i)) :
    EvL (tLc (iRng1 ta) (gName j) t te vs) σ H (((List.range n).filter f).map g) := by
  have el := el_lcR1 (σ := σ) (H := H) (t := t) (te := te) (ta := ta) (j := j) (vs := vs) (n := (n : Int)) f g h ⟨by omega, by omega⟩ hw (fun i H1 e hi => ht i (by omega) H1 e) (fun i H1 e hi _ => he i (by omega) H1 e)
  rw [Int.toNat_natCast] at el
  exact el
theorem ev_anyL {bs : List Bool} (h : EvL te σ H (bs.map V.bl)) : Ev (tCB (rAny K) (tCons te tNil)) σ H (.bl (bs.any id)) := fun H0 e0 Q q => h H0 e0 _ fun p H1 _ e1 hp => ⟨p, bs, rfl, sq_of hp, q H1 e1⟩
theorem ev_allL {bs : List Bool} (h : EvL te σ H (bs.map V.bl)) : Ev (tCB (rAll K) (tCons te tNil)) σ H (.bl (bs.all id)) := fun H0 e0 Q q => h H0 e0 _ fun p H1 _ e1 hp => ⟨p, bs, rfl, sq_of hp, q H1 e1⟩
end
end Sg
namespace Sg
open PySem PySem.Spec PyProof.Rows L2 Evl
theorem five_at {i : Nat} {x : V} (hx : ([.int 1, .int 2, .int 4, .int 8, .int 16] : List V)[i]? = some x) : ∃ w : Int, ([1, 2, 4, 8, 16] : List Int)[i]? = some w ∧ x = .int w ∧ 0 < w ∧ w < 1073741824 := by
  match i, hx with
  | 0, hx => cases hx; exact ⟨1, rfl, rfl, by decide, by decide⟩
  | 1, hx => cases hx; exact ⟨2, rfl, rfl, by decide, by decide⟩
  | 2, hx => cases hx; exact ⟨4, rfl, rfl, by decide, by decide⟩
  | 3, hx => cases hx; exact ⟨8, rfl, rfl, by decide, by decide⟩
  | 4, hx => cases hx; exact ⟨16, rfl, rfl, by decide, by decide⟩
  | n + 5, hx => cases hx
end Sg
namespace Sg
open PySem PySem.Spec PyProof.Rows L2 Evl
theorem inV_two' (i a b : Int) : inV (.int i) [.int a, .int b] = decide (i = a ∨ i = b) := by
  by_cases h : i = a ∨ i = b
  · rw [decide_eq_true h]
    rcases h with rfl | rfl <;> simp [inV, eqV]
  · rw [decide_eq_false h]
    simp only [not_or] at h
    simp [inV, eqV]
    omega
end Sg
namespace Sg
open PySem PySem.Spec PyProof.Rows L2 Evl
/-! ### a list of two lists -/
section
variable {K : PySem.W.Frag} {σ : L2.St} {H : Hp} {ta tb te tl : TE} {x y z v : V} {D : Ends} {tz : TS}
theorem q_asgLL {i : Nat} {xs ys : List V} (h1 : EvL ta σ H xs) (h2 : EvL tb σ H ys)
    (k : ∀ p q l H1, H p = none → H q = none → H l = none → Ex H H1 → H1 p = some (.lst xs) → H1 q = some (.lst ys) → H1 l = some (.lst [.ref p, .ref q]) → tz D (σ.set i (some (.ref l))) H1) :
    tSeq (tAsg (tLst (tCons ta (tCons tb tNil))) (gName i)) tz D σ H :=
  h1 H (Ex.refl H) _ fun p H1 np e1 hp => h2 H1 e1 _ fun q H2 nq e2 hq => ⟨by show 2 ≤ sizeLine; decide, fun l nl =>
    k p q l _ np (fresh_back e1 nq) (fresh_back (e1.trans e2) nl) ((e1.trans e2).trans (Ex.new nl)) (Ex.new nl p _ (e2 p _ hp)) (Ex.new nl q _ hq) upd_same⟩
theorem ev_at0 {l p q : Addr} (h : Ev ta σ H (.ref l)) (hL : SqL K H l [.ref p, .ref q]) : Ev (tOp (rIxL K) ta (tC (.int 0))) σ H (.ref p) := ev_op h ev_c (rv_ixL hL rfl)
theorem ev_at1 {l p q : Addr} (h : Ev ta σ H (.ref l)) (hL : SqL K H l [.ref p, .ref q]) : Ev (tOp (rIxL K) ta (tC (.int 1))) σ H (.ref q) := ev_op h ev_c (rv_ixL hL rfl)
theorem ev_pair {R : R2} {b : Bool} {l p q a c : Addr} (h : Ev ta σ H (.ref l)) (h1 : Ev tb σ H (.ref a)) (h2 : Ev te σ H (.ref c))
    (hr : ∀ m H1, Ex H H1 → SqL K H1 m [.ref a, .ref c] → RV R (.ref l) (.ref m) H1 (.bl b)) : Ev (tOp R ta (tLst (tCons tb (tCons te tNil)))) σ H (.bl b) :=
  ev_opL h (el_lst (ea_cons h1 (ea_cons h2 ea_nil)) (by show 2 ≤ 100000; decide)) fun m H1 hm e => hr m H1 e (sq_of hm)
theorem ev_neII {l p q a c : Addr} {ns ms as bs : List Int} (h : Ev ta σ H (.ref l)) (h1 : Ev tb σ H (.ref a)) (h2 : Ev te σ H (.ref c)) (hL : SqL K H l [.ref p, .ref q]) (hp : SqL K H p (ns.map V.int)) (hq : SqL K H q (ms.map V.int)) (ha : SqL K H a (as.map V.int)) (hc : SqL K H c (bs.map V.int)) :
    Ev (tOp (rNeD K) ta (tLst (tCons tb (tCons te tNil)))) σ H (.bl (!(decide (ns = as) && decide (ms = bs)))) := ev_pair (K := K) (p := p) (q := q) h h1 h2 fun m H1 e hm => by
  have r := rv_neD (K := K) (H := H1) (fun H2 e2 => dpII (ex_l (e.trans e2) hL) (ex_l (e.trans e2) hp) (ex_l (e.trans e2) hq)) (fun H2 e2 => dpII (ex_l e2 hm) (ex_l (e.trans e2) ha) (ex_l (e.trans e2) hc)) (shapedII ns ms) (shapedII as bs)
  rw [eqvII] at r
  exact r
theorem ev_eqII {l p q a c : Addr} {ns ms as bs : List Int} (h : Ev ta σ H (.ref l)) (h1 : Ev tb σ H (.ref a)) (h2 : Ev te σ H (.ref c)) (hL : SqL K H l [.ref p, .ref q]) (hp : SqL K H p (ns.map V.int)) (hq : SqL K H q (ms.map V.int)) (ha : SqL K H a (as.map V.int)) (hc : SqL K H c (bs.map V.int)) :
    Ev (tOp (rEqD K) ta (tLst (tCons tb (tCons te tNil)))) σ H (.bl (decide (ns = as) && decide (ms = bs))) := ev_pair (K := K) (p := p) (q := q) h h1 h2 fun m H1 e hm => by
  have r := rv_eqD (K := K) (H := H1) (fun H2 e2 => dpII (ex_l (e.trans e2) hL) (ex_l (e.trans e2) hp) (ex_l (e.trans e2) hq)) (fun H2 e2 => dpII (ex_l e2 hm) (ex_l (e.trans e2) ha) (ex_l (e.trans e2) hc)) (shapedII ns ms) (shapedII as bs)
  rw [eqvII] at r
  exact r
end
/-- what stands behind a change of a new list -/
theorem keep_new {H H1 H2 : Hp} {p : Addr} {o : HO} (e : Ex H H1) (n : H p = none) (e2 : Ex H1 H2) : Ex H (upd H2 p o) := Ex.mut (e.trans e2) n
end Sg
namespace Sg
open PySem PySem.Spec PyProof.Rows L2 Evl
/-! ### a list of new lists, made by a comprehension over a range -/
section
variable {K : PySem.W.Frag} {σ : L2.St} {H : Hp} {te : TE} {D : Ends} {tz : TS}
/-- the lists at ps are these, ps stand at l -/
structure Rows (H : Hp) (l : Addr) (n : Nat) (f : Nat → List Int) (ps : List Addr) : Prop where
  len : ps.length = n
  at_ : H l = some (.lst (ps.map V.ref))
  row : ∀ k, k < n → H (ps.getD k 0) = some (.lst ((f k).map V.int))
theorem Rows.mono {H H' : Hp} {l : Addr} {n : Nat} {f : Nat → List Int} {ps : List Addr} (e : Ex H H') (r : Rows H l n f ps) : Rows H' l n f ps := ⟨r.len, e l _ r.at_, fun k hk => e _ _ (r.row k hk)⟩
theorem ref_at {ps : List Addr} {k : Nat} (h : k < ps.length) : (ps.map V.ref)[k]? = some (.ref (ps.getD k 0)) := by
  rw [List.getElem?_map, List.getElem?_eq_getElem h, List.getD_eq_getElem?_getD, List.getElem?_eq_getElem h] <;> rfl
theorem Rows.evs {l : Addr} {n k : Nat} {i : Int} {f : Nat → List Int} {ps : List Addr} {ta tb : TE} (r : Rows H l n f ps) (ha : Ev ta σ H (.ref l)) (hb : Ev tb σ H (.int i)) (e : i = (k : Int)) (hk : k < n) : EvS K (tOp (rIxL K) ta tb) σ H (f k) :=
  evs_of (ev_op ha hb (rv_ixL (sq_of r.at_) (by rw [e]; exact atI_nat (ref_at (by rw [r.len]; exact hk))))) (sq_of (r.row k hk))
theorem q_asgRows {ta : TA} {i j n : Nat} {vs : List Nat} (f : Nat → List Int) (h : EvA ta σ H [.int (n : Int)]) (hn : n ≤ 40000) (hw : ∀ x, wipe ((wipe σ vs).set j (some x)) vs = wipe σ vs)
    (he : ∀ k : Nat, k < n → ∀ H1, Ex H H1 → EvL te ((wipe σ vs).set j (some (.int (k : Int)))) H1 ((f k).map V.int))
    (k : ∀ l ps H1, H l = none → Ex H H1 → Rows H1 l n f ps → tz D (σ.set i (some (.ref l))) H1) : tSeq (tAsg (tLc (iRng1 ta) (gName j) tYes te vs) (gName i)) tz D σ H :=
  h H (Ex.refl H) _ fun H1 e1 => ⟨(n : Int), rfl, by omega, by omega, fun Dl hD => by
    have hn1 : (n : Int).toNat = n := Int.toNat_natCast n
    rw [hn1]
    refine lc_range (lo := 0) (n := n) (fun m H' => Ex H1 H' ∧ ∃ ps : List Addr, Rows H' Dl m f ps ∧ Dl ∉ ps) ⟨Ex.new hD, [], ⟨rfl, upd_same, fun k hk => absurd hk (Nat.not_lt_zero _)⟩, by simp⟩ (fun m H' hm p => ?_) (fun H' p => ?_)
    · obtain ⟨ex, ps, r, nd⟩ := p
      have e0 : (0 : Int) + (m : Int) = (m : Int) := Int.zero_add _
      show wipe ((wipe σ vs).set j (some (.int ((0 : Int) + (m : Int))))) vs = wipe σ vs ∧ te ((wipe σ vs).set j (some (.int ((0 : Int) + (m : Int))))) H' _
      rw [e0]
      refine ⟨hw _, he m hm H' (e1.trans ex) H' (Ex.refl H') _ fun q H2 nq e2 hq => ⟨ps.map V.ref, e2 Dl _ r.at_, by rw [List.length_map, r.len]; exact sz_lt (by omega), ?_⟩⟩
      have nqD : q ≠ Dl := fun e => by
        rw [e, r.at_] at nq
        cases nq
      refine ⟨Ex.mut (ex.trans e2) (by exact fresh_back (Ex.refl H1) hD), ps ++ [q], ⟨by rw [List.length_append, r.len]; rfl, ?_, fun k hk => ?_⟩, by simp [nd, Ne.symm nqD]⟩
      · rw [upd_same, List.map_append]
        rfl
      · by_cases hkm : k < m
        · have hg : (ps ++ [q]).getD k 0 = ps.getD k 0 := by
            rw [List.getD_eq_getElem?_getD, List.getD_eq_getElem?_getD, List.getElem?_append_left (by rw [r.len]; exact hkm)]
          have hne : ps.getD k 0 ≠ Dl := fun e => nd (by
            rw [← e, List.getD_eq_getElem?_getD, List.getElem?_eq_getElem (by rw [r.len]; exact hkm)]
            exact List.getElem_mem _)
          rw [hg, upd_ne hne]
          exact e2 _ _ (r.row k hkm)
        · have hk2 : k = m := by omega
          have hg : (ps ++ [q]).getD k 0 = q := by
            rw [List.getD_eq_getElem?_getD, List.getElem?_append_right (by rw [r.len]; omega), r.len, hk2, Nat.sub_self]
            rfl
          rw [hg, upd_ne nqD, hk2]
          exact hq
    · obtain ⟨ex, ps, r, nd⟩ := p
      exact k Dl ps H' (fresh_back e1 hD) (e1.trans ex) r⟩
end
end Sg
namespace Sg
/-! ### sums of sums -/
theorem getD_map_range {n c : Nat} (f : Nat → Int) (h : c < n) : ((List.range n).map f).getD c 0 = f c := by
  rw [List.getD_eq_getElem?_getD, List.getElem?_map, List.getElem?_range h] <;> rfl
theorem getD_sumsL {ns : List Int} {c : Nat} (h : c < ns.length) : (sumsL ns).getD c 0 = sumAt ns c := getD_map_range _ h
theorem list_eq_range (ns : List Int) : ns = (List.range ns.length).map fun i => ns.getD i 0 := by
  refine List.ext_getElem (by rw [List.length_map, List.length_range]) fun k h1 _ => ?_
  rw [List.getElem_map, List.getElem_range, List.getD_eq_getElem?_getD, List.getElem?_eq_getElem h1] <;> rfl
theorem sg_symm : ∀ p, p < 32 → ∀ c, c < 32 → sg (p : Nat) (c : Nat) = sg (c : Nat) (p : Nat) := by decide +kernel
theorem sg_ortho : ∀ s, s < 6 → ∀ p, p < 2 ^ s → ∀ q, q < 2 ^ s → sm (2 ^ s) (fun c => sg (p : Nat) (c : Nat) * sg (c : Nat) (q : Nat)) = if p = q then ((2 ^ s : Nat) : Int) else 0 := by decide +kernel
theorem sumAt_twice {ns : List Int} {s : Nat} (hs : s < 6) (hn : ns.length = 2 ^ s) {q : Nat} (hq : q < 2 ^ s) : sumAt (sumsL ns) q = (ns.length : Int) * ns.getD q 0 := by
  unfold sumAt
  rw [sumsL_length]
  have h32 := (Sg.pow_le' hs)
  have e1 : sm ns.length (fun c => sg (c : Nat) (q : Nat) * (sumsL ns).getD c 0) = sm ns.length fun c => sm ns.length fun p => ns.getD p 0 * (sg (p : Nat) (c : Nat) * sg (c : Nat) (q : Nat)) := by
    refine sm_congr fun c hc => ?_
    rw [getD_sumsL hc]
    unfold sumAt
    rw [← sm_mulL]
    refine sm_congr fun p _ => ?_
    rw [← Int.mul_assoc, Int.mul_comm, Int.mul_comm (sg (c : Nat) (q : Nat))]
  rw [e1, sm_swap]
  have e2 : sm ns.length (fun p => sm ns.length fun c => ns.getD p 0 * (sg (p : Nat) (c : Nat) * sg (c : Nat) (q : Nat))) = sm ns.length fun p => (ns.length : Int) * (ns.getD p 0 * (if p = q then 1 else 0)) := by
    refine sm_congr fun p hp => ?_
    rw [sm_mulL, hn, sg_ortho s hs p (by omega) q hq]
    by_cases h : p = q
    · rw [if_pos h, if_pos h, Int.mul_one, Int.mul_comm]
    · rw [if_neg h, if_neg h, Int.mul_zero, Int.mul_zero]
  rw [e2, sm_mulL, sm_delta, if_pos (by omega)]
theorem map_eq_range (ns : List Int) (g : Int → Int) : ns.map g = (List.range ns.length).map fun i => g (ns.getD i 0) := by
  refine List.ext_getElem (by rw [List.length_map, List.length_map, List.length_range]) fun k h1 h2 => ?_
  rw [List.length_map] at h1
  rw [List.getElem_map, List.getElem_map, List.getElem_range, List.getD_eq_getElem?_getD, List.getElem?_eq_getElem h1] <;> rfl
/-- the sums of the sums -/
theorem sums_twice {ns : List Int} {s : Nat} (hs : s < 6) (hn : ns.length = 2 ^ s) : sumsL (sumsL ns) = ns.map fun x => x * (ns.length : Int) := by
  rw [map_eq_range]
  show (List.range (sumsL ns).length).map (sumAt (sumsL ns)) = _
  rw [sumsL_length]
  refine List.map_congr_left fun q hq => ?_
  rw [List.mem_range] at hq
  rw [sumAt_twice hs hn (by omega), Int.mul_comm]
/-- the row whose sums these are -/
def backL (ns : List Int) : List Int := (sumsL ns).map fun x => x / (ns.length : Int)
theorem back_sums {ns : List Int} {s : Nat} (hs : s < 6) (hn : ns.length = 2 ^ s) : backL (sumsL ns) = ns := by
  unfold backL
  rw [sums_twice hs hn, sumsL_length, List.map_map]
  refine (List.map_congr_left fun x _ => ?_).trans (List.map_id ns)
  have h0 : (ns.length : Int) ≠ 0 := by have := Nat.two_pow_pos s; omega
  exact Int.mul_ediv_cancel _ h0
theorem sums_twice_mod {ns : List Int} {s : Nat} (hs : s < 6) (hn : ns.length = 2 ^ s) : ∀ x ∈ sumsL (sumsL ns), x % (ns.length : Int) = 0 := by
  intro x hx
  rw [sums_twice hs hn] at hx
  obtain ⟨y, _, rfl⟩ := List.mem_map.mp hx
  exact Int.mul_emod_left _ _
/-! ### how great sums are -/
theorem sm_bd {n : Nat} {f : Nat → Int} {B : Int} (h : ∀ i, i < n → -B ≤ f i ∧ f i ≤ B) : -((n : Int) * B) ≤ sm n f ∧ sm n f ≤ (n : Int) * B := by
  induction n with
  | zero => rw [sm_zero]; simp
  | succ n ih =>
    have h1 := ih fun i hi => h i (by omega)
    have h2 := h n (by omega)
    rw [sm_succ, Int.natCast_succ, Int.add_mul, Int.one_mul]
    generalize (n : Int) * B = z at h1
    omega
theorem sg_bd (p c : Int) (x B : Int) (h : -B ≤ x ∧ x ≤ B) : -B ≤ sg p c * x ∧ sg p c * x ≤ B := by
  have z := sg_abs1 p c
  have z2 : sg p c = 1 ∨ sg p c = -1 := by omega
  rcases z2 with e | e <;> rw [e] <;> omega
theorem getD_bd {ns : List Int} {B : Int} (hB : 0 ≤ B) (h : ∀ x ∈ ns, -B ≤ x ∧ x ≤ B) (p : Nat) : -B ≤ ns.getD p 0 ∧ ns.getD p 0 ≤ B := by
  rw [List.getD_eq_getElem?_getD]
  cases e : ns[p]? with
  | none => show -B ≤ 0 ∧ 0 ≤ B; omega
  | some x => exact h x (List.mem_of_getElem? e)
theorem sumsL_bd {ns : List Int} {B : Int} (hB : 0 ≤ B) (h : ∀ x ∈ ns, -B ≤ x ∧ x ≤ B) : ∀ y ∈ sumsL ns, -((ns.length : Int) * B) ≤ y ∧ y ≤ (ns.length : Int) * B := by
  intro y hy
  obtain ⟨c, _, rfl⟩ := List.mem_map.mp hy
  exact sm_bd fun p _ => sg_bd _ _ _ _ (getD_bd hB h p)
theorem sums_isRow {ns : List Int} {B : Int} (hB : 0 ≤ B) (hn : ns.length ∈ [1, 2, 4, 8, 16, 32]) (h : ∀ x ∈ ns, -B ≤ x ∧ x ≤ B) (hb : (ns.length : Int) * B ≤ 100000000000000000000) : IsRow (sumsL ns) := by
  refine ⟨by rw [sumsL_length]; exact hn, fun y hy => ?_⟩
  have := sumsL_bd hB h y hy
  omega
/-! ### the squares; two rows together -/
def sq (ns : List Int) : Int := (ns.map fun x => x * x).sum
theorem sum_range (n : Nat) (f : Nat → Int) : ((List.range n).map f).sum = sm n f := rfl
theorem sq_sm (ns : List Int) : sq ns = sm ns.length fun i => ns.getD i 0 * ns.getD i 0 := by
  unfold sq
  rw [map_eq_range]
  exact sum_range _ _
theorem parseval {ns : List Int} {s : Nat} (hs : s < 6) (hn : ns.length = 2 ^ s) : sq (sumsL ns) = (ns.length : Int) * sq ns := by
  rw [sq_sm, sumsL_length, sq_sm]
  have h32 := pow_le' hs
  have e1 : sm ns.length (fun c => (sumsL ns).getD c 0 * (sumsL ns).getD c 0) = sm ns.length fun c => sm ns.length fun p => ns.getD p 0 * (sg (p : Nat) (c : Nat) * (sumsL ns).getD c 0) := by
    refine sm_congr fun c hc => ?_
    have e : (sumsL ns).getD c 0 * (sumsL ns).getD c 0 = (sumsL ns).getD c 0 * sumAt ns c := by rw [getD_sumsL hc]
    rw [e]
    unfold sumAt
    rw [← sm_mulL]
    refine sm_congr fun p _ => ?_
    rw [Int.mul_comm, Int.mul_comm (sg _ _) (ns.getD p 0), Int.mul_assoc]
  rw [e1, sm_swap, ← sm_mulL]
  refine sm_congr fun p hp => ?_
  rw [sm_mulL]
  have e2 : sm ns.length (fun c => sg (p : Nat) (c : Nat) * (sumsL ns).getD c 0) = sumAt (sumsL ns) p := by
    unfold sumAt
    rw [sumsL_length]
    exact sm_congr fun c hc => by rw [sg_symm p (by omega) c (by omega)]
  rw [e2, sumAt_twice hs hn (by omega), ← Int.mul_assoc, Int.mul_comm (ns.getD p 0), Int.mul_assoc]
def addL (ns ms : List Int) : List Int := (List.range ns.length).map fun i => ns.getD i 0 + ms.getD i 0
theorem addL_length (ns ms : List Int) : (addL ns ms).length = ns.length := by
  unfold addL
  rw [List.length_map, List.length_range]
theorem sums_add {ns ms : List Int} (h : ms.length = ns.length) : sumsL (addL ns ms) = addL (sumsL ns) (sumsL ms) := by
  show (List.range (addL ns ms).length).map (sumAt (addL ns ms)) = (List.range (sumsL ns).length).map fun i => (sumsL ns).getD i 0 + (sumsL ms).getD i 0
  rw [addL_length, sumsL_length]
  refine List.map_congr_left fun c hc => ?_
  rw [List.mem_range] at hc
  rw [getD_sumsL hc, getD_sumsL (by omega)]
  unfold sumAt
  rw [addL_length, h, ← sm_add]
  refine sm_congr fun p hp => ?_
  unfold addL
  rw [getD_map_range _ hp, Int.mul_add]
end Sg
namespace Sg
open PySem PySem.Spec PyProof.Rows L2 Evl
theorem mod_at3 (i : Int) (n : Nat) (hn : 0 < n) : ∃ s : Nat, s < n ∧ i % (n : Int) = (s : Int) := by
  have h1 := Int.emod_nonneg i (show (n : Int) ≠ 0 by omega)
  have h2 := Int.emod_lt_of_pos i (show (0 : Int) < n by omega)
  exact ⟨(i % (n : Int)).toNat, by omega, by omega⟩
section
variable {K : PySem.W.Frag} {σ : L2.St} {H : Hp} {ta : TE}
theorem ev_atT {p : Addr} {xs : List V} {v : V} {i : Int} (h : Ev ta σ H (.ref p)) (hT : SqT K H p xs) (ha : atI xs i = some v) : Ev (tOp (rIxT K) ta (tC (.int i))) σ H v := ev_op h ev_c (rv_ixT hT ha)
end
theorem filter_bad (ns : List Int) (n : Int) : (((ns.filter fun x => !decide (x % n = 0)).length : Int) > 0) ↔ ¬ ∀ x ∈ ns, x % n = 0 := by
  constructor
  · intro h1 h2
    have e : ns.filter (fun x => !decide (x % n = 0)) = [] := List.filter_eq_nil_iff.mpr fun x hx => by rw [decide_eq_true (h2 x hx)]; decide
    rw [e] at h1
    exact absurd h1 (by decide)
  · intro h
    cases e : ns.filter (fun x => !decide (x % n = 0)) with
    | nil => exact absurd (fun x hx => by
        have z := List.filter_eq_nil_iff.mp e x hx
        by_cases g : x % n = 0
        · exact g
        · rw [decide_eq_false g] at z
          exact absurd rfl z) h
    | cons x l => rw [List.length_cons]; omega
theorem el_filS {K : PySem.W.Frag} {σ : L2.St} {H : Hp} {tl te : TE} {t : TT} {ns : List Int} {j : Nat} {vs : List Nat} (f : Int → Bool) (h : EvS K tl σ H ns) (hz : ns.length ≤ 40000) (hw : ∀ x, wipe ((wipe σ vs).set j (some x)) vs = wipe σ vs)
    (ht : ∀ n ∈ ns, ∀ H1, Ex H H1 → EvT t ((wipe σ vs).set j (some (.int n))) H1 (f n)) (he : ∀ n ∈ ns, ∀ H1, Ex H H1 → Ev te ((wipe σ vs).set j (some (.int n))) H1 (.int n)) : EvL (tLc (iList K tl) (gName j) t te vs) σ H ((ns.filter f).map V.int) := fun H0 e0 Q q =>
  h H0 e0 _ fun a H1 e1 hx => ⟨a, rfl, ⟨ns.map V.int, hx⟩, fun Dl hD =>
    lc_list (xs := ns.map V.int) (Cw H1 (fun i => f (ns.getD i 0)) (fun i => .int (ns.getD i 0)) Dl) ⟨hD, Ex.new hD, upd_same⟩ (fun i H2 _ p => ex_l p.2.1 hx) (fun i x H2 hi p => by
      obtain ⟨n, hn, rfl⟩ := int_of_map hi
      have hl : i < ns.length := (List.getElem?_eq_some_iff.mp hn).1
      have e : ns.getD i 0 = n := by rw [List.getD_eq_getElem?_getD, hn] <;> rfl
      refine ⟨hw _, cw_turn p (by omega) (by rw [e]; exact ht n (List.mem_of_getElem? hn) H1 (e0.trans e1)) fun _ => ?_⟩
      rw [e]
      exact he n (List.mem_of_getElem? hn) H1 (e0.trans e1)) (fun H2 p => by
      have p3 := p.2.2
      have eg : given (ns.map V.int).length (fun i => f (ns.getD i 0)) (fun i => .int (ns.getD i 0)) = (ns.filter f).map V.int := by
        rw [List.length_map]
        unfold given
        have e2 : ns.filter f = ((List.range ns.length).filter fun i => f (ns.getD i 0)).map fun i => ns.getD i 0 := by
          conv => lhs; rw [list_eq_range ns]
          rw [List.filter_map]
          rfl
        rw [e2, List.map_map]
        rfl
      rw [eg] at p3
      exact q Dl H2 (fresh_back e1 p.1) (e1.trans p.2.1) p3)⟩
end Sg
namespace Sg
/-! ### tied -/
def tieN (ns ms : List Int) (k : Nat) : List Int := (List.range (k * ns.length)).map fun j => ns.getD (j % ns.length) 0 * ms.getD (j / ns.length) 0
def tieL (ns ms : List Int) : List Int := tieN ns ms ms.length
theorem tieL_length (ns ms : List Int) : (tieL ns ms).length = ms.length * ns.length := by
  unfold tieL tieN
  rw [List.length_map, List.length_range]
theorem tieN_zero (ns ms : List Int) : tieN ns ms 0 = [] := by
  unfold tieN
  rw [Nat.zero_mul] <;> rfl
theorem tieN_succ (ns ms : List Int) (k : Nat) : tieN ns ms (k + 1) = tieN ns ms k ++ ns.map fun x => x * ms.getD k 0 := by
  unfold tieN
  rw [Nat.succ_mul, List.range_add, List.map_append, List.map_map]
  congr 1
  rw [map_eq_range ns fun x => x * ms.getD k 0]
  refine List.map_congr_left fun i hi => ?_
  have hl : i < ns.length := List.mem_range.mp hi
  have h1 : (k * ns.length + i) % ns.length = i := by
    rw [Nat.add_comm, Nat.add_mul_mod_self_right, Nat.mod_eq_of_lt hl]
  have h2 : (k * ns.length + i) / ns.length = k := by
    rw [Nat.add_comm, Nat.add_mul_div_right _ _ (by omega), Nat.div_eq_of_lt hl, Nat.zero_add]
  show ns.getD ((k * ns.length + i) % ns.length) 0 * ms.getD ((k * ns.length + i) / ns.length) 0 = _
  rw [h1, h2]
theorem sm_grid (n : Nat) (f : Nat → Int) : ∀ m, sm (m * n) f = sm m fun q => sm n fun p => f (q * n + p)
  | 0 => by rw [Nat.zero_mul]; rfl
  | m + 1 => by rw [Nat.succ_mul, sm_split, sm_grid n f m, sm_succ]
theorem sg_grid : ∀ s, s < 6 → ∀ t, t < 6 - s → ∀ p, p < 2 ^ s → ∀ a, a < 2 ^ s → ∀ q, q < 2 ^ t → ∀ b, b < 2 ^ t → sg ((q * 2 ^ s + p : Nat) : Int) ((b * 2 ^ s + a : Nat) : Int) = sg (p : Nat) (a : Nat) * sg (q : Nat) (b : Nat) := by decide +kernel
theorem sums_tied {ns ms : List Int} {s t : Nat} (hs : s < 6) (ht : t < 6 - s) (h1 : ns.length = 2 ^ s) (h2 : ms.length = 2 ^ t) : sumsL (tieL ns ms) = tieL (sumsL ns) (sumsL ms) := by
  have e : tieL (sumsL ns) (sumsL ms) = (List.range (ms.length * ns.length)).map fun j => (sumsL ns).getD (j % ns.length) 0 * (sumsL ms).getD (j / ns.length) 0 := by
    unfold tieL tieN
    rw [sumsL_length, sumsL_length]
  rw [e]
  have e0 : sumsL (tieL ns ms) = (List.range (ms.length * ns.length)).map (sumAt (tieL ns ms)) := by
    unfold sumsL
    rw [tieL_length]
  rw [e0]
  have hp1 : 0 < ns.length := by rw [h1]; exact Nat.two_pow_pos s
  have hp2 : 0 < ms.length := by rw [h2]; exact Nat.two_pow_pos t
  refine List.map_congr_left fun c hc => ?_
  have hcl : c < ms.length * ns.length := List.mem_range.mp hc
  have ha : c % ns.length < ns.length := Nat.mod_lt _ hp1
  have hb : c / ns.length < ms.length := Nat.div_lt_of_lt_mul (by rw [Nat.mul_comm]; exact hcl)
  rw [getD_sumsL ha, getD_sumsL hb]
  have ec : c = c / ns.length * ns.length + c % ns.length := by
    have := Nat.div_add_mod c ns.length
    rw [Nat.mul_comm] at this
    exact this.symm
  generalize c % ns.length = a at ha ec
  generalize c / ns.length = b at hb ec
  subst ec
  show sm (tieL ns ms).length (fun p => sg p ((b * ns.length + a : Nat) : Int) * (tieL ns ms).getD p 0) = sm ns.length (fun p => sg p a * ns.getD p 0) * sm ms.length (fun q => sg q b * ms.getD q 0)
  rw [tieL_length, sm_grid, ← sm_mulL]
  refine sm_congr fun q hq => ?_
  rw [← sm_mulR]
  refine sm_congr fun p hp => ?_
  have hj : q * ns.length + p < ms.length * ns.length := by
    have := Nat.mul_le_mul_right ns.length (show q + 1 ≤ ms.length by omega)
    rw [Nat.succ_mul] at this
    omega
  have g1 : (q * ns.length + p) % ns.length = p := by rw [Nat.add_comm, Nat.add_mul_mod_self_right, Nat.mod_eq_of_lt hp]
  have g2 : (q * ns.length + p) / ns.length = q := by rw [Nat.add_comm, Nat.add_mul_div_right _ _ (by omega), Nat.div_eq_of_lt hp, Nat.zero_add]
  have g3 : (tieL ns ms).getD (q * ns.length + p) 0 = ns.getD p 0 * ms.getD q 0 := by
    unfold tieL tieN
    rw [getD_map_range _ hj, g1, g2]
  have g4 : sg ((q * ns.length + p : Nat) : Int) ((b * ns.length + a : Nat) : Int) = sg (p : Nat) (a : Nat) * sg (q : Nat) (b : Nat) := by
    rw [h1] at hp ha ⊢
    rw [h2] at hq hb
    exact sg_grid s hs t ht p hp a ha q hq b hb
  rw [g3, g4]
  simp only [Int.mul_assoc, Int.mul_comm, Int.mul_left_comm]
theorem tie_bd {ns ms : List Int} {A B : Nat} (h1 : ∀ x ∈ ns, x.natAbs ≤ A) (h2 : ∀ x ∈ ms, x.natAbs ≤ B) : ∀ x ∈ tieL ns ms, x.natAbs ≤ A * B := by
  intro x hx
  unfold tieL tieN at hx
  obtain ⟨j, _, rfl⟩ := List.mem_map.mp hx
  have gd : ∀ (l : List Int) (C : Nat), (∀ y ∈ l, y.natAbs ≤ C) → ∀ i, (l.getD i 0).natAbs ≤ C := fun l C h i => by
    rw [List.getD_eq_getElem?_getD]
    cases e : l[i]? with
    | none => exact Nat.zero_le _
    | some y => exact h y (List.mem_of_getElem? e)
  rw [Int.natAbs_mul]
  exact Nat.mul_le_mul (gd ns A h1 _) (gd ms B h2 _)
end Sg
namespace Sg
open PySem PySem.Spec PyProof.Rows L2 Evl
def sp_tied (K : PySem.W.Frag) : Sp := fun vs H Q E => ∃ (a b : Addr) (ns ms : List Int), vs = [.ref a, .ref b] ∧ SqL K H a (ns.map V.int) ∧ SqL K H b (ms.map V.int) ∧
  (IsRow ns → IsRow ms → ns.length * ms.length ≤ 32 → RetL ((tieL ns ms).map V.int) H Q) ∧ (IsRow ns → IsRow ms → ¬ ns.length * ms.length ≤ 32 → ∀ H', Ex H H' → E (.ref (He.ga K "TooLong")) none H') ∧
  (¬ (IsRow ns ∧ IsRow ms) → ∀ H', Ex H H' → E (.ref (He.ga K "NoRow")) none H')
theorem len_tied {K : PySem.W.Frag} : ∀ vs H Q E, sp_tied K vs H Q E → vs.length = 2 := fun _ _ _ _ h => by
  obtain ⟨_, _, _, _, rfl, _⟩ := h; rfl
section
variable {K : PySem.W.Frag} {σ : L2.St} {H : Hp} {ta tb te : TE}
theorem el_tiedS {E : XK} {ns ms : List Int} (h : EvS K ta σ H ns) (h2 : EvS K tb σ H ms) (r1 : IsRow ns) (r2 : IsRow ms) (hl : ns.length * ms.length ≤ 32) : EvL (tCall (sp_tied K) [] E (tCons ta (tCons tb tNil))) σ H ((tieL ns ms).map V.int) :=
  el_callSS h h2 fun p q H1 _ hp hq Q E r => ⟨p, q, ns, ms, rfl, hp, hq, fun _ _ _ => r, fun _ _ n => absurd hl n, fun n => absurd ⟨r1, r2⟩ n⟩
end
end Sg
namespace Sg
open PySem PySem.Spec PyProof.Rows L2 Evl
/-! ### which error it is: a def that gets the caught error -/
section
variable {X : Cx}
def rCountV (K : PySem.W.Frag) : V → List V → Hp → VK → Prop := fun x xs H Q => ∃ (a : Addr) (ys : List V) (y : V), x = .ref a ∧ xs = [y] ∧ SqL K H a ys ∧ flatV y = true ∧ ys.all flatV = true ∧ Q (.int ((ys.countP fun z => eqV z y : Nat) : Int)) H
theorem count_eqU {y : V} : ∀ {ys : List V} {us : List Value}, Vals ys us → ys.all flatV = true → us.countP (eqU y) = ys.countP fun z => eqV z y
  | _, _, .nil, _ => rfl
  | z :: ys, u :: us, .cons r t, f => by
    rw [List.all_cons, Bool.and_eq_true] at f
    rw [List.countP_cons, List.countP_cons, eqU_of r f.1, count_eqU t f.2]
theorem mt_countV : MtR X "list.count" (rCountV X.K) := fun pins s σ H x xs v us Q I rx rxs h => by
  obtain ⟨a, ys, y, rfl, rfl, hs, fy, fys, q⟩ := h
  cases rx
  obtain ⟨uy, rfl, ry⟩ := rxs.one
  obtain ⟨its, rv, ⟨⟨c0, d0, dt, sl0⟩, n, ho, hc, hn, hd⟩, hl⟩ := I.list hs
  dsimp only at hc hd
  subst hc; subst hd
  refine call_meets PySem.F.slot_list_count ⟨_, ho, rfl⟩ PySem.F.entry_list_count (PySem.F.args_list_count_2 _ _) (SeqAt.list_countAt a its.toArray n d0 sl0 uy (eqU y)) ⟨ho, fun u hu => mem_eqAt ry fy rv fys u (by simpa using hu), ?_⟩
  refine ⟨.int ((ys.countP fun z => eqV z y : Nat) : Int), H, I.tok _, ⟨s.toks, ?_⟩, q⟩
  rw [← count_eqU rv fys]
/-- isinstance of what is pinned -/
theorem call_isP {p : Addr × Obj} {D : Addr} (C : ExcC X.K D) (hp : p ∈ X.pn) (hz : Zc (.ref D) none p.2) (hf : ∃ vs, p.2.data = .fields vs) : CallR X (.builtin "isinstance") (rIsE X.K D p.1) := fun pins s σ H xs us Q I r h => by
  obtain ⟨c, cv, b, rfl, hcv, e, q⟩ := h
  match us, r with
  | [u1, u2], .cons r1 (.cons r2 .nil) =>
    cases r1
    cases hcv _ r2
    have hg := (I.pin p (List.mem_append_left _ hp)).1
    obtain ⟨vs, hv⟩ := hf
    have J : PySem.W.InstAt s.heap p.1 p.2 D none := by
      obtain ⟨p1, ⟨oc, od, oda, osl⟩⟩ := p
      obtain ⟨z1, z2⟩ := hz
      dsimp only at z1 z2 hv
      subst z1; subst z2; subst hv
      exact ⟨hg, rfl, rfl, trivial⟩
    refine PySem.W.kia_one (PySem.W.handS_kitx_exc C.hg C.hk C.hs C.hd C.ha C.hn C.ht C.hm) I.kIn J e (fun z => nomatch z) fun tk => ?_
    exact ⟨.bl b, H, I.kept (t' := tk) fun _ _ z => z, rfl, q⟩
end
/-- what such a def promises: of an error of the class D the word t -/
structure FnP (P : Program) (w : World) (K : PySem.W.Frag) (mg : Str → Option Value) (base : Heap) (k : Nat) (f : Addr) (fd : FuncData) (x : Str) (R : Addr → Str → Prop) : Prop where
  go : ∀ {A : Around} {outer : List Env} {s : Shared} {H : Hp} {args : Args} {Q : VK} {E : XK} {p : Addr × Obj} {D : Addr} {t : Str}, L2H.RoomH k A → L2H.PinOk outer H s p → Zc (.ref D) none p.2 → (∃ vs, p.2.data = .fields vs) →
    Env0 P w K mg base A outer s H → BindsTo s fd args [(x, .ref p.1)] → R D t → RetV (.str t) H Q → codeAny (model P w) A (.call (.ref f) args) (CR CX0 outer P w H s Q E) s
theorem fun_okP {P : Program} {w : World} {K : PySem.W.Frag} {mg : Str → Option Value} {base : Heap} {x qual y : Str} {st : Stmt} {f : Addr} {fd : FuncData} {N : List Str} {k : Nat} {R : Addr → Str → Prop} (F : Fun K x qual st f fd) (S : FnScope N [y] (defScope st))
    (hb : ∀ (cdv : Value) (A : Around) (outer : List Env) (s : Shared) (H : Hp) (Q : VK) (E : XK) (p : Addr × Obj) (D : Addr) (t : Str), Zc (.ref D) none p.2 → (∃ vs, p.2.data = .fields vs) → R D t → RetV (.str t) H Q →
      ∃ z, PSs (L2H.cxH CX0 P w K mg base N qual (defScope st) f cdv A outer s H E p) (defBody st) z ∧ z { nx := fun _ H' => Q .non H', rt := Q } (start N [.ref p.1]) H) : FnP P w K mg base (k + 1) f fd y R := by
  obtain ⟨oc, od, kV, doc, pm, an, cdv, ct, osl, rfl, lk, hcd⟩ := F.ex
  refine ⟨fun {A outer s H args Q E p D t} hr hpin hz hf e0 hbi hR hq => ?_⟩
  have hin : K.In s.heap := e0.mod.kin.keeps fun b o e => (e0.bs b o e).1
  have hlim : s.heap.NoLimit := e0.mod.nolimit.keeps fun b o e => (e0.bs b o e).1
  refine codeAny_call_function (L2H.RoomH.depth hr) (hin _ _ lk) rfl S.co S.gen rfl (PySem.W.codeRec_of hin hcd) (hbi _ _ _ _ ?_)
  refine wpAny_newFunctionEnv_cells S.kind (fun z hz1 => ?_) fun env he s1 ic => ?_
  · cases List.mem_singleton.mp hz1
    exact (S.par y (List.mem_singleton.mpr rfl)).elim Or.inl fun q => Or.inr ⟨q, PySem.W.cellsFrom_some _ _ _ (Or.inl q)⟩
  · subst he
    refine ⟨hlim.keeps ic.toInCall.keep, codeAny_func ?_⟩
    obtain ⟨z, hz1, hz2⟩ := hb cdv A outer s H Q E p D t hz hf hR hq
    have I0 : Inv (L2H.cxH CX0 P w K mg base N qual (defScope st) f cdv A outer s H E p) [] (start N [.ref p.1]) H s1 := L2H.inv_startH (ps := [y]) (us := [.ref p.1]) S hpin e0 rfl (.cons rfl .nil) ic
    refine wpAny_mono (hz1.run [] s1 (start N [.ref p.1]) H _ I0 hz2) (fun fl s2 hs => ?_) fun _ _ z => z
    match fl, hs with
    | .ret u, ⟨v, σ', H', J, rv, q⟩ => exact ⟨v, H', J.os, J.bare, J.base, J.hok, rv, q⟩
    | .next, ⟨σ', H', J, q⟩ => exact ⟨.non, H', J.os, J.bare, J.base, J.hok, rfl, q⟩
    | .brk, ⟨_, _, _, q⟩ => exact q.elim
    | .cont, ⟨_, _, _, q⟩ => exact q.elim
/-- the call of it within the suite -/
def tCallP (a : Addr) (cls : Value) (d : Option Addr) (R : Addr → Str → Prop) (t : TA) : TE := fun σ H Q => t σ H fun vs H1 => vs = [.ref a] ∧ ∃ D z, cls = .ref D ∧ d = none ∧ R D z ∧ RetV (.str z) H1 Q
theorem roomP {k j : Nat} {A : Around} {v : Option Value} (r : Room k A) (h : j ≤ k) : L2H.RoomH j (A.mark v) := ⟨(r.mono h).dp, (r.mono h).un⟩
section
variable {X : Cx} {p : Addr × Obj} {cls : Value} {d : Option Addr} {k : Nat} {f : Addr} {fd : FuncData} {x y : Str} {R : Addr → Str → Prop} {e : Expr} {es : List Expr} {t : TA} {q pos : Pos}
theorem run_fnP {pins : List (Addr × Obj)} {σ : L2.St} {H : Hp} {s : Shared} {Q : VK} {D : Addr} {z : Str} (hp : p ∈ X.pn) (F : FnP X.prog X.w X.K X.mg X.base k f fd y R) (hr : L2H.RoomH k X.A) (hz : Zc (.ref D) none p.2) (hf : ∃ vs, p.2.data = .fields vs) (hb : Binds X.K fd [y] [])
    (I : Inv X pins σ H s) (hR : R D z) (h : RetV (.str z) H Q) : wpAny (model X.prog X.w) X.A (call (.ref f) [.ref p.1]) (EP X pins σ Q) X.xe s := by
  have P1 := I.pin p (List.mem_append_left _ hp)
  have hpin : L2H.PinOk X.stack H s p := ⟨P1.1, P1.2.1, fun hin => (List.mem_cons.mp (I.stkSub p.1 hin)).elim P1.2.2.1 P1.2.2.2.1, P1.2.2.2.2⟩
  have b := hb s [.ref p.1] I.kIn rfl
  have g := F.go (E := fun _ _ _ => False) (args := ⟨[.ref p.1], []⟩) hr hpin hz hf I.env0 b hR h
  refine wpAny_call (codeAny_mono g fun rs s2 hq => ?_)
  cases rs with
  | error e => exact False.elim hq
  | ok fl =>
    cases fl with
    | ret u => exact I.after hq
    | next => exact False.elim hq
    | brk => exact False.elim hq
    | cont => exact False.elim hq
theorem pe_callP (hp : p ∈ X.pn) (hz : Zc cls d p.2) (hf : ∃ vs, p.2.data = .fields vs) (F : FnP X.prog X.w X.K X.mg X.base k f fd y R) (hr : L2H.RoomH k X.A) (hg : Gl X x) (hm : X.mg x = some (.ref f)) (hk : PySem.W.keepIn X.K (.ref f) = true) (hb : Binds X.K fd [y] [])
    (ha : PA X (e :: es) t) (hdb : (x == ("__debug__" : Str)) = false := by decide)
    (he : starEach (e :: es) X.env = (false, eval e X.env) :: starEach es X.env := by rfl) (hpl : (backTo pos (starEach es X.env)).any (·.1) = false := by rfl) :
    PE X (.Call (.Name x q) (e :: es) [] pos) (tCallP p.1 cls d R t) := by
  constructor
  intro pins s σ H Q I h
  refine wpAny_Call_Name_kw (ld_glob I hg hm ?_ hdb)
  refine PySem.W.callWith_K (h₀ := X.base) I.ok.mod.kin hk (thn (ha.run pos pins s σ H _ I h) fun us s1 hh => ?_) he hpl
  obtain ⟨vs, H1, I1, r1, ev, D, z, ec, ed, hR, q1⟩ := hh
  subst ev
  subst ec
  subst ed
  obtain ⟨u1, eu, ru⟩ := r1.one
  subst eu
  obtain rfl : u1 = Value.ref p.1 := ru
  exact ⟨I1.kIn, run_fnP hp F hr hz hf hb I1 hR q1⟩
end
/-! ### the words -/
def kindTab : List (Str × Str) := [("NoRow", "row"), ("NoSums", "sums"), ("NoMatch", "match"), ("TooLong", "long"), ("NoStep", "step"), ("NoSigns", "signs"), ("NoChoice", "choice"), ("NoFlat", "flat"), ("NoNote", "note")]
def KindR (K : PySem.W.Frag) (D : Addr) (t : Str) : Prop := ∃ c, (c, t) ∈ kindTab ∧ D = He.ga K c
structure KindsOk (K : PySem.W.Frag) : Prop where
  ex : ∀ c ∈ kindTab, ExcC K (He.ga K c.1)
  ve : ∀ c ∈ kindTab, PySem.W.kitOne K (.ref (He.ga K c.1)) (.type "ValueError") = some true
  is : ∀ c ∈ kindTab, ∀ e ∈ kindTab, PySem.W.kitOne K (.ref (He.ga K c.1)) (.ref (He.ga K e.1)) = some (c.1 == e.1)
def excB (K : PySem.W.Frag) (D : Addr) : Bool :=
  decide (PySem.W.findIn K (.ref D) "__getattribute__" = some (some (.builtin "BaseException.__getattribute__"))) && (decide (PySem.W.findIn K (.ref D) "__getattr__" = some none) && (decide (PySem.W.subIn K (.ref D) (.type "BaseException") = some true) &&
  (PySem.W.hasDictIn K D && (decide (PySem.W.findIn K (.ref D) "__class__" = some (some (.builtin "object.__class__"))) && (decide (PySem.W.specialIn K (.builtin "object.__class__") "__get__" = some (some (.builtin "getset_descriptor.__get__"))) &&
  (decide (PySem.W.takesIn K (.builtin "object.__class__") = some true) && decide (PySem.W.mroIn K D (.type "object") = some true)))))))
theorem excB_ok {K : PySem.W.Frag} {D : Addr} (h : excB K D = true) : ExcC K D := by
  obtain ⟨h1, h⟩ := He.ba h
  obtain ⟨h2, h⟩ := He.ba h
  obtain ⟨h3, h⟩ := He.ba h
  obtain ⟨h4, h⟩ := He.ba h
  obtain ⟨h5, h⟩ := He.ba h
  obtain ⟨h6, h⟩ := He.ba h
  obtain ⟨h7, h8⟩ := He.ba h
  exact ⟨of_decide_eq_true h1, of_decide_eq_true h2, of_decide_eq_true h3, h4, of_decide_eq_true h5, of_decide_eq_true h6, of_decide_eq_true h7, of_decide_eq_true h8⟩
def kindIs (K : PySem.W.Frag) (c e : Str × Str) : Bool := decide (PySem.W.kitOne K (.ref (He.ga K c.1)) (.ref (He.ga K e.1)) = some (c.1 == e.1))
def kindVe (K : PySem.W.Frag) (c : Str × Str) : Bool := decide (PySem.W.kitOne K (.ref (He.ga K c.1)) (.type "ValueError") = some true)
def kindOne (K : PySem.W.Frag) (c : Str × Str) : Bool := excB K (He.ga K c.1) && (kindVe K c && kindTab.all (kindIs K c))
def kindsB (K : PySem.W.Frag) : Bool := kindTab.all (kindOne K)
theorem kindIs_ok {K : PySem.W.Frag} {c e : Str × Str} (h : kindIs K c e = true) : PySem.W.kitOne K (.ref (He.ga K c.1)) (.ref (He.ga K e.1)) = some (c.1 == e.1) := by
  unfold kindIs at h
  exact of_decide_eq_true h
theorem kindVe_ok {K : PySem.W.Frag} {c : Str × Str} (h : kindVe K c = true) : PySem.W.kitOne K (.ref (He.ga K c.1)) (.type "ValueError") = some true := by
  unfold kindVe at h
  exact of_decide_eq_true h
theorem kindOne_ok {K : PySem.W.Frag} {c : Str × Str} (h : kindOne K c = true) : excB K (He.ga K c.1) = true ∧ kindVe K c = true ∧ kindTab.all (kindIs K c) = true := by
  unfold kindOne at h
  rw [Bool.and_eq_true, Bool.and_eq_true] at h
  exact h
theorem kindsB_ok {K : PySem.W.Frag} (h : kindsB K = true) : KindsOk K := by
  unfold kindsB at h
  have g := List.all_eq_true.mp h
  refine ⟨fun c hc => excB_ok (kindOne_ok (g c hc)).1, fun c hc => kindVe_ok (kindOne_ok (g c hc)).2.1, fun c hc e he => ?_⟩
  have g2 := List.all_eq_true.mp (kindOne_ok (g c hc)).2.2
  exact kindIs_ok (g2 e he)
/-- the reading of a try that catches them -/
abbrev tTryE (K : PySem.W.Frag) (C : Addr) (i : Nat) (tb : WX → TS) (ts : Addr → Value → Option Addr → TS) : TS := fun D σ H => tb (wAs K (.ref C) i ts (fun _ _ _ _ => False) D) D σ H
def RetTold (xs : List V) (H : Hp) (Q : VK) : Prop := ∀ l p H2, H l = none → H p = none → Ex H H2 → H2 l = some (.lst xs) → H2 p = some (.tup [.str "told", .ref l]) → Q (.ref p) H2
def RetErr (t : Str) (H : Hp) (Q : VK) : Prop := ∀ p H2, H p = none → Ex H H2 → H2 p = some (.tup [.str t, .non]) → Q (.ref p) H2
end Sg
namespace Sg
open PySem PySem.Spec PyProof.Rows L2 Evl
def sp_law_tried (K : PySem.W.Frag) : Sp := fun vs H Q _ => ∃ (a b : Addr) (ns ms : List Int), vs = [.ref a, .ref b] ∧ SqL K H a (ns.map V.int) ∧ SqL K H b (ms.map V.int) ∧ IsRow ns ∧ IsRow ms ∧ (ns.length * ms.length ≤ 32 → RetTold ((tieL ns ms).map V.int) H Q) ∧ (¬ ns.length * ms.length ≤ 32 → RetErr "long" H Q)
theorem len_law_tried {K : PySem.W.Frag} : ∀ vs H Q E, sp_law_tried K vs H Q E → vs.length = 2 := fun _ _ _ _ h => by
  obtain ⟨_, _, _, _, rfl, _⟩ := h; rfl
end Sg
namespace Sg
open PySem PySem.Spec PyProof.Rows L2 Evl
def t_ask_row (K : PySem.W.Frag) (E : XK) : TS :=
  (tSeq (tIfS (tTest (tOp (rIn K true) (tCB (rLenS K) (tCons (tVar 0) tNil)) (tC (.ref (He.ga K "LENGTHS")))))
   (tRz E (He.ga K "NoRow"))
   tNext)
  (tFor (iList K (tVar 0)) (gName 1)
   (tIfS (tNot (tTest (tChain rLeI rLeI (tUn rNegI (tC (.int 100000000000000000000))) (tVar 1) (tC (.int 100000000000000000000)))))
    (tRz E (He.ga K "NoRow"))
    tNext)))
def N_ask_row : List Str := ["row", "number"]
def t_summed (K : PySem.W.Frag) : TS :=
  (tSeq (tAsg (tCB (rListS K) (tCons (tVar 0) tNil)) (gName 1))
  (tSeq (tAsg (tC (.int 1)) (gName 2))
  (tSeq (tWhile (tTest (tOp rLtI (tVar 2) (tCB (rLenS K) (tCons (tVar 1) tNil))))
   (tSeq (tAsg (tCB (rListS K) (tCons (tVar 1) tNil)) (gName 3))
   (tSeq (tFor (iRng1 (tCons (tCB (rLenS K) (tCons (tVar 1) tNil)) tNil)) (gName 4)
    (tIfS (tTest (tOp rEq (tOp rModI (tOp rDivI (tVar 4) (tVar 2)) (tC (.int 2))) (tC (.int 0))))
     (tSeq (tAsg (tOp rAddI (tOp (rIxL K) (tVar 1) (tVar 4)) (tOp (rIxL K) (tVar 1) (tOp rAddI (tVar 4) (tVar 2)))) (gSub (tVar 3) (tVar 4) rSetL))
     (tAsg (tOp rSubI (tOp (rIxL K) (tVar 1) (tVar 4)) (tOp (rIxL K) (tVar 1) (tOp rAddI (tVar 4) (tVar 2)))) (gSub (tVar 3) (tOp rAddI (tVar 4) (tVar 2)) rSetL)))
     tNext))
   (tSeq (tAsg (tVar 3) (gName 1))
   (tAsg (tOp rMulI (tC (.int 2)) (tVar 2)) (gName 2))))))
  (tRet (tVar 1)))))
def N_summed : List Str := ["row", "found", "wide", "longer", "place"]
def t_sums (K : PySem.W.Frag) (E : XK) : TS :=
  (tSeq (tDrop (tCall (sp_ask_row K) [] E (tCons (tVar 0) tNil)))
  (tRet (tCall (sp_summed K) [] E0 (tCons (tVar 0) tNil))))
def N_sums : List Str := ["row"]
def t_tied (K : PySem.W.Frag) (E : XK) : TS :=
  (tSeq (tDrop (tCall (sp_ask_row K) [] E (tCons (tVar 0) tNil)))
  (tSeq (tDrop (tCall (sp_ask_row K) [] E (tCons (tVar 1) tNil)))
  (tSeq (tIfS (tTest (tOp rGtI (tOp rMulI (tCB (rLenS K) (tCons (tVar 0) tNil)) (tCB (rLenS K) (tCons (tVar 1) tNil))) (tC (.int 32))))
   (tRz E (He.ga K "TooLong"))
   tNext)
  (tSeq (tAsg (tLst tNil) (gName 2))
  (tSeq (tFor (iList K (tVar 1)) (gName 3)
   (tAsg (tOp rCat (tVar 2) (tLc (iList K (tVar 0)) (gName 4) tYes (tOp rMulI (tVar 4) (tVar 3)) [4])) (gName 2)))
  (tRet (tVar 2)))))))
def N_tied : List Str := ["one", "other", "found", "number", "mine"]
def t_law_cell_at (K : PySem.W.Frag) : TS :=
  (tSeq (tIfS (tTest (tOp rLtI (tVar 1) (tCB (rLenS K) (tCons (tVar 0) tNil))))
   (tRet (tOp (rIxL K) (tVar 0) (tVar 1)))
   tNext)
  (tRet (tC (.int 0))))
def N__law_cell_at : List Str := ["script", "k"]
def t_law_whole (K : PySem.W.Frag) : TS :=
  (tRet (tAndV (tCB (rIsi K) (tCons (tVar 0) (tCons (tC (.ty "int")) tNil))) (tNotV (tCB (rIsi K) (tCons (tVar 0) (tCons (tC (.ty "bool")) tNil))))))
def N__law_whole : List Str := ["found"]
def t_law_next (K : PySem.W.Frag) : TS :=
  (tSeq (tAsg (tOp rModI (tOp rAddI (tVar 0) (tC (.int 7919))) (tC (.int 2147483647))) (gName 0))
  (tRet (tOp rModI (tOp rAddI (tOp rAddI (tOp rMulI (tVar 0) (tVar 0)) (tOp rMulI (tC (.int 48271)) (tVar 0))) (tC (.int 12345))) (tC (.int 2147483629)))))
def N__law_next : List Str := ["seed"]
def t_law_row (K : PySem.W.Frag) : TS :=
  (tSeq (tAsg (tLst tNil) (gName 4))
  (tSeq (tFor (iRng1 (tCons (tOp (rIxL K) (tLst (tCons (tC (.int 1)) (tCons (tC (.int 2)) (tCons (tC (.int 4)) (tCons (tC (.int 8)) (tCons (tC (.int 16)) (tCons (tC (.int 32)) tNil))))))) (tVar 1)) tNil)) (gName 5)
   (tSeq (tAsg (tCall (sp_law_next K) [] E0 (tCons (tOp rAddI (tOp rModI (tVar 0) (tC (.int 1000003))) (tOp rMulI (tC (.int 31)) (tVar 5))) tNil)) (gName 0))
   (tSeq (tAsg (tOp rSubI (tOp rModI (tOp rDivI (tVar 0) (tC (.int 7))) (tC (.int 2000001))) (tC (.int 1000000))) (gName 6))
   (tSeq (tIfS (tTest (tOp rEq (tOp rModI (tOp rDivI (tVar 2) (tC (.int 4))) (tC (.int 2))) (tC (.int 1))))
    (tAsg (tOp rAddI (tOp rMulI (tVar 6) (tVar 3)) (tOp rMulI (tOp rSubI (tC (.int 1)) (tOp rMulI (tC (.int 2)) (tCB rInt1 (tCons (tOp rLtI (tVar 6) (tC (.int 0))) tNil)))) (tOp rModI (tOp rDivI (tVar 0) (tC (.int 64))) (tVar 3)))) (gName 6))
    tNext)
   (tSeq (tIfS (tTest (tOp rEq (tOp rModI (tVar 2) (tC (.int 4))) (tC (.int 0))))
    (tAsg (tOp rSubI (tC (.int 1)) (tOp rMulI (tC (.int 2)) (tOp rModI (tOp rDivI (tVar 0) (tC (.int 7))) (tC (.int 2))))) (gName 6))
    tNext)
   (tSeq (tIfS (tTest (tOp rEq (tOp rModI (tVar 2) (tC (.int 4))) (tC (.int 1))))
    (tAsg (tOp rSubI (tOp rModI (tOp rDivI (tVar 0) (tC (.int 7))) (tC (.int 9))) (tC (.int 4))) (gName 6))
    tNext)
   (tSeq (tIfS (tAnd (tTest (tOp rEq (tOp rModI (tVar 2) (tC (.int 4))) (tC (.int 3)))) (tTest (tOp rGtI (tOp rModI (tOp rDivI (tVar 0) (tC (.int 14000007))) (tC (.int 3))) (tC (.int 0)))))
    (tAsg (tC (.int 0)) (gName 6))
    tNext)
   (tDrop (tBM K "list" rAppend (tVar 4) (tCons (tVar 6) tNil))))))))))
  (tRet (tVar 4))))
def N__law_row : List Str := ["cell", "steps", "way", "great", "found", "place", "number"]
def t_law_alike (K : PySem.W.Frag) : TS :=
  (tSeq (tIfS (tOr (tNot (tB (tCB (rIsi K) (tCons (tVar 0) (tCons (tC (.ty "list")) tNil))))) (tTest (tOp rNe (tCB (rLenS K) (tCons (tVar 0) tNil)) (tCB (rLenS K) (tCons (tVar 1) tNil)))))
   (tRet (tC (.bl false)))
   tNext)
  (tSeq (tFor (iRng1 (tCons (tCB (rLenS K) (tCons (tVar 1) tNil)) tNil)) (gName 2)
   (tIfS (tOr (tNot (tB (tCall (sp_law_whole K) [] E0 (tCons (tOp (rIxL K) (tVar 0) (tVar 2)) tNil)))) (tTest (tOp rNe (tOp (rIxL K) (tVar 0) (tVar 2)) (tOp (rIxL K) (tVar 1) (tVar 2)))))
    (tRet (tC (.bl false)))
    tNext))
  (tRet (tC (.bl true)))))
def N__law_alike : List Str := ["found", "due", "k"]
def t_law_kind (K : PySem.W.Frag) (D a : Addr) : TS :=
  (tSeq (tAsg (tLst (tCons (tCB (rIsE K D a) (tCons (tVar 0) (tCons (tC (.ref (He.ga K "NoRow"))) tNil))) (tCons (tCB (rIsE K D a) (tCons (tVar 0) (tCons (tC (.ref (He.ga K "NoSums"))) tNil))) (tCons (tCB (rIsE K D a) (tCons (tVar 0) (tCons (tC (.ref (He.ga K "NoMatch"))) tNil))) (tCons (tCB (rIsE K D a) (tCons (tVar 0) (tCons (tC (.ref (He.ga K "TooLong"))) tNil))) tNil))))) (gName 1))
  (tSeq (tAsg (tOp rCat (tVar 1) (tLst (tCons (tCB (rIsE K D a) (tCons (tVar 0) (tCons (tC (.ref (He.ga K "NoStep"))) tNil))) (tCons (tCB (rIsE K D a) (tCons (tVar 0) (tCons (tC (.ref (He.ga K "NoSigns"))) tNil))) (tCons (tCB (rIsE K D a) (tCons (tVar 0) (tCons (tC (.ref (He.ga K "NoChoice"))) tNil))) (tCons (tCB (rIsE K D a) (tCons (tVar 0) (tCons (tC (.ref (He.ga K "NoFlat"))) tNil))) tNil)))))) (gName 1))
  (tSeq (tDrop (tBM K "list" rAppend (tVar 1) (tCons (tCB (rIsE K D a) (tCons (tVar 0) (tCons (tC (.ref (He.ga K "NoNote"))) tNil))) tNil)))
  (tSeq (tIfS (tOr (tNot (tB (tCB (rIsE K D a) (tCons (tVar 0) (tCons (tC (.ty "ValueError")) tNil))))) (tTest (tOp rNe (tBM K "list" (rCountV K) (tVar 1) (tCons (tC (.bl true)) tNil)) (tC (.int 1)))))
   (tRet (tC (.str "other")))
   tNext)
  (tRet (tOp (rIxL K) (tLst (tCons (tC (.str "row")) (tCons (tC (.str "sums")) (tCons (tC (.str "match")) (tCons (tC (.str "long")) (tCons (tC (.str "step")) (tCons (tC (.str "signs")) (tCons (tC (.str "choice")) (tCons (tC (.str "flat")) (tCons (tC (.str "note")) tNil)))))))))) (tBM K "list" (rIndex K) (tVar 1) (tCons (tC (.bl true)) tNil))))))))
def N__law_kind : List Str := ["e", "kinds"]
def t_law_tried (K : PySem.W.Frag) : TS :=
  (tTryE K (He.ga K "SignError") 2
   (fun W => (tRet (tTup (tCons (tC (.str "told")) (tCons (tCallS (sp_tied K) (WE W) (tCons (tVar 0) (tCons (tVar 1) tNil))) tNil)))))
   (fun a cls d => (tRet (tTup (tCons (tCallP a cls d (KindR K) (tCons (tVar 2) tNil)) (tCons (tC .non) tNil))))))
def N__law_tried : List Str := ["one", "other", "e"]
def t_law (K : PySem.W.Frag) : TS :=
  (tSeq (tAsg (tOp rModI (tCall (sp_law_cell_at K) [] E0 (tCons (tVar 0) (tCons (tC (.int 0)) tNil))) (tC (.int 6))) (gName 1))
  (tSeq (tAsg (tOp rAddI (tOp rModI (tCall (sp_law_cell_at K) [] E0 (tCons (tVar 0) (tCons (tC (.int 1)) tNil))) (tOp rSubI (tC (.int 6)) (tVar 1))) (tOp rMulI (tCB rInt1 (tCons (tOp rEq (tOp rModI (tCall (sp_law_cell_at K) [] E0 (tCons (tVar 0) (tCons (tC (.int 6)) tNil))) (tC (.int 6))) (tC (.int 1))) tNil)) (tVar 1))) (gName 2))
  (tSeq (tAsg (tCall (sp_law_row K) [] E0 (tCons (tCall (sp_law_cell_at K) [] E0 (tCons (tVar 0) (tCons (tC (.int 2)) tNil))) (tCons (tVar 1) (tCons (tCall (sp_law_cell_at K) [] E0 (tCons (tVar 0) (tCons (tC (.int 3)) tNil))) (tCons (tC (.int 999)) tNil))))) (gName 3))
  (tSeq (tAsg (tCall (sp_law_row K) [] E0 (tCons (tCall (sp_law_cell_at K) [] E0 (tCons (tVar 0) (tCons (tC (.int 4)) tNil))) (tCons (tVar 2) (tCons (tCall (sp_law_cell_at K) [] E0 (tCons (tVar 0) (tCons (tC (.int 5)) tNil))) (tCons (tC (.int 999)) tNil))))) (gName 4))
  (tSeq (tAsg (tLst (tCons (tCB (rListS K) (tCons (tVar 3) tNil)) (tCons (tCB (rListS K) (tCons (tVar 4) tNil)) tNil))) (gName 5))
  (tSeq (tAsg (tCall (sp_law_tried K) [] E0 (tCons (tOp (rIxL K) (tVar 5) (tC (.int 0))) (tCons (tOp (rIxL K) (tVar 5) (tC (.int 1))) tNil))) (gName 6))
  (tSeq (tIfS (tTest (tOp (rNeD K) (tVar 5) (tLst (tCons (tVar 3) (tCons (tVar 4) tNil)))))
   (tRet (tC (.bl false)))
   tNext)
  (tSeq (tIfS (tTest (tOp rGtI (tOp rAddI (tVar 1) (tVar 2)) (tC (.int 5))))
   (tRet (tOp rEq (tOp (rIxT K) (tVar 6) (tC (.int 0))) (tC (.str "long"))))
   tNext)
  (tSeq (tAsg (tLst tNil) (gName 7))
  (tSeq (tFor (iList K (tVar 4)) (gName 8)
   (tFor (iList K (tVar 3)) (gName 9)
    (tDrop (tBM K "list" rAppend (tVar 7) (tCons (tOp rMulI (tVar 9) (tVar 8)) tNil)))))
  (tSeq (tIfS (tOr (tTest (tOp rNe (tOp (rIxT K) (tVar 6) (tC (.int 0))) (tC (.str "told")))) (tNot (tB (tCall (sp_law_alike K) [] E0 (tCons (tOp (rIxT K) (tVar 6) (tC (.int 1))) (tCons (tVar 7) tNil))))))
   (tRet (tC (.bl false)))
   tNext)
  (tSeq (tDrop (tBM K "list" rAppend (tOp (rIxT K) (tVar 6) (tC (.int 1))) (tCons (tC (.int 0)) tNil)))
  (tRet (tAndV (tOp (rEqD K) (tCall (sp_sums K) [] E0 (tCons (tVar 7) tNil)) (tCall (sp_tied K) [] E0 (tCons (tCall (sp_sums K) [] E0 (tCons (tOp (rIxL K) (tVar 5) (tC (.int 0))) tNil)) (tCons (tCall (sp_sums K) [] E0 (tCons (tOp (rIxL K) (tVar 5) (tC (.int 1))) tNil)) tNil)))) (tOp (rEqD K) (tVar 5) (tLst (tCons (tVar 3) (tCons (tVar 4) tNil))))))))))))))))))
def N_law : List Str := ["script", "steps", "more", "one", "other", "handed", "found", "due", "number", "mine"]
end Sg
namespace Sg
open PySem PySem.Spec PyProof.Rows L2 Evl
/-! ### the program: ask_row, summed, sums -/
theorem inV_six (n : Nat) : inV (.int n) [.int 1, .int 2, .int 4, .int 8, .int 16, .int 32] = decide (n ∈ [1, 2, 4, 8, 16, 32]) := by
  by_cases h : n ∈ [1, 2, 4, 8, 16, 32]
  · rw [decide_eq_true h]
    simp only [List.mem_cons, List.not_mem_nil, or_false] at h
    rcases h with rfl | rfl | rfl | rfl | rfl | rfl <;> rfl
  · rw [decide_eq_false h]
    simp only [List.mem_cons, List.not_mem_nil, or_false, not_or] at h
    simp [inV, eqV]
    omega
theorem pure_ask_row {K : PySem.W.Frag} (hT : ∀ H : Hp, SqT K H (He.ga K "LENGTHS") [.int 1, .int 2, .int 4, .int 8, .int 16, .int 32]) (vs : List V) (H : Hp) (Q : VK) (E : XK) (h : sp_ask_row K vs H Q E) : t_ask_row K E { nx := fun _ H' => Q .non H', rt := Q } (start N_ask_row vs) H := by
  obtain ⟨a, ns, rfl, hS, q1, q2⟩ := h
  refine q_when (b := !decide (ns.length ∈ [1, 2, 4, 8, 16, 32])) (et_test (ev_is (ev_op (ev_lenM (ev_var rfl) hS) ev_c (rv_niT (hT H) rfl rfl)) (by rw [inV_six]))) (fun hb H1 e1 => ?_) (fun hb H1 e1 => ?_)
  · have hne := not_t hb
    exact q2 (fun z => hne z.1) H1 e1
  · have hlen := not_f hb
    refine s_forLn (xs := ns.map V.int) (ev_var rfl) (ex_l e1 hS) (fun i σ H' => (∃ y, σ = [some (.ref a), y]) ∧ Ex H H' ∧ ∀ k, k < i → ∀ x, ns[k]? = some x → -100000000000000000000 ≤ x ∧ x ≤ 100000000000000000000)
      (fun H2 e2 => ⟨⟨none, rfl⟩, e1.trans e2, fun k hk => absurd hk (Nat.not_lt_zero _)⟩) (fun i σ H' _ hp => ex_l hp.2.1 hS) (fun i x σ H' hx hp => ?_) (fun σ H' hp => ?_)
    · obtain ⟨⟨y, rfl⟩, ex, hh⟩ := hp
      obtain ⟨z, hz, rfl⟩ : ∃ z, ns[i]? = some z ∧ x = V.int z := by
        rw [List.getElem?_map] at hx
        cases e : ns[i]? with
        | none => rw [e] at hx; cases hx
        | some z => rw [e] at hx; exact ⟨z, rfl, (Option.some.inj hx).symm⟩
      refine s_when (b := !(decide (-100000000000000000000 ≤ z) && decide (z ≤ 100000000000000000000))) (et_not (et_test (ev_chain (ev_neg ev_c) (ev_var rfl) rv_le ev_c rv_le))) (fun hb2 H2 e2 => ?_) (fun hb2 H2 e2 => ?_)
      · refine q2 (fun r => ?_) H2 (ex.trans e2)
        have := r.2 z (List.mem_of_getElem? hz)
        simp [this.1, this.2] at hb2
      · refine ⟨⟨some (.int z), rfl⟩, ex.trans e2, fun k hk x hx => ?_⟩
        by_cases hki : k = i
        · rw [hki, hz] at hx
          cases hx
          simpa using hb2
        · exact hh k (by omega) x hx
    · obtain ⟨⟨y, rfl⟩, ex, hh⟩ := hp
      refine q1 ⟨hlen, fun x hx => ?_⟩ H' ex
      obtain ⟨k, hk⟩ := List.mem_iff_getElem?.mp hx
      refine hh k ?_ x hk
      rw [List.length_map]
      exact (List.getElem?_eq_some_iff.mp hk).1
end Sg
namespace Sg
open PySem PySem.Spec PyProof.Rows L2 Evl
/-- behind i places of a step -/
def half (w n i : Nat) (f : Nat → Int) (j : Nat) : Int := if j / w % 2 = 0 then (if j < i then f j + f (j + w) else f j) else (if j - w < i then f (j - w) - f j else f j)
theorem half_step {s k i : Nat} {f g : Nat → Int} (hs : s < 6) (hk : k < s) (hi : i < 2 ^ s) (hg : ∀ j, j < 2 ^ s → g j = half (2 ^ k) (2 ^ s) i f j) (he : i / 2 ^ k % 2 = 0) :
    ∀ j, j < 2 ^ s → (if j = i + 2 ^ k then f i - f (i + 2 ^ k) else if j = i then f i + f (i + 2 ^ k) else g j) = half (2 ^ k) (2 ^ s) (i + 1) f j := by
  intro j hj
  have ho : (i + 2 ^ k) / 2 ^ k % 2 = 1 := by
    rw [Nat.add_div_right _ (by exact Nat.two_pow_pos k)]
    omega
  unfold half
  by_cases h1 : j = i + 2 ^ k
  · rw [if_pos h1, h1, if_neg (by omega), if_pos (by omega)]
    rw [Nat.add_sub_cancel]
  · rw [if_neg h1]
    by_cases h2 : j = i
    · rw [if_pos h2, h2, if_pos he, if_pos (by omega)]
    · rw [if_neg h2, hg j hj]
      unfold half
      by_cases h3 : j / 2 ^ k % 2 = 0
      · rw [if_pos h3, if_pos h3]
        by_cases h4 : j < i
        · rw [if_pos h4, if_pos (by omega)]
        · rw [if_neg h4, if_neg (by omega)]
      · have := odd_ge h3
        rw [if_neg h3, if_neg h3]
        by_cases h4 : j - 2 ^ k < i
        · rw [if_pos h4, if_pos (by omega)]
        · rw [if_neg h4, if_neg (by omega)]
theorem half_skip {s k i : Nat} {f : Nat → Int} (hk : k < s) (he : ¬ i / 2 ^ k % 2 = 0) : ∀ j, half (2 ^ k) (2 ^ s) i f j = half (2 ^ k) (2 ^ s) (i + 1) f j := by
  intro j
  unfold half
  by_cases h3 : j / 2 ^ k % 2 = 0
  · rw [if_pos h3, if_pos h3]
    by_cases h4 : j < i
    · rw [if_pos h4, if_pos (by omega)]
    · have : j ≠ i := fun e => he (e ▸ h3)
      rw [if_neg h4, if_neg (by omega)]
  · have h5 := odd_ge h3
    rw [if_neg h3, if_neg h3]
    by_cases h4 : j - 2 ^ k < i
    · rw [if_pos h4, if_pos (by omega)]
    · have : j - 2 ^ k ≠ i := fun e => by
        have e2 : j = i + 2 ^ k := by omega
        rw [e2, Nat.add_div_right _ (Nat.two_pow_pos k)] at h3
        omega
      rw [if_neg h4, if_neg (by omega)]
theorem half_all {s k : Nat} {f : Nat → Int} : ∀ j, j < 2 ^ s → half (2 ^ k) (2 ^ s) (2 ^ s) f j = stepAt (2 ^ k) f j := by
  intro j hj
  unfold half stepAt
  by_cases h3 : j / 2 ^ k % 2 = 0
  · rw [if_pos h3, if_pos h3, if_pos hj]
  · rw [if_neg h3, if_neg h3, if_pos (Nat.lt_of_le_of_lt (Nat.sub_le _ _) hj)]
theorem pure_summed {K : PySem.W.Frag} (vs : List V) (H : Hp) (Q : VK) (E : XK) (h : sp_summed K vs H Q E) : t_summed K { nx := fun _ H' => Q .non H', rt := Q } (start N_summed vs) H := by
  obtain ⟨a, ns, rfl, hS, hlen, q⟩ := h
  obtain ⟨s, hs, hn⟩ := pow_of_mem hlen
  have h32 := pow_le32 hs
  let f : Nat → Int := fun j => ns.getD j 0
  refine q_asgL (xs := ns.map V.int) (el_list (ev_var rfl) hS) fun o H1 ho e1 h1 => ?_
  refine q_asg ev_c fun H2 e2 => ?_
  refine q_while (fun m σ H' => ∃ k, k ≤ s ∧ m = s - k ∧ ∃ (fp : Addr) (L : List Int) (y z : Option V), σ = [some (.ref a), some (.ref fp), some (.int ((2 ^ k : Nat) : Int)), y, z] ∧ H fp = none ∧ Ex H H' ∧ H' fp = some (.lst (L.map V.int)) ∧ L.length = 2 ^ s ∧ ∀ j, j < 2 ^ s → L.getD j 0 = fast k f j)
    s ⟨0, Nat.zero_le _, rfl, o, ns, none, none, rfl, ho, e1.trans e2, e2 o _ h1, hn, fun j _ => rfl⟩ (fun m σ H' hw => ?_)
  obtain ⟨k, hk, rfl, fp, L, y, z, rfl, hfp, ex, hH, hL, hj⟩ := hw
  refine ⟨decide (((2 ^ k : Nat) : Int) < L.length), et_test (ev_op (ev_var rfl) (ev_lenM (ev_var rfl) (sq_of hH)) rv_lt), fun hb H3 e3 => ?_, fun hb H3 e3 => ?_⟩
  · have hlt : 2 ^ k < 2 ^ s := by have := of_decide_eq_true hb; omega
    have hks : k < s := Nat.lt_of_not_le fun q => absurd (Nat.pow_le_pow_right (by decide : 0 < 2) q) (by omega)
    have hw1 : 0 < 2 ^ k := Nat.two_pow_pos k
    refine ⟨fun σ2 H2 => ∃ (fp : Addr) (L : List Int) (y z : Option V), σ2 = [some (.ref a), some (.ref fp), some (.int ((2 ^ (k + 1) : Nat) : Int)), y, z] ∧ H fp = none ∧ Ex H H2 ∧ H2 fp = some (.lst (L.map V.int)) ∧ L.length = 2 ^ s ∧ ∀ j, j < 2 ^ s → L.getD j 0 = fast (k + 1) f j,
      fun σ2 H2 hN => ⟨s - (k + 1), by omega, k + 1, by omega, rfl, hN⟩, ?_⟩
    have hH3 := e3 fp _ hH
    refine q_asgL (xs := L.map V.int) (el_list (ev_var rfl) (sq_of hH3)) fun l H4 hl e4 h4 => ?_
    have hlf : fp ≠ l := ne_of_none hH3 hl
    have hlH : H l = none := fresh_back (ex.trans e3) hl
    refine q_forR1 (n := ((2 ^ s : Nat) : Int)) (ea_cons (ev_is (ev_lenM (ev_var rfl) (sq_of (e4 fp _ hH3))) (by rw [hL])) ea_nil) ⟨by omega, by omega⟩
      (fun i σ H' => (∃ y, σ = [some (.ref a), some (.ref fp), some (.int ((2 ^ k : Nat) : Int)), some (.ref l), y]) ∧ Ex H H' ∧ H' fp = some (.lst (L.map V.int)) ∧ ∃ M : List Int, H' l = some (.lst (M.map V.int)) ∧ M.length = 2 ^ s ∧ ∀ j, j < 2 ^ s → M.getD j 0 = half (2 ^ k) (2 ^ s) i (fast k f) j)
      (fun H5 e5 => ⟨⟨z, rfl⟩, ((ex.trans e3).trans e4).trans e5, e5 fp _ (e4 fp _ hH3), L, e5 l _ h4, hL, fun j hj' => by rw [hj j hj']; unfold half; split <;> rw [if_neg (Nat.not_lt_zero _)]⟩) (fun i σ H' hi hp => ?_) (fun σ H' hp => ?_)
    · obtain ⟨⟨y', rfl⟩, ex', hf', M, hM, hMl, hMj⟩ := hp
      have hi1 : i < 2 ^ s := by omega
      have hdiv : ((i : Int) / ((2 ^ k : Nat) : Int) % 2 = 0) ↔ i / 2 ^ k % 2 = 0 := by
        rw [← Int.natCast_ediv]
        omega
      refine s_when (b := decide (i / 2 ^ k % 2 = 0)) (et_is (et_test (ev_op (ev_op (ev_op (ev_var rfl) (ev_var rfl) (rv_div (by omega) (by omega))) ev_c (rv_mod (by decide))) ev_c rv_eqI)) (decide_eq_decide.mpr hdiv)) (fun hb2 H5 e5 => ?_) (fun hb2 H5 e5 => ?_)
      · have he := of_decide_eq_true hb2
        have hiw := half_lt hs hks hi1 he
        have hf5 := e5 fp _ hf'
        have hM5 := e5 l _ hM
        refine q_setL (j := i) (v := .int (fast k f i + fast k f (i + 2 ^ k))) hM5 (ev_is (ev_op (ev_op (ev_var rfl) (ev_var rfl) (rv_ixN (sq_of hf5) rfl (by omega))) (ev_op (ev_var rfl) (ev_op (ev_var rfl) (ev_var rfl) rv_add) (rv_ixN (k := i + 2 ^ k) (sq_of hf5) (by omega) (by omega))) rv_add) (by rw [hj i hi1, hj _ hiw])) (ev_var rfl) (ev_var rfl) (by rw [List.length_map]; omega) fun H6 e6 => ?_
        have hf6 : (upd H6 l (.lst ((M.map V.int).set i (.int (fast k f i + fast k f (i + 2 ^ k)))))) fp = some (.lst (L.map V.int)) := by
          rw [upd_ne hlf]
          exact e6 fp _ hf5
        refine s_setL (j := i + 2 ^ k) (v := .int (fast k f i - fast k f (i + 2 ^ k))) upd_same (ev_is (ev_op (ev_op (ev_var rfl) (ev_var rfl) (rv_ixN (sq_of hf6) rfl (by omega))) (ev_op (ev_var rfl) (ev_op (ev_var rfl) (ev_var rfl) rv_add) (rv_ixN (k := i + 2 ^ k) (sq_of hf6) (by omega) (by omega))) rv_sub) (by rw [hj i hi1, hj _ hiw])) (ev_var rfl) (ev_is (ev_op (ev_var rfl) (ev_var rfl) rv_add) (by rw [Int.natCast_add])) (by rw [List.length_set, List.length_map]; omega) fun H7 e7 => ?_
        refine ⟨⟨some (.int i), rfl⟩, Ex.mut ((Ex.mut ((ex'.trans e5).trans e6) hlH).trans e7) hlH, ?_, (M.set i (fast k f i + fast k f (i + 2 ^ k))).set (i + 2 ^ k) (fast k f i - fast k f (i + 2 ^ k)), ?_, by rw [List.length_set, List.length_set, hMl], fun j hj' => ?_⟩
        · rw [upd_ne hlf]
          exact e7 fp _ hf6
        · rw [upd_same, List.map_set, List.map_set]
        · rw [getD_set (by rw [List.length_set]; omega), getD_set (by omega)]
          exact half_step hs hks hi1 hMj he j hj'
      · have he := of_decide_eq_false hb2
        exact ⟨⟨some (.int i), rfl⟩, ex'.trans e5, e5 fp _ hf', M, e5 l _ hM, hMl, fun j hj' => by rw [hMj j hj', half_skip hks he]⟩
    · obtain ⟨⟨y', rfl⟩, ex', hf', M, hM, hMl, hMj⟩ := hp
      refine q_asg (ev_var rfl) fun H5 e5 => ?_
      refine s_asg (ev_op ev_c (ev_var rfl) (rv_mul (a := 2) (b := 10) (by decide) (by omega) (by decide) (by decide) (by decide))) fun H6 e6 => ?_
      refine ⟨l, M, some (.ref l), y', ?_, hlH, (ex'.trans e5).trans e6, e6 l _ (e5 l _ hM), hMl, fun j hj' => ?_⟩
      · have e : (2 : Int) * ((2 ^ k : Nat) : Int) = ((2 ^ (k + 1) : Nat) : Int) := by
          rw [Nat.pow_succ]
          omega
        rw [e]
        rfl
      · rw [hMj j hj', Int.toNat_natCast, half_all j hj']
        rfl
  · have hge : ¬ 2 ^ k < 2 ^ s := by have := of_decide_eq_false hb; omega
    have hks : k = s := by
      refine Nat.le_antisymm hk (Nat.le_of_not_lt fun q => hge ?_)
      exact Nat.pow_lt_pow_right (by decide) q
    subst hks
    refine s_ret (ev_var rfl) fun H4 e4 => q fp H4 hfp ((ex.trans e3).trans e4) (e4 fp _ (e3 fp _ ?_))
    have eL : L = sumsL ns := by
      unfold sumsL
      rw [hn]
      refine ints_ext hL fun c hc => ?_
      rw [hj c hc]
      unfold sumAt
      rw [hn]
      refine fast_eq hs (fun j hj2 => ?_) hc
      show ns.getD j 0 = 0
      rw [List.getD_eq_getElem?_getD, List.getElem?_eq_none (by omega)] <;> rfl
    rw [← eL]
    exact hH
end Sg
namespace Sg
open PySem PySem.Spec PyProof.Rows L2 Evl
theorem pure_sums {K : PySem.W.Frag} (vs : List V) (H : Hp) (Q : VK) (E : XK) (h : sp_sums K vs H Q E) : t_sums K E { nx := fun _ H' => Q .non H', rt := Q } (start N_sums vs) H := by
  obtain ⟨a, ns, rfl, hS, q1, q2⟩ := h
  refine ⟨_, rfl, a, ns, rfl, hS, fun r H1 e1 => ?_, fun r H1 e1 => q2 r H1 e1⟩
  exact s_retL (xs := (sumsL ns).map V.int) (el_call1 (ev_var rfl) (spl fun H2 e2 Q2 E2 r2 => ⟨a, ns, rfl, ex_l (e1.trans e2) hS, r.1, r2⟩)) fun p H2 hp e2 h2 => q1 r p H2 (fresh_back e1 hp) (e1.trans e2) h2
end Sg
namespace Sg
open PySem PySem.Spec PyProof.Rows L2 Evl
theorem el_catS {σ : L2.St} {H : Hp} {ta tb : TE} {l : Addr} {xs zs : List V} (ha : Ev ta σ H (.ref l)) (hl : H l = some (.lst xs)) (hb : EvL tb σ H zs) (hz : xs.length + zs.length ≤ 100000) : EvL (tOp rCat ta tb) σ H (xs ++ zs) := fun H0 e0 Q q =>
  ha H0 e0 _ fun H1 e1 => hb H1 (e0.trans e1) _ fun p H2 np e2 hp => ⟨l, p, xs, zs, rfl, rfl, (e0.trans (e1.trans e2)) l _ hl, hp, sz_of hz, fun r hr => q r _ (fresh_back (e1.trans e2) hr) ((e1.trans e2).trans (Ex.new hr)) upd_same⟩
theorem row_abs {ns : List Int} (h : IsRow ns) : ∀ x ∈ ns, x.natAbs < 2 ^ 67 := fun x hx => by
  have := h.2 x hx
  omega
theorem pure_tied {K : PySem.W.Frag} (vs : List V) (H : Hp) (Q : VK) (E : XK) (h : sp_tied K vs H Q E) : t_tied K E { nx := fun _ H' => Q .non H', rt := Q } (start N_tied vs) H := by
  obtain ⟨a, b, ns, ms, rfl, hS, hT, q1, q2, q3⟩ := h
  refine ⟨_, rfl, a, ns, rfl, hS, fun r1 H1 e1 => ?_, fun n H1 e1 => q3 (fun z => n z.1) H1 e1⟩
  have hS1 := ex_l e1 hS
  have hT1 := ex_l e1 hT
  refine ⟨_, rfl, b, ms, rfl, hT1, fun r2 H2 e2 => ?_, fun n H2 e2 => q3 (fun z => n z.2) H2 (e1.trans e2)⟩
  have hS2 := ex_l e2 hS1
  have hT2 := ex_l e2 hT1
  have p1 := row_pos r1
  have p2 := row_pos r2
  dsimp only
  refine q_when (b := decide ((32 : Int) < (ns.length : Int) * (ms.length : Int))) (et_test (ev_op (ev_op (ev_lenS (evs_var rfl hS2)) (ev_lenS (evs_var rfl hT2)) (rv_mul (a := 6) (b := 6) (by omega) (by omega) (by decide) (by decide) (by decide))) ev_c rv_gt)) (fun hb H3 e3 => ?_) (fun hb H3 e3 => ?_)
  · have hb := of_decide_eq_true hb
    exact q2 r1 r2 (fun z => by
      have : ((ns.length * ms.length : Nat) : Int) = (ns.length : Int) * (ms.length : Int) := Int.natCast_mul _ _
      omega) H3 ((e1.trans e2).trans e3)
  · have hb := of_decide_eq_false hb
    have hle : ns.length * ms.length ≤ 32 := by
      have : ((ns.length * ms.length : Nat) : Int) = (ns.length : Int) * (ms.length : Int) := Int.natCast_mul _ _
      omega
    have hS3 := ex_l e3 hS2
    have hT3 := ex_l e3 hT2
    refine q_asgL (el_lst ea_nil (by decide)) fun o H4 no e4 h4 => ?_
    refine q_forLn (xs := ms.map V.int) (ev_var rfl) (ex_l e4 hT3) (fun i σ H' => ∃ (p : Addr) (y : Option V), σ = [some (.ref a), some (.ref b), some (.ref p), y, none] ∧ Ex H3 H' ∧ H3 p = none ∧ H' p = some (.lst ((tieN ns ms i).map V.int)))
      (fun H5 e5 => ⟨o, none, rfl, e4.trans e5, no, by rw [tieN_zero]; exact e5 o _ h4⟩) (fun i σ H' _ hp => by
        obtain ⟨p, y, rfl, ex, np, hH⟩ := hp
        exact ex_l ex hT3) (fun i x σ H' hx hp => ?_) (fun σ H' hp => ?_)
    · obtain ⟨p, y, rfl, ex, np, hH⟩ := hp
      obtain ⟨d, hd, rfl⟩ := int_of_map hx
      have hi : i < ms.length := (List.getElem?_eq_some_iff.mp hd).1
      have ed : ms.getD i 0 = d := by rw [List.getD_eq_getElem?_getD, hd] <;> rfl
      have hil : i * ns.length ≤ 32 * 32 := Nat.mul_le_mul (by omega) (by omega)
      refine s_asgL (xs := (tieN ns ms (i + 1)).map V.int) (by
        rw [tieN_succ, List.map_append, List.map_map]
        refine el_catS (ev_var rfl) hH (el_mapS (fun x => .int (x * ms.getD i 0)) (evs_var rfl (ex_l ex hS3)) (by omega) (fun _ => rfl) fun n hn H5 e5 => ?_) ?_
        · rw [ed]
          exact ev_op (ev_var rfl) (ev_var rfl) (rv_mul (row_abs r1 n hn) (row_abs r2 d (List.mem_of_getElem? hd)) (by decide) (by decide) (by decide))
        · unfold tieN
          rw [List.length_map, List.length_map, List.length_range, List.length_map]
          omega) fun p2 H5 np2 e5 h5 => ?_
      exact ⟨p2, some (.int d), rfl, ex.trans e5, fresh_back ex np2, h5⟩
    · obtain ⟨p, y, rfl, ex, np, hH⟩ := hp
      rw [List.length_map] at hH
      exact s_ret (ev_var rfl) fun H6 e6 => q1 r1 r2 hle p H6 (fresh_back ((e1.trans e2).trans e3) np) (((e1.trans e2).trans e3).trans (ex.trans e6)) (e6 p _ hH)
end Sg
namespace Sg
open PySem PySem.Spec PyProof.Rows L2 Evl
/-! ### the readings of the law's helpers -/
theorem pure_law_cell_at {K : PySem.W.Frag} (vs : List V) (H : Hp) (Q : VK) (E : XK) (h : sp_law_cell_at K vs H Q E) : t_law_cell_at K { nx := fun _ H' => Q .non H', rt := Q } (start N__law_cell_at vs) H := by
  obtain ⟨a, ns, k, rfl, hS, q⟩ := h
  refine q_when (b := decide ((k : Int) < ns.length)) (et_test (ev_op (ev_var rfl) (ev_lenM (ev_var rfl) hS) rv_lt)) (fun hb H1 e1 => ?_) (fun hb H1 e1 => ?_)
  · have hk : k < ns.length := by have := of_decide_eq_true hb; omega
    exact s_ret (ev_op (ev_var rfl) (ev_var rfl) (rv_ixN (ex_l e1 hS) rfl hk)) fun H2 e2 => q H2 (e1.trans e2)
  · have hk : ¬ k < ns.length := by have := of_decide_eq_false hb; omega
    have e0 : cellAt ns k = 0 := by
      unfold cellAt
      rw [List.getD_eq_getElem?_getD, List.getElem?_eq_none (by omega)] <;> rfl
    rw [e0] at q
    exact s_ret ev_c fun H2 e2 => q H2 (e1.trans e2)
end Sg
namespace Sg
open PySem PySem.Spec PyProof.Rows L2 Evl
theorem pure_law_whole {K : PySem.W.Frag} (vs : List V) (H : Hp) (Q : VK) (E : XK) (h : sp_law_whole K vs H Q E) : t_law_whole K { nx := fun _ H' => Q .non H', rt := Q } (start N__law_whole vs) H := by
  obtain ⟨i, rfl, q⟩ := h
  exact s_ret (ev_andV (a := true) (b := true) (ev_isint (ev_var rfl)) fun _ => ev_notV (a := false) (ev_isbool (ev_var rfl))) fun H2 e2 => q H2 e2
end Sg
namespace Sg
open PySem PySem.Spec PyProof.Rows L2 Evl
theorem pure_law_next {K : PySem.W.Frag} (vs : List V) (H : Hp) (Q : VK) (E : XK) (h : sp_law_next K vs H Q E) : t_law_next K { nx := fun _ H' => Q .non H', rt := Q } (start N__law_next vs) H := by
  obtain ⟨i, rfl, q⟩ := h
  refine q_asg (ev_op (ev_op (ev_var rfl) ev_c rv_add) ev_c (rv_mod (by decide))) fun H1 e1 => ?_
  have b1 : ((i + 7919) % 2147483647).natAbs < 2 ^ 40 := by omega
  refine s_ret (ev_op (ev_op (ev_op (ev_op (ev_var rfl) (ev_var rfl) (rv_mul b1 b1 (by decide) (by decide) (by decide))) (ev_op ev_c (ev_var rfl) (rv_mul (a := 20) (by decide) b1 (by decide) (by decide) (by decide))) rv_add) ev_c rv_add) ev_c (rv_mod (by decide))) fun H2 e2 => ?_
  exact q H2 (e1.trans e2)
end Sg
namespace Sg
open PySem PySem.Spec PyProof.Rows L2 Evl
theorem pure_law_row {K : PySem.W.Frag} (vs : List V) (H : Hp) (Q : VK) (E : XK) (h : sp_law_row K vs H Q E) : t_law_row K { nx := fun _ H' => Q .non H', rt := Q } (start N__law_row vs) H := by
  obtain ⟨c, s, w, g, rfl, hs, hg, hg2, q⟩ := h
  have h32 : 2 ^ s ≤ 32 := by
    rcases pow_cases hs with rfl | rfl | rfl | rfl | rfl | rfl <;> decide
  have ha := at_six hs
  generalize 2 ^ s = n at ha h32 q
  refine q_asgL (el_lst ea_nil (by decide)) fun o H1 ho e1 h1 => ?_
  refine q_forR1 (n := (n : Int)) (ea_cons (ev_tab el_six (ev_var rfl) ha) ea_nil) ⟨by omega, by omega⟩
    (fun i σ H' => (∃ y z, σ = [some (.int (lawCell c i)), some (.int s), some (.int w), some (.int g), some (.ref o), y, z]) ∧ Ex H H' ∧ H' o = some (.lst (((lawRow c n w g).take i).map V.int)))
    (fun H2 e2 => ⟨⟨none, none, rfl⟩, e1.trans e2, e2 o _ h1⟩) (fun i σ H' hi hp => ?_) (fun σ H' hp => ?_)
  · obtain ⟨⟨y, z, rfl⟩, ex, hH⟩ := hp
    have hi1 : i < n := by omega
    have hbd := lawCell_bd c i
    refine q_asg (v := .int (lawCell c (i + 1))) (ev_call1 (ev_op (ev_op (ev_var rfl) ev_c (rv_mod (by decide))) (ev_op ev_c (ev_var rfl) (rv_mul (a := 5) (b := 6) (by decide) (by omega) (by decide) (by decide) (by decide))) rv_add) (spv fun H3 _ Q3 E3 q3 => ⟨_, rfl, q3⟩)) fun H2 e2 => ?_
    generalize hc : lawCell c (i + 1) = cell at hbd ⊢
    refine q_asg (v := .int (cell / 7 % 2000001 - 1000000)) (ev_op (ev_op (ev_op (ev_var rfl) ev_c (rv_div (by decide) (by decide))) ev_c (rv_mod (by decide))) ev_c rv_sub) fun H3 e3 => ?_
    have bn : (cell / 7 % 2000001 - 1000000).natAbs < 2 ^ 21 := by omega
    have bg : g.natAbs < 2 ^ 60 := by omega
    have b64 : (cell / 64 % g).natAbs < 2 ^ 60 := by
      have z1 := Int.emod_nonneg (cell / 64) (show g ≠ 0 by omega)
      have z2 := Int.emod_lt_of_pos (cell / 64) hg
      generalize cell / 64 % g = z at z1 z2
      omega
    refine q_ifAsg (b := decide (w / 4 % 2 = 1)) (v := .int (num1 cell w g)) (et_test (ev_op (ev_op (ev_op (ev_var rfl) ev_c (rv_div (by decide) (by decide))) ev_c (rv_mod (by decide))) ev_c rv_eqI)) (fun hb => ?_) (fun hb => ?_) fun H4 e4 => ?_
    · refine ev_is (ev_op (ev_op (ev_var rfl) (ev_var rfl) (rv_mul bn bg (by decide) (by decide) (by decide))) (ev_op (ev_op ev_c (ev_op ev_c (ev_int1b (ev_op (ev_var rfl) ev_c rv_lt)) (rv_mul (a := 2) (b := 2) (by decide) (by split <;> decide) (by decide) (by decide) (by decide))) rv_sub) (ev_op (ev_op (ev_var rfl) ev_c (rv_div (by decide) (by decide))) (ev_var rfl) (rv_mod hg)) (rv_mul (a := 2) (by split <;> decide) b64 (by decide) (by decide) (by decide))) rv_add) ?_
      unfold num1
      rw [if_pos (of_decide_eq_true hb)]
      simp only [decide_eq_true_eq]
    · unfold num1
      rw [if_neg (of_decide_eq_false hb)]
      rfl
    generalize hn1 : num1 cell w g = n1
    refine q_ifAsg (b := decide (w % 4 = 0)) (v := .int (num2 cell w n1)) (et_test (ev_op (ev_op (ev_var rfl) ev_c (rv_mod (by decide))) ev_c rv_eqI)) (fun hb => ?_) (fun hb => ?_) fun H5 e5 => ?_
    · refine ev_is (ev_op ev_c (ev_op ev_c (ev_op (ev_op (ev_var rfl) ev_c (rv_div (by decide) (by decide))) ev_c (rv_mod (by decide))) (rv_mul (a := 2) (b := 2) (by decide) (by omega) (by decide) (by decide) (by decide))) rv_sub) ?_
      unfold num2
      rw [if_pos (of_decide_eq_true hb)]
    · unfold num2
      rw [if_neg (of_decide_eq_false hb)]
      rfl
    generalize hn2 : num2 cell w n1 = n2
    refine q_ifAsg (b := decide (w % 4 = 1)) (v := .int (num3 cell w n2)) (et_test (ev_op (ev_op (ev_var rfl) ev_c (rv_mod (by decide))) ev_c rv_eqI)) (fun hb => ?_) (fun hb => ?_) fun H6 e6 => ?_
    · refine ev_is (ev_op (ev_op (ev_op (ev_var rfl) ev_c (rv_div (by decide) (by decide))) ev_c (rv_mod (by decide))) ev_c rv_sub) ?_
      unfold num3
      rw [if_pos (of_decide_eq_true hb)]
    · unfold num3
      rw [if_neg (of_decide_eq_false hb)]
      rfl
    generalize hn3 : num3 cell w n2 = n3
    refine q_ifAsg (b := decide (w % 4 = 3) && decide (0 < cell / 14000007 % 3)) (v := .int (num4 cell w n3)) (et_and (et_test (ev_op (ev_op (ev_var rfl) ev_c (rv_mod (by decide))) ev_c rv_eqI)) (fun _ => et_test (ev_op (ev_op (ev_op (ev_var rfl) ev_c (rv_div (by decide) (by decide))) ev_c (rv_mod (by decide))) ev_c rv_gt))) (fun hb => ?_) (fun hb => ?_) fun H7 e7 => ?_
    · refine ev_is ev_c ?_
      unfold num4
      rw [if_pos (by simpa using hb)]
    · unfold num4
      rw [if_neg (by simpa using hb)]
      rfl
    generalize hn4 : num4 cell w n3 = n4
    have eH : H7 o = some (.lst (((lawRow c n w g).take i).map V.int)) := e7 o _ (e6 o _ (e5 o _ (e4 o _ (e3 o _ (e2 o _ hH)))))
    refine s_app eH (ev_var rfl) (ev_var (v := .int n4) rfl) (by rw [List.length_map, List.length_take]; omega) fun H8 e8 => ?_
    refine ⟨⟨some (.int i), some (.int n4), ?_⟩, Ex.mut ((((((((ex.trans e2).trans e3).trans e4).trans e5).trans e6).trans e7)).trans e8) ho, ?_⟩
    · rfl
    · rw [upd_same]
      have en : lawNum (lawCell c (i + 1)) w g = n4 := by
        unfold lawNum
        rw [hc, hn1, hn2, hn3, hn4]
      unfold lawRow
      rw [range_take _ hi1, en]
  · obtain ⟨⟨y, z, rfl⟩, ex, hH⟩ := hp
    refine s_ret (ev_var rfl) fun H2 e2 => q o H2 ho (ex.trans e2) (e2 o _ ?_)
    rw [hH, Int.toNat_natCast]
    unfold lawRow
    rw [range_take_all]
end Sg
namespace Sg
open PySem PySem.Spec PyProof.Rows L2 Evl
theorem pure_law_alike {K : PySem.W.Frag} (vs : List V) (H : Hp) (Q : VK) (E : XK) (h : sp_law_alike K vs H Q E) : t_law_alike K { nx := fun _ H' => Q .non H', rt := Q } (start N__law_alike vs) H := by
  obtain ⟨a, b, ns, ms, rfl, hS, hT, hl, q⟩ := h
  refine q_when (b := !decide ((ns.length : Int) = ms.length)) (et_is (et_or (et_not (et_B (ev_islist (ev_var rfl) hS))) (fun _ => et_test (ev_op (ev_lenM (ev_var rfl) hS) (ev_lenM (ev_var rfl) hT) rv_neI))) (by rfl)) (fun hb H1 e1 => ?_) (fun hb H1 e1 => ?_)
  · have hne : ¬ ns = ms := fun e => by
      rw [e, decide_eq_true rfl] at hb
      cases hb
    rw [decide_eq_false hne] at q
    exact s_ret ev_c fun H2 e2 => q H2 (e1.trans e2)
  · have hlen : ns.length = ms.length := by
      have : (ns.length : Int) = ms.length := by simpa using hb
      omega
    refine q_forR1 (n := (ms.length : Int)) (ea_cons (ev_lenM (ev_var rfl) (ex_l e1 hT)) ea_nil) ⟨by omega, by omega⟩
      (fun i σ H' => (∃ y, σ = [some (.ref a), some (.ref b), y]) ∧ Ex H H' ∧ ∀ k, k < i → ns.getD k 0 = ms.getD k 0)
      (fun H2 e2 => ⟨⟨none, rfl⟩, e1.trans e2, fun k hk => absurd hk (Nat.not_lt_zero _)⟩) (fun i σ H' hi hp => ?_) (fun σ H' hp => ?_)
    · obtain ⟨⟨y, rfl⟩, ex, hh⟩ := hp
      have hi2 : i < ms.length := by omega
      have hi1 : i < ns.length := by omega
      refine s_when (b := !decide (ns.getD i 0 = ms.getD i 0)) (et_is (et_or (et_not (et_B (ev_call1 (z := .bl true) (ev_op (ev_var rfl) (ev_var rfl) (rv_ixN (ex_l ex hS) rfl hi1)) (spv fun H3 _ Q3 E3 q3 => ⟨_, rfl, q3⟩)))) (fun _ => et_test (ev_op (ev_op (ev_var rfl) (ev_var rfl) (rv_ixN (ex_l ex hS) rfl hi1)) (ev_op (ev_var rfl) (ev_var rfl) (rv_ixN (ex_l ex hT) rfl hi2)) rv_neI))) (by rfl)) (fun hb2 H2 e2 => ?_) (fun hb2 H2 e2 => ?_)
      · have hne : ¬ ns = ms := fun e => by
          rw [e, decide_eq_true rfl] at hb2
          cases hb2
        rw [decide_eq_false hne] at q
        exact s_ret ev_c fun H3 e3 => q H3 ((ex.trans e2).trans e3)
      · refine ⟨⟨some (.int i), rfl⟩, ex.trans e2, fun k hk => ?_⟩
        by_cases hki : k = i
        · rw [hki]
          simpa using hb2
        · exact hh k (by omega)
    · obtain ⟨⟨y, rfl⟩, ex, hh⟩ := hp
      have he : ns = ms := by
        refine List.ext_getElem hlen fun k h1 h2 => ?_
        have z := hh k (by simpa using h2)
        rwa [List.getD_eq_getElem?_getD, List.getD_eq_getElem?_getD, List.getElem?_eq_getElem h1, List.getElem?_eq_getElem h2] at z
      rw [decide_eq_true he] at q
      exact s_ret ev_c fun H3 e3 => q H3 (ex.trans e3)
end Sg
namespace Sg
open PySem PySem.Spec PyProof.Rows L2 Evl
section
variable {K : PySem.W.Frag} {σ : L2.St} {H : Hp} {ta tb te : TE}
theorem el_cat {l : Addr} {xs zs : List V} (ha : Ev ta σ H (.ref l)) (hl : H l = some (.lst xs)) (hb : EvL tb σ H zs) (hz : xs.length + zs.length ≤ 100000) : EvL (tOp rCat ta tb) σ H (xs ++ zs) := fun H0 e0 Q q =>
  ha H0 e0 _ fun H1 e1 => hb H1 (e0.trans e1) _ fun p H2 np e2 hp => ⟨l, p, xs, zs, rfl, rfl, (e0.trans (e1.trans e2)) l _ hl, hp, sz_of hz, fun r hr => q r _ (fresh_back (e1.trans e2) hr) ((e1.trans e2).trans (Ex.new hr)) upd_same⟩
theorem ev_isE {D a : Addr} {c : V} {cv : Value} {b : Bool} {i : Nat} (h : σ[i]? = some (some (.ref a))) (hc : ∀ u, RelV c u → u = cv) (hk : PySem.W.kitOne K (.ref D) cv = some b) : Ev (tCB (rIsE K D a) (tCons (tVar i) (tCons (tC c) tNil))) σ H (.bl b) := fun H1 e Q q =>
  ⟨_, h, c, cv, b, rfl, hc, hk, q H1 (Ex.refl H1)⟩
theorem ev_countV {l : Addr} {xs : List V} {y : V} {n : Nat} (ha : Ev ta σ H (.ref l)) (hl : SqL K H l xs) (hb : Ev tb σ H y) (fy : flatV y = true) (fx : xs.all flatV = true) (hn : (xs.countP fun z => eqV z y) = n) : Ev (tBM K "list" (rCountV K) ta (tCons tb tNil)) σ H (.int (n : Int)) := fun H0 e0 Q q =>
  ha H0 e0 _ fun H1 e1 => ⟨Or.inl ⟨rfl, xs, ex_l (e0.trans e1) hl⟩, hb H1 (e0.trans e1) _ fun H2 e2 => ⟨l, xs, y, rfl, rfl, ex_l ((e0.trans e1).trans e2) hl, fy, fx, by
    rw [hn]
    exact q H2 (e1.trans e2)⟩⟩
theorem ev_indexV {l : Addr} {xs : List V} {y z : V} {j : Nat} (ha : Ev ta σ H (.ref l)) (hl : SqL K H l xs) (hb : Ev tb σ H y) (fy : flatV y = true) (fx : xs.all flatV = true) (hj : xs[j]? = some z) (hz : eqV z y = true) (hno : ∀ (m : Nat) (z' : V), m < j → xs[m]? = some z' → eqV z' y = false) :
    Ev (tBM K "list" (rIndex K) ta (tCons tb tNil)) σ H (.int (j : Int)) := fun H0 e0 Q q =>
  ha H0 e0 _ fun H1 e1 => ⟨Or.inl ⟨rfl, xs, ex_l (e0.trans e1) hl⟩, hb H1 (e0.trans e1) _ fun H2 e2 => ⟨l, xs, y, j, z, rfl, rfl, ex_l ((e0.trans e1).trans e2) hl, fy, fx, hj, hz, hno, q H2 (e1.trans e2)⟩⟩
end
def kindBs (c : Str) : List Bool := [c == "NoRow", c == "NoSums", c == "NoMatch", c == "TooLong", c == "NoStep", c == "NoSigns", c == "NoChoice", c == "NoFlat", c == "NoNote"]
def kindWs : List V := [.str "row", .str "sums", .str "match", .str "long", .str "step", .str "signs", .str "choice", .str "flat", .str "note"]
theorem kind_flat (bs : List Bool) : (bs.map V.bl).all flatV = true := by
  rw [List.all_map]
  exact List.all_eq_true.mpr fun _ _ => rfl
def oneHot (j : Nat) : List Bool := (List.range 9).map (fun i => i == j)
theorem kind_at {c t : Str} (h : (c, t) ∈ kindTab) : ∃ j, j < 9 ∧ kindBs c = oneHot j ∧ kindWs[j]? = some (.str t) := by
  unfold kindTab at h
  simp only [List.mem_cons, List.not_mem_nil, or_false, Prod.mk.injEq] at h
  rcases h with ⟨rfl, rfl⟩ | ⟨rfl, rfl⟩ | ⟨rfl, rfl⟩ | ⟨rfl, rfl⟩ | ⟨rfl, rfl⟩ | ⟨rfl, rfl⟩ | ⟨rfl, rfl⟩ | ⟨rfl, rfl⟩ | ⟨rfl, rfl⟩
  · exact ⟨0, by decide, by decide +kernel, rfl⟩
  · exact ⟨1, by decide, by decide +kernel, rfl⟩
  · exact ⟨2, by decide, by decide +kernel, rfl⟩
  · exact ⟨3, by decide, by decide +kernel, rfl⟩
  · exact ⟨4, by decide, by decide +kernel, rfl⟩
  · exact ⟨5, by decide, by decide +kernel, rfl⟩
  · exact ⟨6, by decide, by decide +kernel, rfl⟩
  · exact ⟨7, by decide, by decide +kernel, rfl⟩
  · exact ⟨8, by decide, by decide +kernel, rfl⟩
theorem hot_count : ∀ j, j < 9 → (((oneHot j).map V.bl).countP fun z => eqV z (.bl true)) = 1 := by decide
theorem hot_at {j : Nat} (h : j < 9) : ((oneHot j).map V.bl)[j]? = some (.bl true) := by
  unfold oneHot
  rw [List.getElem?_map, List.getElem?_map, List.getElem?_range h]
  show some (V.bl (j == j)) = _
  rw [beq_self_eq_true]
theorem hot_no {j : Nat} (h : j < 9) (m : Nat) (z : V) (hm : m < j) (hz : ((oneHot j).map V.bl)[m]? = some z) : eqV z (.bl true) = false := by
  unfold oneHot at hz
  rw [List.getElem?_map, List.getElem?_map, List.getElem?_range (by omega)] at hz
  cases hz
  show eqV (V.bl (m == j)) (.bl true) = false
  rw [beq_eq_false_iff_ne.mpr (by omega)] <;> rfl
theorem kind_in {x y : Str} {j : Nat} (h : kindTab[j]? = some (x, y)) : (x, y) ∈ kindTab := List.mem_of_getElem? h
theorem pure_law_kind {K : PySem.W.Frag} (T : KindsOk K) (c : Str) (a : Addr) (t : Str) (hc : (c, t) ∈ kindTab) (H : Hp) (Q : VK) (E : XK) (q : RetV (.str t) H Q) : t_law_kind K (He.ga K c) a { nx := fun _ H' => Q .non H', rt := Q } (start N__law_kind [.ref a]) H := by
  have rel : ∀ (x : Addr) (u : Value), RelV (.ref x) u → u = .ref x := fun _ _ h => h
  have one : ∀ {σ : L2.St} {H : Hp} {x y : Str} (j : Nat), σ[0]? = some (some (.ref a)) → kindTab[j]? = some (x, y) → Ev (tCB (rIsE K (He.ga K c) a) (tCons (tVar 0) (tCons (tC (.ref (He.ga K x))) tNil))) σ H (.bl (c == x)) := fun {σ H x y} j hσ hj =>
    ev_isE hσ (rel _) (T.is (c, t) hc (x, y) (kind_in hj))
  obtain ⟨j, hj, hb, hw⟩ := kind_at hc
  refine q_asgL (xs := [.bl (c == "NoRow"), .bl (c == "NoSums"), .bl (c == "NoMatch"), .bl (c == "TooLong")]) (el_lst (ea_cons (one 0 rfl rfl) (ea_cons (one 1 rfl rfl) (ea_cons (one 2 rfl rfl) (ea_cons (one 3 rfl rfl) ea_nil)))) (by show 4 ≤ 100000; decide)) fun p H1 np e1 h1 => ?_
  refine q_asgL (el_cat (ev_var rfl) h1 (zs := [.bl (c == "NoStep"), .bl (c == "NoSigns"), .bl (c == "NoChoice"), .bl (c == "NoFlat")]) (el_lst (ea_cons (one 4 rfl rfl) (ea_cons (one 5 rfl rfl) (ea_cons (one 6 rfl rfl) (ea_cons (one 7 rfl rfl) ea_nil)))) (by show 4 ≤ 100000; decide)) (by show 4 + 4 ≤ 100000; decide)) fun r H2 nr e2 h2 => ?_
  refine q_app h2 (ev_var rfl) (one 8 rfl rfl) (by show 8 < 100000; decide) fun H3 e3 => ?_
  have hl : (upd H3 r (.lst (([.bl (c == "NoRow"), .bl (c == "NoSums"), .bl (c == "NoMatch"), .bl (c == "TooLong")] ++ [.bl (c == "NoStep"), .bl (c == "NoSigns"), .bl (c == "NoChoice"), .bl (c == "NoFlat")]) ++ [.bl (c == "NoNote")]))) r = some (.lst ((oneHot j).map V.bl)) := by
    rw [upd_same, ← hb]
    rfl
  have ex0 : Ex H (upd H3 r (.lst (([.bl (c == "NoRow"), .bl (c == "NoSums"), .bl (c == "NoMatch"), .bl (c == "TooLong")] ++ [.bl (c == "NoStep"), .bl (c == "NoSigns"), .bl (c == "NoChoice"), .bl (c == "NoFlat")]) ++ [.bl (c == "NoNote")]))) := Ex.mut ((e1.trans e2).trans e3) (fresh_back e1 nr)
  revert hl ex0
  generalize upd H3 r (.lst (([.bl (c == "NoRow"), .bl (c == "NoSums"), .bl (c == "NoMatch"), .bl (c == "TooLong")] ++ [.bl (c == "NoStep"), .bl (c == "NoSigns"), .bl (c == "NoChoice"), .bl (c == "NoFlat")]) ++ [.bl (c == "NoNote")])) = H4
  intro hl ex0
  have ve : ∀ u, RelV (.ty "ValueError") u → u = .type "ValueError" := fun _ h => h
  refine q_when (b := false) (et_is (et_or (et_not (et_B (ev_isE (by rfl) ve (T.ve (c, t) hc)))) fun _ => et_test (ev_op (ev_countV (ev_var rfl) (sq_of hl) ev_c rfl (kind_flat _) (hot_count j hj)) ev_c rv_neI)) rfl) (fun hb => nomatch hb) (fun _ H5 e5 => ?_)
  refine s_ret (ev_tab (xs := kindWs) (i := (j : Int)) (el_lst (ea_cons ev_c (ea_cons ev_c (ea_cons ev_c (ea_cons ev_c (ea_cons ev_c (ea_cons ev_c (ea_cons ev_c (ea_cons ev_c (ea_cons ev_c ea_nil))))))))) (by decide)) (ev_indexV (ev_var rfl) (ex_l e5 (sq_of hl)) ev_c rfl (kind_flat _) (hot_at hj) rfl (hot_no hj)) (atI_nat hw)) fun H6 e6 => q H6 ((ex0.trans e5).trans e6)
end Sg
namespace Sg
open PySem PySem.Spec PyProof.Rows L2 Evl
theorem pure_law_tried {K : PySem.W.Frag} (c1 : PySem.W.exmOne K (.ref (He.ga K "TooLong")) (.ref (He.ga K "SignError")) = some true) (c2 : PySem.W.exmOne K (.ref (He.ga K "NoRow")) (.ref (He.ga K "SignError")) = some true) (vs : List V) (H : Hp) (Q : VK) (E : XK) (h : sp_law_tried K vs H Q E) : t_law_tried K { nx := fun _ H' => Q .non H', rt := Q } (start N__law_tried vs) H := by
  obtain ⟨a, b, ns, ms, rfl, hS, hT, hr, hr2, q1, q2⟩ := h
  refine ⟨_, rfl, _, rfl, a, b, ns, ms, rfl, hS, hT, fun _ _ hs l H1 nl e1 h1 => ?_, fun _ _ hs H1 e1 => ?_, fun n => absurd ⟨hr, hr2⟩ n⟩
  · exact ⟨by show 2 ≤ sizeLine; decide, fun p np => q1 hs l p _ nl (fresh_back e1 np) (e1.trans (Ex.new np)) (Ex.new np l _ h1) upd_same⟩
  · refine ⟨true, c1, fun _ x nx => ?_, fun z => nomatch z⟩
    refine ⟨_, rfl, rfl, _, _, rfl, rfl, ⟨"TooLong", kind_in (j := 3) rfl, rfl⟩, fun H2 e2 => ?_⟩
    exact ⟨by show 2 ≤ sizeLine; decide, fun p np => q2 hs p _ (fresh_back (e1.trans e2) np) ((e1.trans e2).trans (Ex.new np)) upd_same⟩
theorem more_at (i j : Int) {s : Nat} (h : s < 6) : ∃ m : Nat, m ≤ 5 ∧ i % (6 - (s : Int)) + (if decide (j % 6 = 1) = true then 1 else 0) * (s : Int) = (m : Int) := by
  have h1 := Int.emod_nonneg i (show (6 - (s : Int)) ≠ 0 by omega)
  have h2 := Int.emod_lt_of_pos i (show (0 : Int) < 6 - (s : Int) by omega)
  by_cases hj : j % 6 = 1
  · rw [decide_eq_true hj, if_pos rfl]
    exact ⟨(i % (6 - (s : Int)) + s).toNat, by omega, by omega⟩
  · rw [decide_eq_false hj]
    exact ⟨(i % (6 - (s : Int))).toNat, by omega, by rw [if_neg (by decide)]; omega⟩
theorem pow_two_le {s t : Nat} (h : s + t ≤ 5) : 2 ^ s * 2 ^ t ≤ 32 := by
  rw [← Nat.pow_add]
  exact Nat.pow_le_pow_right (by decide) h
theorem pow_two_gt {s t : Nat} (h : 5 < s + t) : ¬ 2 ^ s * 2 ^ t ≤ 32 := by
  rw [← Nat.pow_add]
  have : 2 ^ 6 ≤ 2 ^ (s + t) := Nat.pow_le_pow_right (by decide) h
  omega
theorem tieN_swap (ns ms : List Int) (k : Nat) : tieN ns ms (k + 1) = tieN ns ms k ++ (List.range ns.length).map fun i => ns.getD i 0 * ms.getD k 0 := by
  rw [tieN_succ, map_eq_range ns]
theorem pure_law {K : PySem.W.Frag} (vs : List V) (H : Hp) (Q : VK) (E : XK) (h : sp_law K vs H Q E) : t_law K { nx := fun _ H' => Q .non H', rt := Q } (start N_law vs) H := by
  obtain ⟨a, ns, rfl, hS, hl, q⟩ := h
  obtain ⟨s, hs, es⟩ := mod_at3 (cellAt ns 0) 6 (by decide)
  refine q_asg (v := .int (s : Int)) (ev_is (ev_op (ev_cell (k := 0) (ev_var rfl) ev_c hS) ev_c (rv_mod (by decide))) (congrArg V.int es)) fun H1 e1 => ?_
  have hS1 := ex_l e1 hS
  obtain ⟨t, ht, et⟩ := more_at (cellAt ns 1) (cellAt ns 6) hs
  refine q_asg (v := .int (t : Int)) (ev_is (ev_op (ev_op (ev_cell (k := 1) (ev_var rfl) ev_c hS1) (ev_op ev_c (ev_var rfl) rv_sub) (rv_mod (by omega))) (ev_op (ev_int1b (ev_op (ev_op (ev_cell (k := 6) (ev_var rfl) ev_c hS1) ev_c (rv_mod (by decide))) ev_c rv_eqI)) (ev_var rfl) (rv_mul (a := 2) (b := 4) (by split <;> decide) (by omega) (by decide) (by decide) (by decide))) rv_add) (congrArg V.int et)) fun H2 e2 => ?_
  have hS2 := ex_l e2 hS1
  refine q_asgL (el_law_row (g := 999) (s := s) (ev_cell (k := 2) (ev_var rfl) ev_c hS2) (ev_var rfl) (ev_cell (k := 3) (ev_var rfl) ev_c hS2) ev_c (by omega) (by decide) (by decide)) fun op H3 ho3 e3 h3 => ?_
  have hbd := lawRow_bd (c := cellAt ns 2) (way := cellAt ns 3) (g := 999) (n := 2 ^ s) (by decide)
  have hln := lawRow_length (cellAt ns 2) (2 ^ s) (cellAt ns 3) 999
  generalize lawRow (cellAt ns 2) (2 ^ s) (cellAt ns 3) 999 = one at h3 hbd hln
  have hS3 := ex_l e3 hS2
  refine q_asgL (el_law_row (g := 999) (s := t) (ev_cell (k := 4) (ev_var rfl) ev_c hS3) (ev_var rfl) (ev_cell (k := 5) (ev_var rfl) ev_c hS3) ev_c (by omega) (by decide) (by decide)) fun tp H4 ht4 e4 h4 => ?_
  have obd := lawRow_bd (c := cellAt ns 4) (way := cellAt ns 5) (g := 999) (n := 2 ^ t) (by decide)
  have oln := lawRow_length (cellAt ns 4) (2 ^ t) (cellAt ns 5) 999
  generalize lawRow (cellAt ns 4) (2 ^ t) (cellAt ns 5) 999 = other at h4 obd oln
  have h32 := pow_le' hs
  have h32t := pow_le' (s := t) (by omega)
  have r1 : IsRow one := ⟨by rw [hln]; exact pow_mem (by omega), fun x hx => by have := hbd x hx; omega⟩
  have r2 : IsRow other := ⟨by rw [oln]; exact pow_mem (by omega), fun x hx => by have := obd x hx; omega⟩
  have hO4 : SqL K H4 op (one.map V.int) := sq_of (e4 op _ h3)
  have hT4 : SqL K H4 tp (other.map V.int) := sq_of h4
  refine q_asgLL (el_list (ev_var rfl) hO4) (el_list (ev_var rfl) hT4) fun pa pb lp H5 na nb nl e5 ha hb hlp => ?_
  have hO5 := ex_l e5 hO4
  have hT5 := ex_l e5 hT4
  have hL5 : SqL K H5 lp [.ref pa, .ref pb] := sq_of hlp
  have hA5 : SqL K H5 pa (one.map V.int) := sq_of ha
  have hB5 : SqL K H5 pb (other.map V.int) := sq_of hb
  have eA : ∀ {σ : L2.St} {H : Hp}, σ[5]? = some (some (.ref lp)) → Ex H5 H → Ev (tOp (rIxL K) (tVar 5) (tC (.int 0))) σ H (.ref pa) := fun h e => ev_at0 (ev_var h) (ex_l e hL5)
  have eB : ∀ {σ : L2.St} {H : Hp}, σ[5]? = some (some (.ref lp)) → Ex H5 H → Ev (tOp (rIxL K) (tVar 5) (tC (.int 1))) σ H (.ref pb) := fun h e => ev_at1 (ev_var h) (ex_l e hL5)
  refine eA rfl (Ex.refl H5) H5 (Ex.refl H5) _ fun H6 e6 => eB rfl e6 H6 (Ex.refl H6) _ fun H7 e7 => ?_
  have e57 := e6.trans e7
  refine ⟨pa, pb, one, other, rfl, ex_l e57 hA5, ex_l e57 hB5, r1, r2, fun hle => ?_, fun hgt => ?_⟩
  · have hst : s + t ≤ 5 := by
      by_cases g : s + t ≤ 5
      · exact g
      · rw [hln, oln] at hle
        exact absurd hle (pow_two_gt (by omega))
    intro fl fp H8 nfl nfp e8 hfl hfp
    have e58 := e57.trans e8
    refine q_when (b := false) (et_is (et_test (ev_neII (ev_var rfl) (ev_var rfl) (ev_var rfl) (ex_l e58 hL5) (ex_l e58 hA5) (ex_l e58 hB5) (ex_l e58 hO5) (ex_l e58 hT5))) (by rw [decide_eq_true rfl, decide_eq_true rfl] <;> rfl)) (fun z => nomatch z) (fun _ H9 e9 => ?_)
    refine q_when (b := false) (et_is (et_test (ev_op (ev_op (ev_var rfl) (ev_var rfl) rv_add) ev_c rv_gt)) (decide_eq_false (by omega))) (fun z => nomatch z) (fun _ H10 e10 => ?_)
    refine q_asgL (el_lst ea_nil (by decide)) fun dp H11 nd e11 hd11 => ?_
    have e5b := ((e58.trans e9).trans e10).trans e11
    have hO11 := ex_l e5b hO5
    have hT11 := ex_l e5b hT5
    refine q_forLn (xs := other.map V.int) (ev_var rfl) hT11 (fun i σ H' => (∃ x8 x9 : Option V, σ = [some (.ref a), some (.int s), some (.int t), some (.ref op), some (.ref tp), some (.ref lp), some (.ref fp), some (.ref dp), x8, x9]) ∧ Ex H10 H' ∧ H' dp = some (.lst ((tieN one other i).map V.int)))
      (fun H12 e12 => ⟨⟨none, none, rfl⟩, e11.trans e12, by rw [tieN_zero]; exact e12 dp _ hd11⟩) (fun i σ H' _ hp => ex_l hp.2.1 (ex_l ((e58.trans e9).trans e10) hT5)) (fun i x σ H' hx hp => ?_) (fun σ H' hp => ?_)
    · obtain ⟨⟨x8, x9, rfl⟩, ex, hD⟩ := hp
      obtain ⟨d, hd, rfl⟩ := int_of_map hx
      have hi : i < other.length := (List.getElem?_eq_some_iff.mp hd).1
      have ed : other.getD i 0 = d := by rw [List.getD_eq_getElem?_getD, hd] <;> rfl
      have hil : i * one.length ≤ 32 * 32 := Nat.mul_le_mul (by omega) (by omega)
      refine s_forLn (xs := one.map V.int) (ev_var rfl) (ex_l ex (ex_l ((e58.trans e9).trans e10) hO5)) (fun k σ H' => (∃ x9 : Option V, σ = [some (.ref a), some (.int s), some (.int t), some (.ref op), some (.ref tp), some (.ref lp), some (.ref fp), some (.ref dp), some (.int d), x9]) ∧ Ex H10 H' ∧ H' dp = some (.lst ((tieN one other i ++ ((List.range one.length).map fun j => one.getD j 0 * d).take k).map V.int)))
        (fun H13 e13 => ⟨⟨x9, rfl⟩, ex.trans e13, by rw [List.take_zero, List.append_nil]; exact e13 dp _ hD⟩) (fun k σ H' _ hp => ex_l hp.2.1 (ex_l ((e58.trans e9).trans e10) hO5)) (fun k x σ H' hx hp => ?_) (fun σ H' hp => ?_)
      · obtain ⟨⟨x9, rfl⟩, ex2, hD2⟩ := hp
        obtain ⟨c, hc, rfl⟩ := int_of_map hx
        have hk : k < one.length := (List.getElem?_eq_some_iff.mp hc).1
        have ec : one.getD k 0 = c := by rw [List.getD_eq_getElem?_getD, hc] <;> rfl
        have b1 := hbd c (List.mem_of_getElem? hc)
        have b2 := obd d (List.mem_of_getElem? hd)
        refine s_app hD2 (ev_var rfl) (v := .int (c * d)) (ev_op (ev_var rfl) (ev_var rfl) (rv_mul (a := 40) (b := 40) (by omega) (by omega) (by decide) (by decide) (by decide))) (by
          rw [List.length_map, List.length_append, List.length_take, List.length_map, List.length_range]
          unfold tieN
          rw [List.length_map, List.length_range]
          omega) fun H14 e14 => ?_
        refine ⟨⟨some (.int c), rfl⟩, Ex.mut (ex2.trans e14) nd, ?_⟩
        rw [upd_same, List.map_append, List.map_append, List.append_assoc, range_take _ hk, ec]
      · obtain ⟨⟨x9, rfl⟩, ex2, hD2⟩ := hp
        rw [List.length_map, range_take_all] at hD2
        exact ⟨⟨some (.int d), x9, rfl⟩, ex2, by rw [hD2, tieN_swap, ed]⟩
    · obtain ⟨⟨x8, x9, rfl⟩, ex, hD⟩ := hp
      rw [List.length_map] at hD
      have hD' : H' dp = some (.lst ((tieL one other).map V.int)) := hD
      have e8' := (e9.trans e10).trans ex
      have e5' := e58.trans e8'
      have hF' : SqT K H' fp [.str "told", .ref fl] := st_of (e8' fp _ hfp)
      have hl' : H' fl = some (.lst ((tieL one other).map V.int)) := e8' fl _ hfl
      have tl : (tieL one other).length ≤ 32 := by rw [tieL_length, Nat.mul_comm]; exact hle
      have tb := tie_bd (A := 1000001 * 999) (B := 1000001 * 999) (fun x hx => by have := hbd x hx; omega) (fun x hx => by have := obd x hx; omega)
      have tr : IsRow (tieL one other) := ⟨by rw [tieL_length, hln, oln, ← Nat.pow_add]; exact pow_mem (by omega), fun x hx => by have := tb x hx; omega⟩
      refine q_when (b := false) (et_is (et_or (et_test (ev_op (ev_atT (ev_var rfl) hF' rfl) ev_c (rv_ne rfl))) fun _ => et_not (et_B (ev_alikeS (evs_of (ev_atT (ev_var rfl) hF' rfl) (sq_of hl')) (evs_var rfl (sq_of hD')) (by omega)))) (by rw [decide_eq_true rfl, decide_eq_true rfl] <;> rfl)) (fun z => nomatch z) (fun _ H13 e13 => ?_)
      have nfl5 : H5 fl = none := fresh_back e57 nfl
      have nflp : H10 fl = none → False := fun z => by
        have := e10 fl _ (e9 fl _ hfl)
        rw [z] at this
        cases this
      refine q_app (e13 fl _ hl') (ev_atT (ev_var rfl) (ex_t e13 hF') rfl) ev_c (by rw [List.length_map]; omega) fun H14 e14 => ?_
      have ex5 : Ex H5 (upd H14 fl (.lst ((tieL one other).map V.int ++ [V.int 0]))) := Ex.mut ((e5'.trans e13).trans e14) nfl5
      have hfd : dp ≠ fl := fun z => by
        rw [z] at nd
        exact nflp nd
      have hDx : (upd H14 fl (.lst ((tieL one other).map V.int ++ [V.int 0]))) dp = some (.lst ((tieL one other).map V.int)) := by
        rw [upd_ne hfd]
        exact e14 dp _ (e13 dp _ hD')
      revert ex5 hDx
      generalize upd H14 fl (.lst ((tieL one other).map V.int ++ [V.int 0])) = H15
      intro ex5 hDx
      have s1 := sumsL_bd (ns := one) (B := 1000001 * 999) (by decide) hbd
      have s2 := sumsL_bd (ns := other) (B := 1000001 * 999) (by decide) obd
      have sr1 : IsRow (sumsL one) := ⟨by rw [sumsL_length]; exact r1.1, fun x hx => by have := s1 x hx; omega⟩
      have sr2 : IsRow (sumsL other) := ⟨by rw [sumsL_length]; exact r2.1, fun x hx => by have := s2 x hx; omega⟩
      refine s_ret (v := .bl true) (ev_is (ev_andV (ev_eqS (evs_new (el_sumsS (evs_var rfl (sq_of hDx)) tr)) (evs_new (el_tiedS (evs_new (el_sumsS (evs_of (eA rfl ex5) (ex_l ex5 hA5)) r1)) (evs_new (el_sumsS (evs_of (eB rfl ex5) (ex_l ex5 hB5)) r2)) sr1 sr2 (by rw [sumsL_length, sumsL_length]; exact hle)))) fun _ => ev_eqII (ev_var rfl) (ev_var rfl) (ev_var rfl) (ex_l ex5 hL5) (ex_l ex5 hA5) (ex_l ex5 hB5) (ex_l ex5 hO5) (ex_l ex5 hT5)) (by
        rw [sums_tied hs (by omega) hln oln, decide_eq_true rfl, decide_eq_true rfl, decide_eq_true rfl] <;> rfl)) fun H16 _ => q H16
  · have hst : 5 < s + t := by
      by_cases g : s + t ≤ 5
      · rw [hln, oln] at hgt
        exact absurd (pow_two_le g) hgt
      · omega
    intro fp H8 nfp e8 hfp
    have e58 := e57.trans e8
    refine q_when (b := false) (et_is (et_test (ev_neII (ev_var rfl) (ev_var rfl) (ev_var rfl) (ex_l e58 hL5) (ex_l e58 hA5) (ex_l e58 hB5) (ex_l e58 hO5) (ex_l e58 hT5))) (by rw [decide_eq_true rfl, decide_eq_true rfl] <;> rfl)) (fun z => nomatch z) (fun _ H9 e9 => ?_)
    refine q_when (b := true) (et_is (et_test (ev_op (ev_op (ev_var rfl) (ev_var rfl) rv_add) ev_c rv_gt)) (decide_eq_true (by omega))) (fun _ H10 e10 => ?_) (fun z => nomatch z)
    exact s_ret (v := .bl true) (ev_is (ev_op (ev_atT (ev_var rfl) (st_of (e10 fp _ (e9 fp _ hfp))) rfl) ev_c (rv_eq rfl)) (by rw [decide_eq_true rfl])) fun H11 _ => q H11
end Sg
namespace Sg
open PySem PySem.Spec PyProof.Rows L2 Evl
/-! ### the text -/
def topS (i : Nat) : Stmt := PySem.Challenge.pw_signsums_k06_tied.main.body.getD i (.Pass ⟨0, 0, 0, 0⟩)
abbrev s_ask_row : Stmt := topS 14
theorem sc_ask_row : FnScope N_ask_row ["row"] (defScope s_ask_row) := ⟨rfl, rfl, rfl, by decide +kernel, rfl, by decide +kernel, by decide +kernel⟩
abbrev s_summed : Stmt := topS 15
theorem sc_summed : FnScope N_summed ["row"] (defScope s_summed) := ⟨rfl, rfl, rfl, by decide +kernel, rfl, by decide +kernel, by decide +kernel⟩
abbrev s_sums : Stmt := topS 16
theorem sc_sums : FnScope N_sums ["row"] (defScope s_sums) := ⟨rfl, rfl, rfl, by decide +kernel, rfl, by decide +kernel, by decide +kernel⟩
abbrev s_tied : Stmt := topS 19
theorem sc_tied : FnScope N_tied ["one", "other"] (defScope s_tied) := ⟨rfl, rfl, rfl, by decide +kernel, rfl, by decide +kernel, by decide +kernel⟩
abbrev s__law_cell_at : Stmt := topS 21
theorem sc__law_cell_at : FnScope N__law_cell_at ["script", "k"] (defScope s__law_cell_at) := ⟨rfl, rfl, rfl, by decide +kernel, rfl, by decide +kernel, by decide +kernel⟩
abbrev s__law_whole : Stmt := topS 22
theorem sc__law_whole : FnScope N__law_whole ["found"] (defScope s__law_whole) := ⟨rfl, rfl, rfl, by decide +kernel, rfl, by decide +kernel, by decide +kernel⟩
abbrev s__law_next : Stmt := topS 23
theorem sc__law_next : FnScope N__law_next ["seed"] (defScope s__law_next) := ⟨rfl, rfl, rfl, by decide +kernel, rfl, by decide +kernel, by decide +kernel⟩
abbrev s__law_row : Stmt := topS 24
theorem sc__law_row : FnScope N__law_row ["cell", "steps", "way", "great"] (defScope s__law_row) := ⟨rfl, rfl, rfl, by decide +kernel, rfl, by decide +kernel, by decide +kernel⟩
abbrev s__law_alike : Stmt := topS 25
theorem sc__law_alike : FnScope N__law_alike ["found", "due"] (defScope s__law_alike) := ⟨rfl, rfl, rfl, by decide +kernel, rfl, by decide +kernel, by decide +kernel⟩
abbrev s__law_kind : Stmt := topS 26
theorem sc__law_kind : FnScope N__law_kind ["e"] (defScope s__law_kind) := ⟨rfl, rfl, rfl, by decide +kernel, rfl, by decide +kernel, by decide +kernel⟩
abbrev s__law_tried : Stmt := topS 27
theorem sc__law_tried : FnScope N__law_tried ["one", "other"] (defScope s__law_tried) := ⟨rfl, rfl, rfl, by decide +kernel, rfl, by decide +kernel, by decide +kernel⟩
abbrev s_law : Stmt := topS 28
theorem sc_law : FnScope N_law ["script"] (defScope s_law) := ⟨rfl, rfl, rfl, by decide +kernel, rfl, by decide +kernel, by decide +kernel⟩
/-! ### what the top has written -/
structure Txt (K : PySem.W.Frag) (mg : Str → Option Value) where
  ValueError : mg "ValueError" = none
  bool : mg "bool" = none
  int : mg "int" = none
  isinstance : mg "isinstance" = none
  len : mg "len" = none
  list : mg "list" = none
  range : mg "range" = none
  m_SignError : mg "SignError" = some (.ref (He.ga K "SignError"))
  x_SignError : XOk K (He.ga K "SignError")
  m_NoRow : mg "NoRow" = some (.ref (He.ga K "NoRow"))
  x_NoRow : XOk K (He.ga K "NoRow")
  m_NoSums : mg "NoSums" = some (.ref (He.ga K "NoSums"))
  x_NoSums : XOk K (He.ga K "NoSums")
  m_NoMatch : mg "NoMatch" = some (.ref (He.ga K "NoMatch"))
  x_NoMatch : XOk K (He.ga K "NoMatch")
  m_TooLong : mg "TooLong" = some (.ref (He.ga K "TooLong"))
  x_TooLong : XOk K (He.ga K "TooLong")
  m_NoStep : mg "NoStep" = some (.ref (He.ga K "NoStep"))
  x_NoStep : XOk K (He.ga K "NoStep")
  m_NoSigns : mg "NoSigns" = some (.ref (He.ga K "NoSigns"))
  x_NoSigns : XOk K (He.ga K "NoSigns")
  m_NoChoice : mg "NoChoice" = some (.ref (He.ga K "NoChoice"))
  x_NoChoice : XOk K (He.ga K "NoChoice")
  m_NoFlat : mg "NoFlat" = some (.ref (He.ga K "NoFlat"))
  x_NoFlat : XOk K (He.ga K "NoFlat")
  m_NoNote : mg "NoNote" = some (.ref (He.ga K "NoNote"))
  x_NoNote : XOk K (He.ga K "NoNote")
  m_LENGTHS : mg "LENGTHS" = some (.ref (He.ga K "LENGTHS"))
  v_LENGTHS : ∀ H : Hp, SqT K H (He.ga K "LENGTHS") [.int 1, .int 2, .int 4, .int 8, .int 16, .int 32]
  m_MOST : ∃ t, mg "MOST" = some (.int 100000000000000000000 t)
  m_MOST_LONG : ∃ t, mg "MOST_LONG" = some (.int 32 t)
  kinds : KindsOk K
  c_NoRow : PySem.W.exmOne K (.ref (He.ga K "NoRow")) (.ref (He.ga K "SignError")) = some true
  c_NoSums : PySem.W.exmOne K (.ref (He.ga K "NoSums")) (.ref (He.ga K "SignError")) = some true
  c_NoMatch : PySem.W.exmOne K (.ref (He.ga K "NoMatch")) (.ref (He.ga K "SignError")) = some true
  c_TooLong : PySem.W.exmOne K (.ref (He.ga K "TooLong")) (.ref (He.ga K "SignError")) = some true
  c_NoStep : PySem.W.exmOne K (.ref (He.ga K "NoStep")) (.ref (He.ga K "SignError")) = some true
  c_NoSigns : PySem.W.exmOne K (.ref (He.ga K "NoSigns")) (.ref (He.ga K "SignError")) = some true
  c_NoChoice : PySem.W.exmOne K (.ref (He.ga K "NoChoice")) (.ref (He.ga K "SignError")) = some true
  c_NoFlat : PySem.W.exmOne K (.ref (He.ga K "NoFlat")) (.ref (He.ga K "SignError")) = some true
  c_NoNote : PySem.W.exmOne K (.ref (He.ga K "NoNote")) (.ref (He.ga K "SignError")) = some true
  d_ask_row : FuncData
  g_ask_row : mg "ask_row" = some (.ref (He.ga K "ask_row"))
  F_ask_row : Fun K "ask_row" "ask_row" s_ask_row (He.ga K "ask_row") d_ask_row
  b_ask_row : Binds K d_ask_row ["row"] []
  d_summed : FuncData
  g_summed : mg "summed" = some (.ref (He.ga K "summed"))
  F_summed : Fun K "summed" "summed" s_summed (He.ga K "summed") d_summed
  b_summed : Binds K d_summed ["row"] []
  d_sums : FuncData
  g_sums : mg "sums" = some (.ref (He.ga K "sums"))
  F_sums : Fun K "sums" "sums" s_sums (He.ga K "sums") d_sums
  b_sums : Binds K d_sums ["row"] []
  d_tied : FuncData
  g_tied : mg "tied" = some (.ref (He.ga K "tied"))
  F_tied : Fun K "tied" "tied" s_tied (He.ga K "tied") d_tied
  b_tied : Binds K d_tied ["one", "other"] []
  d__law_cell_at : FuncData
  g__law_cell_at : mg "_law_cell_at" = some (.ref (He.ga K "_law_cell_at"))
  F__law_cell_at : Fun K "_law_cell_at" "_law_cell_at" s__law_cell_at (He.ga K "_law_cell_at") d__law_cell_at
  b__law_cell_at : Binds K d__law_cell_at ["script", "k"] []
  d__law_whole : FuncData
  g__law_whole : mg "_law_whole" = some (.ref (He.ga K "_law_whole"))
  F__law_whole : Fun K "_law_whole" "_law_whole" s__law_whole (He.ga K "_law_whole") d__law_whole
  b__law_whole : Binds K d__law_whole ["found"] []
  d__law_next : FuncData
  g__law_next : mg "_law_next" = some (.ref (He.ga K "_law_next"))
  F__law_next : Fun K "_law_next" "_law_next" s__law_next (He.ga K "_law_next") d__law_next
  b__law_next : Binds K d__law_next ["seed"] []
  d__law_row : FuncData
  g__law_row : mg "_law_row" = some (.ref (He.ga K "_law_row"))
  F__law_row : Fun K "_law_row" "_law_row" s__law_row (He.ga K "_law_row") d__law_row
  b__law_row : Binds K d__law_row ["cell", "steps", "way", "great"] []
  d__law_alike : FuncData
  g__law_alike : mg "_law_alike" = some (.ref (He.ga K "_law_alike"))
  F__law_alike : Fun K "_law_alike" "_law_alike" s__law_alike (He.ga K "_law_alike") d__law_alike
  b__law_alike : Binds K d__law_alike ["found", "due"] []
  d__law_kind : FuncData
  g__law_kind : mg "_law_kind" = some (.ref (He.ga K "_law_kind"))
  F__law_kind : Fun K "_law_kind" "_law_kind" s__law_kind (He.ga K "_law_kind") d__law_kind
  b__law_kind : Binds K d__law_kind ["e"] []
  d__law_tried : FuncData
  g__law_tried : mg "_law_tried" = some (.ref (He.ga K "_law_tried"))
  F__law_tried : Fun K "_law_tried" "_law_tried" s__law_tried (He.ga K "_law_tried") d__law_tried
  b__law_tried : Binds K d__law_tried ["one", "other"] []
  d_law : FuncData
  g_law : mg "law" = some (.ref (He.ga K "law"))
  F_law : Fun K "law" "law" s_law (He.ga K "law") d_law
  b_law : Binds K d_law ["script"] []
end Sg
namespace Sg
open PySem PySem.Spec PyProof.Rows L2 Evl
section
variable {P : Program} {w : World} {K : PySem.W.Frag} {mg : Str → Option Value} {base : Heap}
theorem ok_ask_row (T : Txt K mg) : FnOk P w K mg base (L2.CX P w) 1 (He.ga K "ask_row") T.d_ask_row ["row"] (sp_ask_row K) := by
  refine T.F_ask_row.okX sc_ask_row len_ask_row (fun cdv A outer s H vs Q E hr h => ⟨t_ask_row K E, ?_, pure_ask_row (T.v_LENGTHS) vs H Q E h⟩)
  exact (pss_cons (ps_if (pt_cmpR op_notIn_seq (pe_callB call_len_seq (by rfl) T.len PySem.boot_len (pa_cons (pv 0) pa_nil)) (pe_glob (v := .ref (He.ga K "LENGTHS")) (by rfl) T.m_LENGTHS rfl) (by rfl))
   (pss_one (ps_raise rfl (takes_of rfl rfl rfl rfl) (pmk_own PySem.F.excBase_ValueError T.x_NoRow.ok T.m_NoRow T.x_NoRow.kp (raises_own T.x_NoRow.sb T.x_NoRow.ty) (by exact rfl))))
   pss_nil)
  (pss_one (ps_for (passes_of rfl) rfl (pi_list (pv 0)) (pg_name (i := 1) sc_ask_row.nd rfl (Or.inl rfl))
   (pss_one (ps_if (pt_not (pt_chain op_le op_le (pe_un un_neg (pe_glob (by rfl) T.m_MOST.choose_spec ⟨_, rfl⟩)) (pv 1) (pe_glob (by rfl) T.m_MOST.choose_spec ⟨_, rfl⟩)))
    (pss_one (ps_raise rfl (takes_of rfl rfl rfl rfl) (pmk_own PySem.F.excBase_ValueError T.x_NoRow.ok T.m_NoRow T.x_NoRow.kp (raises_own T.x_NoRow.sb T.x_NoRow.ty) (by exact rfl))))
    pss_nil)))))
theorem ok_summed (T : Txt K mg) : FnOk P w K mg base CX0 1 (He.ga K "summed") T.d_summed ["row"] (sp_summed K) := by
  refine T.F_summed.ok sc_summed len_summed (fun cdv A outer s H vs Q E hr h => ⟨t_summed K, ?_, pure_summed vs H Q E h⟩)
  exact (pss_cons (ps_set (i := 1) sc_summed.nd rfl (Or.inl rfl) (pe_callTy call_list_of (by rfl) T.list (by decide +kernel) (pa_cons (pv 0) pa_nil)))
  (pss_cons (ps_set (i := 2) sc_summed.nd rfl (Or.inl rfl) pe_int)
  (pss_cons (ps_while PassesOwn.never (pt_cmpR op_lt (pv 2) (pe_callB call_len_seq (by rfl) T.len PySem.boot_len (pa_cons (pv 1) pa_nil)) (nomark _))
   (pss_cons (ps_set (i := 3) sc_summed.nd rfl (Or.inl rfl) (pe_callTy call_list_of (by rfl) T.list (by decide +kernel) (pa_cons (pv 1) pa_nil)))
   (pss_cons (ps_for PassesOwn.never rfl (pi_range1 (by rfl) T.range (pa_cons (pe_callB call_len_seq (by rfl) T.len PySem.boot_len (pa_cons (pv 1) pa_nil)) pa_nil)) (pg_name (i := 4) sc_summed.nd rfl (Or.inl rfl))
    (pss_one (ps_if (pt_cmpR op_eq (pe_op op_mod (pe_op op_fdiv (pv 4) (pv 2)) pe_int) pe_int (nomark _))
     (pss_cons (ps_asg (pe_op op_add (pe_ix ix_list (pv 1) (pv 4) (fun _ _ => rfl)) (pe_ix ix_list (pv 1) (pe_op op_add (pv 4) (pv 2)) (fun _ _ => rfl))) (pg_sub (pv 3) (pv 4) set_list))
     (pss_one (ps_asg (pe_op op_sub (pe_ix ix_list (pv 1) (pv 4) (fun _ _ => rfl)) (pe_ix ix_list (pv 1) (pe_op op_add (pv 4) (pv 2)) (fun _ _ => rfl))) (pg_sub (pv 3) (pe_op op_add (pv 4) (pv 2)) set_list))))
     pss_nil)))
   (pss_cons (ps_set (i := 1) sc_summed.nd rfl (Or.inl rfl) (pv 3))
   (pss_one (ps_set (i := 2) sc_summed.nd rfl (Or.inl rfl) (pe_op op_mulW pe_int (pv 2))))))))
  (pss_one (ps_ret (pv 1))))))
theorem ok_sums (T : Txt K mg) (G_ask_row : FnOk P w K mg base (L2.CX P w) 1 (He.ga K "ask_row") T.d_ask_row ["row"] (sp_ask_row K)) (G_summed : FnOk P w K mg base CX0 1 (He.ga K "summed") T.d_summed ["row"] (sp_summed K)) : FnOk P w K mg base (L2.CX P w) 2 (He.ga K "sums") T.d_sums ["row"] (sp_sums K) := by
  refine T.F_sums.okX sc_sums len_sums (fun cdv A outer s H vs Q E hr h => ⟨t_sums K E, ?_, pure_sums vs H Q E h⟩)
  exact (pss_cons (ps_expr (pe_call G_ask_row (hr.mono (by decide)) (by rfl) T.g_ask_row T.F_ask_row.kp T.b_ask_row .nil (passes_call (takes_of rfl rfl rfl rfl) (fun _ _ _ _ h => h)) (pa_cons (pv 0) pa_nil)))
  (pss_one (ps_ret (pe_call G_summed (hr.mono (by decide)) (by rfl) T.g_summed T.F_summed.kp T.b_summed .nil pass0 (pa_cons (pv 0) pa_nil)))))
theorem ok_tied (T : Txt K mg) (G_ask_row : FnOk P w K mg base (L2.CX P w) 1 (He.ga K "ask_row") T.d_ask_row ["row"] (sp_ask_row K)) : FnOk P w K mg base (L2.CX P w) 2 (He.ga K "tied") T.d_tied ["one", "other"] (sp_tied K) := by
  refine T.F_tied.okX sc_tied len_tied (fun cdv A outer s H vs Q E hr h => ⟨t_tied K E, ?_, pure_tied vs H Q E h⟩)
  exact (pss_cons (ps_expr (pe_call G_ask_row (hr.mono (by decide)) (by rfl) T.g_ask_row T.F_ask_row.kp T.b_ask_row .nil (passes_call (takes_of rfl rfl rfl rfl) (fun _ _ _ _ h => h)) (pa_cons (pv 0) pa_nil)))
  (pss_cons (ps_expr (pe_call G_ask_row (hr.mono (by decide)) (by rfl) T.g_ask_row T.F_ask_row.kp T.b_ask_row .nil (passes_call (takes_of rfl rfl rfl rfl) (fun _ _ _ _ h => h)) (pa_cons (pv 1) pa_nil)))
  (pss_cons (ps_if (pt_cmpR op_gt (pe_op op_mulW (pe_callB call_len_seq (by rfl) T.len PySem.boot_len (pa_cons (pv 0) pa_nil)) (pe_callB call_len_seq (by rfl) T.len PySem.boot_len (pa_cons (pv 1) pa_nil))) (pe_glob (by rfl) T.m_MOST_LONG.choose_spec ⟨_, rfl⟩) (nomark _))
   (pss_one (ps_raise rfl (takes_of rfl rfl rfl rfl) (pmk_own PySem.F.excBase_ValueError T.x_TooLong.ok T.m_TooLong T.x_TooLong.kp (raises_own T.x_TooLong.sb T.x_TooLong.ty) (by exact rfl))))
   pss_nil)
  (pss_cons (ps_set (i := 2) sc_tied.nd rfl (Or.inl rfl) (pe_lst pa_nil))
  (pss_cons (ps_for (passes_of rfl) rfl (pi_list (pv 1)) (pg_name (i := 3) sc_tied.nd rfl (Or.inr rfl))
   (pss_one (ps_set (i := 2) sc_tied.nd rfl (Or.inl rfl) (pe_op op_cat (pv 2) (pe_lc (own := [("mine", 4)]) (g := (gName 4)) (tt := tYes) rfl sc_tied.nd (pi_list (pv 0)) (blkOk_by (own := [("mine", 4)]) (N := N_tied) (sc := defScope s_tied) (by decide +kernel)) (fun _ _ _ _ _ => pg_name (i := 4) sc_tied.nd rfl (Or.inl rfl)) (fun _ _ _ _ _ => pts_nil) (fun _ _ _ _ _ => (pe_op op_mulW (pv 4) (pv 3))))))))
  (pss_one (ps_ret (pv 2))))))))
theorem ok_law_cell_at (T : Txt K mg) : FnOk P w K mg base CX0 1 (He.ga K "_law_cell_at") T.d__law_cell_at ["script", "k"] (sp_law_cell_at K) := by
  refine T.F__law_cell_at.ok sc__law_cell_at len_law_cell_at (fun cdv A outer s H vs Q E hr h => ⟨t_law_cell_at K, ?_, pure_law_cell_at vs H Q E h⟩)
  exact (pss_cons (ps_if (pt_cmpR op_lt (pv 1) (pe_callB call_len_seq (by rfl) T.len PySem.boot_len (pa_cons (pv 0) pa_nil)) (nomark _))
   (pss_one (ps_ret (pe_ix ix_list (pv 0) (pv 1) (fun _ _ => rfl))))
   pss_nil)
  (pss_one (ps_ret pe_int)))
theorem ok_law_whole (T : Txt K mg) : FnOk P w K mg base CX0 1 (He.ga K "_law_whole") T.d__law_whole ["found"] (sp_law_whole K) := by
  refine T.F__law_whole.ok sc__law_whole len_law_whole (fun cdv A outer s H vs Q E hr h => ⟨t_law_whole K, ?_, pure_law_whole vs H Q E h⟩)
  exact (pss_one (ps_ret (pe_and (pe_callB call_isi (by rfl) T.isinstance (by decide +kernel) (pa_cons (pv 0) (pa_cons (pe_bltn (v := .ty "int") (by rfl) T.int (by decide +kernel) rfl) pa_nil))) (pe_one (pe_not (pe_callB call_isi (by rfl) T.isinstance (by decide +kernel) (pa_cons (pv 0) (pa_cons (pe_bltn (v := .ty "bool") (by rfl) T.bool (by decide +kernel) rfl) pa_nil))))))))
theorem ok_law_next (T : Txt K mg) : FnOk P w K mg base CX0 1 (He.ga K "_law_next") T.d__law_next ["seed"] (sp_law_next K) := by
  refine T.F__law_next.ok sc__law_next len_law_next (fun cdv A outer s H vs Q E hr h => ⟨t_law_next K, ?_, pure_law_next vs H Q E h⟩)
  exact (pss_cons (ps_set (i := 0) sc__law_next.nd rfl (Or.inl rfl) (pe_op op_mod (pe_op op_add (pv 0) pe_int) pe_int))
  (pss_one (ps_ret (pe_op op_mod (pe_op op_add (pe_op op_add (pe_op op_mulW (pv 0) (pv 0)) (pe_op op_mulW pe_int (pv 0))) pe_int) pe_int))))
theorem ok_law_row (T : Txt K mg) (G_law_next : FnOk P w K mg base CX0 1 (He.ga K "_law_next") T.d__law_next ["seed"] (sp_law_next K)) : FnOk P w K mg base CX0 2 (He.ga K "_law_row") T.d__law_row ["cell", "steps", "way", "great"] (sp_law_row K) := by
  refine T.F__law_row.ok sc__law_row len_law_row (fun cdv A outer s H vs Q E hr h => ⟨t_law_row K, ?_, pure_law_row vs H Q E h⟩)
  exact (pss_cons (ps_set (i := 4) sc__law_row.nd rfl (Or.inl rfl) (pe_lst pa_nil))
  (pss_cons (ps_for PassesOwn.never rfl (pi_range1 (by rfl) T.range (pa_cons (pe_ix ix_list (pe_lst (pa_cons pe_int (pa_cons pe_int (pa_cons pe_int (pa_cons pe_int (pa_cons pe_int (pa_cons pe_int pa_nil))))))) (pv 1) (fun _ _ => rfl)) pa_nil)) (pg_name (i := 5) sc__law_row.nd rfl (Or.inl rfl))
   (pss_cons (ps_set (i := 0) sc__law_row.nd rfl (Or.inl rfl) (pe_call G_law_next (hr.mono (by decide)) (by rfl) T.g__law_next T.F__law_next.kp T.b__law_next .nil pass0 (pa_cons (pe_op op_add (pe_op op_mod (pv 0) pe_int) (pe_op op_mulW pe_int (pv 5))) pa_nil)))
   (pss_cons (ps_set (i := 6) sc__law_row.nd rfl (Or.inl rfl) (pe_op op_sub (pe_op op_mod (pe_op op_fdiv (pv 0) pe_int) pe_int) pe_int))
   (pss_cons (ps_if (pt_cmpR op_eq (pe_op op_mod (pe_op op_fdiv (pv 2) pe_int) pe_int) pe_int (nomark _))
    (pss_one (ps_set (i := 6) sc__law_row.nd rfl (Or.inl rfl) (pe_op op_add (pe_op op_mulW (pv 6) (pv 3)) (pe_op op_mulW (pe_op op_sub pe_int (pe_op op_mulW pe_int (pe_callTy call_int1 (by rfl) T.int (by decide +kernel) (pa_cons (pe_cmpR op_lt (pv 6) pe_int (nomark _)) pa_nil)))) (pe_op op_mod (pe_op op_fdiv (pv 0) pe_int) (pv 3))))))
    pss_nil)
   (pss_cons (ps_if (pt_cmpR op_eq (pe_op op_mod (pv 2) pe_int) pe_int (nomark _))
    (pss_one (ps_set (i := 6) sc__law_row.nd rfl (Or.inl rfl) (pe_op op_sub pe_int (pe_op op_mulW pe_int (pe_op op_mod (pe_op op_fdiv (pv 0) pe_int) pe_int)))))
    pss_nil)
   (pss_cons (ps_if (pt_cmpR op_eq (pe_op op_mod (pv 2) pe_int) pe_int (nomark _))
    (pss_one (ps_set (i := 6) sc__law_row.nd rfl (Or.inl rfl) (pe_op op_sub (pe_op op_mod (pe_op op_fdiv (pv 0) pe_int) pe_int) pe_int)))
    pss_nil)
   (pss_cons (ps_if (PW.pt (pw_and (pt_cmpR op_eq (pe_op op_mod (pv 2) pe_int) pe_int (nomark _)) (pw_and1 (pt_cmpR op_gt (pe_op op_mod (pe_op op_fdiv (pv 0) pe_int) pe_int) pe_int (nomark _)))))
    (pss_one (ps_set (i := 6) sc__law_row.nd rfl (Or.inl rfl) pe_int))
    pss_nil)
   (pss_one (ps_expr (pe_bm PySem.F.plainAttrs_list PySem.F.slot_list_append PySem.F.type_list_append mt_append (pv 4) (pa_cons (pv 6) pa_nil)))))))))))
  (pss_one (ps_ret (pv 4)))))
theorem ok_law_alike (T : Txt K mg) (G_law_whole : FnOk P w K mg base CX0 1 (He.ga K "_law_whole") T.d__law_whole ["found"] (sp_law_whole K)) : FnOk P w K mg base CX0 2 (He.ga K "_law_alike") T.d__law_alike ["found", "due"] (sp_law_alike K) := by
  refine T.F__law_alike.ok sc__law_alike len_law_alike (fun cdv A outer s H vs Q E hr h => ⟨t_law_alike K, ?_, pure_law_alike vs H Q E h⟩)
  exact (pss_cons (ps_if (PW.pt (pw_or (pt_not (pt_val (pe_callB call_isi (by rfl) T.isinstance (by decide +kernel) (pa_cons (pv 0) (pa_cons (pe_bltn (v := .ty "list") (by rfl) T.list (by decide +kernel) rfl) pa_nil))))) (pw_or1 (pt_cmpR op_ne (pe_callB call_len_seq (by rfl) T.len PySem.boot_len (pa_cons (pv 0) pa_nil)) (pe_callB call_len_seq (by rfl) T.len PySem.boot_len (pa_cons (pv 1) pa_nil)) (nomark _)))))
   (pss_one (ps_ret pe_bl))
   pss_nil)
  (pss_cons (ps_for PassesOwn.never rfl (pi_range1 (by rfl) T.range (pa_cons (pe_callB call_len_seq (by rfl) T.len PySem.boot_len (pa_cons (pv 1) pa_nil)) pa_nil)) (pg_name (i := 2) sc__law_alike.nd rfl (Or.inl rfl))
   (pss_one (ps_if (PW.pt (pw_or (pt_not (pt_val (pe_call G_law_whole (hr.mono (by decide)) (by rfl) T.g__law_whole T.F__law_whole.kp T.b__law_whole .nil pass0 (pa_cons (pe_ix ix_list (pv 0) (pv 2) (fun _ _ => rfl)) pa_nil)))) (pw_or1 (pt_cmpR op_ne (pe_ix ix_list (pv 0) (pv 2) (fun _ _ => rfl)) (pe_ix ix_list (pv 1) (pv 2) (fun _ _ => rfl)) (nomark _)))))
    (pss_one (ps_ret pe_bl))
    pss_nil)))
  (pss_one (ps_ret pe_bl))))
theorem ok_law_kind (T : Txt K mg) : FnP P w K mg base 1 (He.ga K "_law_kind") T.d__law_kind "e" (KindR K) := by
  refine fun_okP T.F__law_kind sc__law_kind fun cdv A outer s H Q E p D t hz hf h q => ?_
  obtain ⟨c, hc, rfl⟩ := h
  refine ⟨t_law_kind K (He.ga K c) p.1, ?_, pure_law_kind T.kinds c p.1 t hc H Q E q⟩
  exact (pss_cons (ps_set (i := 1) sc__law_kind.nd rfl (Or.inl rfl) (pe_lst (pa_cons (pe_callB (call_isP (T.kinds.ex _ hc) List.mem_cons_self hz hf) (by rfl) T.isinstance (by decide +kernel) (pa_cons (pv 0) (pa_cons (pe_glob (v := .ref (He.ga K "NoRow")) (by rfl) T.m_NoRow rfl) pa_nil))) (pa_cons (pe_callB (call_isP (T.kinds.ex _ hc) List.mem_cons_self hz hf) (by rfl) T.isinstance (by decide +kernel) (pa_cons (pv 0) (pa_cons (pe_glob (v := .ref (He.ga K "NoSums")) (by rfl) T.m_NoSums rfl) pa_nil))) (pa_cons (pe_callB (call_isP (T.kinds.ex _ hc) List.mem_cons_self hz hf) (by rfl) T.isinstance (by decide +kernel) (pa_cons (pv 0) (pa_cons (pe_glob (v := .ref (He.ga K "NoMatch")) (by rfl) T.m_NoMatch rfl) pa_nil))) (pa_cons (pe_callB (call_isP (T.kinds.ex _ hc) List.mem_cons_self hz hf) (by rfl) T.isinstance (by decide +kernel) (pa_cons (pv 0) (pa_cons (pe_glob (v := .ref (He.ga K "TooLong")) (by rfl) T.m_TooLong rfl) pa_nil))) pa_nil))))))
  (pss_cons (ps_set (i := 1) sc__law_kind.nd rfl (Or.inl rfl) (pe_op op_cat (pv 1) (pe_lst (pa_cons (pe_callB (call_isP (T.kinds.ex _ hc) List.mem_cons_self hz hf) (by rfl) T.isinstance (by decide +kernel) (pa_cons (pv 0) (pa_cons (pe_glob (v := .ref (He.ga K "NoStep")) (by rfl) T.m_NoStep rfl) pa_nil))) (pa_cons (pe_callB (call_isP (T.kinds.ex _ hc) List.mem_cons_self hz hf) (by rfl) T.isinstance (by decide +kernel) (pa_cons (pv 0) (pa_cons (pe_glob (v := .ref (He.ga K "NoSigns")) (by rfl) T.m_NoSigns rfl) pa_nil))) (pa_cons (pe_callB (call_isP (T.kinds.ex _ hc) List.mem_cons_self hz hf) (by rfl) T.isinstance (by decide +kernel) (pa_cons (pv 0) (pa_cons (pe_glob (v := .ref (He.ga K "NoChoice")) (by rfl) T.m_NoChoice rfl) pa_nil))) (pa_cons (pe_callB (call_isP (T.kinds.ex _ hc) List.mem_cons_self hz hf) (by rfl) T.isinstance (by decide +kernel) (pa_cons (pv 0) (pa_cons (pe_glob (v := .ref (He.ga K "NoFlat")) (by rfl) T.m_NoFlat rfl) pa_nil))) pa_nil)))))))
  (pss_cons (ps_expr (pe_bm PySem.F.plainAttrs_list PySem.F.slot_list_append PySem.F.type_list_append mt_append (pv 1) (pa_cons (pe_callB (call_isP (T.kinds.ex _ hc) List.mem_cons_self hz hf) (by rfl) T.isinstance (by decide +kernel) (pa_cons (pv 0) (pa_cons (pe_glob (v := .ref (He.ga K "NoNote")) (by rfl) T.m_NoNote rfl) pa_nil))) pa_nil)))
  (pss_cons (ps_if (PW.pt (pw_or (pt_not (pt_val (pe_callB (call_isP (T.kinds.ex _ hc) List.mem_cons_self hz hf) (by rfl) T.isinstance (by decide +kernel) (pa_cons (pv 0) (pa_cons (pe_bltn (v := .ty "ValueError") (by rfl) T.ValueError (by decide +kernel) rfl) pa_nil))))) (pw_or1 (pt_cmpR op_ne (pe_bm PySem.F.plainAttrs_list PySem.F.slot_list_count PySem.F.type_list_count mt_countV (pv 1) (pa_cons pe_bl pa_nil)) pe_int (nomark _)))))
   (pss_one (ps_ret pe_str))
   pss_nil)
  (pss_one (ps_ret (pe_ix ix_list (pe_lst (pa_cons pe_str (pa_cons pe_str (pa_cons pe_str (pa_cons pe_str (pa_cons pe_str (pa_cons pe_str (pa_cons pe_str (pa_cons pe_str (pa_cons pe_str pa_nil)))))))))) (pe_bm PySem.F.plainAttrs_list PySem.F.slot_list_index PySem.F.type_list_index mt_index (pv 1) (pa_cons pe_bl pa_nil)) (fun _ _ => rfl))))))))
theorem ok_law_tried (T : Txt K mg) (G_tied : FnOk P w K mg base (L2.CX P w) 2 (He.ga K "tied") T.d_tied ["one", "other"] (sp_tied K)) (G_law_kind : FnP P w K mg base 1 (He.ga K "_law_kind") T.d__law_kind "e" (KindR K)) : FnOk P w K mg base CX0 3 (He.ga K "_law_tried") T.d__law_tried ["one", "other"] (sp_law_tried K) := by
  refine T.F__law_tried.ok sc__law_tried len_law_tried (fun cdv A outer s H vs Q E hr h => ⟨t_law_tried K, ?_, pure_law_tried T.c_TooLong T.c_NoRow vs H Q E h⟩)
  exact (pss_one (ps_try_as (i := 2) (tb := (fun W => (tRet (tTup (tCons (tC (.str "told")) (tCons (tCallS (sp_tied K) (WE W) (tCons (tVar 0) (tCons (tVar 1) tNil))) tNil)))))) (ts := (fun a cls d => (tRet (tTup (tCons (tCallP a cls d (KindR K) (tCons (tVar 2) tNil)) (tCons (tC .non) tNil)))))) (Wout := fun _ _ _ _ => False) rfl rfl sc__law_tried.nd rfl rfl ⟨rfl, by decide, .inl T.m_SignError⟩ takes0
   (fun W pn xe tk _ => (pss_one (ps_ret (pe_tup (pa_cons pe_str (pa_cons (pe_callS G_tied (hr.mono (by decide)) (by rfl) T.g_tied T.F_tied.kp T.b_tied (fun σ => passAt tk σ) (pa_cons (pv 0) (pa_cons (pv 1) pa_nil))) pa_nil))))))
   (fun a oe cls d pn hz hf => (pss_one (ps_ret (pe_tup (pa_cons (pe_callP (p := (a, oe)) List.mem_cons_self hz hf G_law_kind (roomP hr (by decide)) (by rfl) T.g__law_kind T.F__law_kind.kp T.b__law_kind (pa_cons (pv 2) pa_nil)) (pa_cons pe_non pa_nil))))))))
theorem ok_law (T : Txt K mg) (G_law_row : FnOk P w K mg base CX0 2 (He.ga K "_law_row") T.d__law_row ["cell", "steps", "way", "great"] (sp_law_row K)) (G_law_tried : FnOk P w K mg base CX0 3 (He.ga K "_law_tried") T.d__law_tried ["one", "other"] (sp_law_tried K)) (G_law_cell_at : FnOk P w K mg base CX0 1 (He.ga K "_law_cell_at") T.d__law_cell_at ["script", "k"] (sp_law_cell_at K)) (G_law_alike : FnOk P w K mg base CX0 2 (He.ga K "_law_alike") T.d__law_alike ["found", "due"] (sp_law_alike K)) (G_sums : FnOk P w K mg base (L2.CX P w) 2 (He.ga K "sums") T.d_sums ["row"] (sp_sums K)) (G_tied : FnOk P w K mg base (L2.CX P w) 2 (He.ga K "tied") T.d_tied ["one", "other"] (sp_tied K)) : FnOk P w K mg base CX0 4 (He.ga K "law") T.d_law ["script"] (sp_law K) := by
  refine T.F_law.ok sc_law len_law (fun cdv A outer s H vs Q E hr h => ⟨t_law K, ?_, pure_law vs H Q E h⟩)
  exact (pss_cons (ps_set (i := 1) sc_law.nd rfl (Or.inl rfl) (pe_op op_mod (pe_call G_law_cell_at (hr.mono (by decide)) (by rfl) T.g__law_cell_at T.F__law_cell_at.kp T.b__law_cell_at .nil pass0 (pa_cons (pv 0) (pa_cons pe_int pa_nil))) pe_int))
  (pss_cons (ps_set (i := 2) sc_law.nd rfl (Or.inl rfl) (pe_op op_add (pe_op op_mod (pe_call G_law_cell_at (hr.mono (by decide)) (by rfl) T.g__law_cell_at T.F__law_cell_at.kp T.b__law_cell_at .nil pass0 (pa_cons (pv 0) (pa_cons pe_int pa_nil))) (pe_op op_sub pe_int (pv 1))) (pe_op op_mulW (pe_callTy call_int1 (by rfl) T.int (by decide +kernel) (pa_cons (pe_cmpR op_eq (pe_op op_mod (pe_call G_law_cell_at (hr.mono (by decide)) (by rfl) T.g__law_cell_at T.F__law_cell_at.kp T.b__law_cell_at .nil pass0 (pa_cons (pv 0) (pa_cons pe_int pa_nil))) pe_int) pe_int (nomark _)) pa_nil)) (pv 1))))
  (pss_cons (ps_set (i := 3) sc_law.nd rfl (Or.inl rfl) (pe_call G_law_row (hr.mono (by decide)) (by rfl) T.g__law_row T.F__law_row.kp T.b__law_row .nil pass0 (pa_cons (pe_call G_law_cell_at (hr.mono (by decide)) (by rfl) T.g__law_cell_at T.F__law_cell_at.kp T.b__law_cell_at .nil pass0 (pa_cons (pv 0) (pa_cons pe_int pa_nil))) (pa_cons (pv 1) (pa_cons (pe_call G_law_cell_at (hr.mono (by decide)) (by rfl) T.g__law_cell_at T.F__law_cell_at.kp T.b__law_cell_at .nil pass0 (pa_cons (pv 0) (pa_cons pe_int pa_nil))) (pa_cons pe_int pa_nil))))))
  (pss_cons (ps_set (i := 4) sc_law.nd rfl (Or.inl rfl) (pe_call G_law_row (hr.mono (by decide)) (by rfl) T.g__law_row T.F__law_row.kp T.b__law_row .nil pass0 (pa_cons (pe_call G_law_cell_at (hr.mono (by decide)) (by rfl) T.g__law_cell_at T.F__law_cell_at.kp T.b__law_cell_at .nil pass0 (pa_cons (pv 0) (pa_cons pe_int pa_nil))) (pa_cons (pv 2) (pa_cons (pe_call G_law_cell_at (hr.mono (by decide)) (by rfl) T.g__law_cell_at T.F__law_cell_at.kp T.b__law_cell_at .nil pass0 (pa_cons (pv 0) (pa_cons pe_int pa_nil))) (pa_cons pe_int pa_nil))))))
  (pss_cons (ps_set (i := 5) sc_law.nd rfl (Or.inl rfl) (pe_lst (pa_cons (pe_callTy call_list_of (by rfl) T.list (by decide +kernel) (pa_cons (pv 3) pa_nil)) (pa_cons (pe_callTy call_list_of (by rfl) T.list (by decide +kernel) (pa_cons (pv 4) pa_nil)) pa_nil))))
  (pss_cons (ps_set (i := 6) sc_law.nd rfl (Or.inl rfl) (pe_call G_law_tried (hr.mono (by decide)) (by rfl) T.g__law_tried T.F__law_tried.kp T.b__law_tried .nil pass0 (pa_cons (pe_ix ix_list (pv 5) pe_int (fun _ _ => rfl)) (pa_cons (pe_ix ix_list (pv 5) pe_int (fun _ _ => rfl)) pa_nil))))
  (pss_cons (ps_if (pt_cmpR (op_neD hr.units) (pv 5) (pe_lst (pa_cons (pv 3) (pa_cons (pv 4) pa_nil))) (nomark _))
   (pss_one (ps_ret pe_bl))
   pss_nil)
  (pss_cons (ps_if (pt_cmpR op_gt (pe_op op_add (pv 1) (pv 2)) pe_int (nomark _))
   (pss_one (ps_ret (pe_cmpR op_eq (pe_ix ix_tup (pv 6) pe_int (fun _ _ => rfl)) pe_str (nomark _))))
   pss_nil)
  (pss_cons (ps_set (i := 7) sc_law.nd rfl (Or.inl rfl) (pe_lst pa_nil))
  (pss_cons (ps_for PassesOwn.never rfl (pi_list (pv 4)) (pg_name (i := 8) sc_law.nd rfl (Or.inl rfl))
   (pss_one (ps_for PassesOwn.never rfl (pi_list (pv 3)) (pg_name (i := 9) sc_law.nd rfl (Or.inl rfl))
    (pss_one (ps_expr (pe_bm PySem.F.plainAttrs_list PySem.F.slot_list_append PySem.F.type_list_append mt_append (pv 7) (pa_cons (pe_op op_mulW (pv 9) (pv 8)) pa_nil)))))))
  (pss_cons (ps_if (PW.pt (pw_or (pt_cmpR op_ne (pe_ix ix_tup (pv 6) pe_int (fun _ _ => rfl)) pe_str (nomark _)) (pw_or1 (pt_not (pt_val (pe_call G_law_alike (hr.mono (by decide)) (by rfl) T.g__law_alike T.F__law_alike.kp T.b__law_alike .nil pass0 (pa_cons (pe_ix ix_tup (pv 6) pe_int (fun _ _ => rfl)) (pa_cons (pv 7) pa_nil))))))))
   (pss_one (ps_ret pe_bl))
   pss_nil)
  (pss_cons (ps_expr (pe_bm PySem.F.plainAttrs_list PySem.F.slot_list_append PySem.F.type_list_append mt_append (pe_ix ix_tup (pv 6) pe_int (fun _ _ => rfl)) (pa_cons pe_int pa_nil)))
  (pss_one (ps_ret (pe_and (pe_cmpR (op_eqD hr.units) (pe_call G_sums (hr.mono (by decide)) (by rfl) T.g_sums T.F_sums.kp T.b_sums .nil passL (pa_cons (pv 7) pa_nil)) (pe_call G_tied (hr.mono (by decide)) (by rfl) T.g_tied T.F_tied.kp T.b_tied .nil passL (pa_cons (pe_call G_sums (hr.mono (by decide)) (by rfl) T.g_sums T.F_sums.kp T.b_sums .nil passL (pa_cons (pe_ix ix_list (pv 5) pe_int (fun _ _ => rfl)) pa_nil)) (pa_cons (pe_call G_sums (hr.mono (by decide)) (by rfl) T.g_sums T.F_sums.kp T.b_sums .nil passL (pa_cons (pe_ix ix_list (pv 5) pe_int (fun _ _ => rfl)) pa_nil)) pa_nil))) (nomark _)) (pe_one (pe_cmpR (op_eqD hr.units) (pv 5) (pe_lst (pa_cons (pv 3) (pa_cons (pv 4) pa_nil))) (nomark _))))))))))))))))))
end
end Sg
namespace Sg
open PySem PySem.Spec PyProof.Rows L2
/-! ### the head: what is looked at behind the top -/
/-- a def without defaults, from the head's facts -/
theorem fun_of {K : PySem.W.Frag} {x : Str} {st : Stmt} {f : Addr} {fd : FuncData} (F : FunD K x x (defArgs st) (defBody st) (defScope st) [] [] f fd) : Fun K x x st f fd := by
  obtain ⟨oc, od, dV, kV, doc, pm, an, cdv, ct, osl, e, lk, hc, hD, hK⟩ := F.ex
  rcases hD with ⟨_, e0⟩ | ⟨e0, _⟩
  · subst e0
    exact ⟨⟨oc, od, kV, doc, pm, an, cdv, ct, osl, e, lk, hc⟩, F.kp⟩
  · exact absurd rfl e0
abbrev AlE : Type := He.AlD × Bool
def obsE (n : Nat) (fa : List He.Fa) (fn : List He.DefD) (ex : PySem.W.Frag → Bool) (g : Addr → Option Obj) : AlE :=
  (He.obsD fa fn (He.frG g (He.asD g n)), ex (He.frG g (He.asD g n)))
def SaysE (fa : List He.Fa) (fn : List He.DefD) (ex : PySem.W.Frag → Bool) (K : PySem.W.Frag) : Prop := He.SaysD fa fn K ∧ ex K = true
def hookE (n : Nat) (fa : List He.Fa) (fn : List He.DefD) (ex : PySem.W.Frag → Bool) : PySem.W.Hook where
  α := AlE
  obs := fun s => obsE n fa fn ex s.heap.get?
  val := fun _ => (He.valD fn, true)
  says := fun _ h => ∃ K : PySem.W.Frag, K.In h ∧ SaysE fa fn ex K
  of := fun _ _ e => ⟨_, He.frG_in, congrArg (fun z : AlE => z.1) e, congrArg (fun z : AlE => z.2) e⟩
  keeps := fun _ _ _ ⟨K, hK, c⟩ k => ⟨K, PySem.W.Frag.In.keeps hK k, c⟩
theorem obsE_eq {n : Nat} {fa : List He.Fa} {fn : List He.DefD} {ex : PySem.W.Frag → Bool} {g : Addr → Option Obj} {s : Shared} (h : ∀ a, g a = s.heap.get? a) : obsE n fa fn ex g = (hookE n fa fn ex).obs s := by
  rw [show g = s.heap.get? from funext h] <;> rfl
theorem xok_of {K : PySem.W.Frag} {x : Str} (c : (He.Fa.exc x).ok K = true) : XOk K (He.ga K x) := by
  obtain ⟨c1, c2⟩ := He.ba c
  obtain ⟨c3, c4⟩ := He.ba c2
  obtain ⟨c5, c6⟩ := He.ba c4
  exact ⟨c1, c3, of_decide_eq_true c5, of_decide_eq_true c6⟩
end Sg
namespace Sg
open PySem PySem.Spec PyProof.Rows L2
def D_ask_row : He.DefD := ⟨("ask_row", none), "ask_row", "ask_row", defArgs s_ask_row, defBody s_ask_row, defScope s_ask_row, [], []⟩
def D_summed : He.DefD := ⟨("summed", none), "summed", "summed", defArgs s_summed, defBody s_summed, defScope s_summed, [], []⟩
def D_sums : He.DefD := ⟨("sums", none), "sums", "sums", defArgs s_sums, defBody s_sums, defScope s_sums, [], []⟩
def D_tied : He.DefD := ⟨("tied", none), "tied", "tied", defArgs s_tied, defBody s_tied, defScope s_tied, [], []⟩
def D__law_cell_at : He.DefD := ⟨("_law_cell_at", none), "_law_cell_at", "_law_cell_at", defArgs s__law_cell_at, defBody s__law_cell_at, defScope s__law_cell_at, [], []⟩
def D__law_whole : He.DefD := ⟨("_law_whole", none), "_law_whole", "_law_whole", defArgs s__law_whole, defBody s__law_whole, defScope s__law_whole, [], []⟩
def D__law_next : He.DefD := ⟨("_law_next", none), "_law_next", "_law_next", defArgs s__law_next, defBody s__law_next, defScope s__law_next, [], []⟩
def D__law_row : He.DefD := ⟨("_law_row", none), "_law_row", "_law_row", defArgs s__law_row, defBody s__law_row, defScope s__law_row, [], []⟩
def D__law_alike : He.DefD := ⟨("_law_alike", none), "_law_alike", "_law_alike", defArgs s__law_alike, defBody s__law_alike, defScope s__law_alike, [], []⟩
def D__law_kind : He.DefD := ⟨("_law_kind", none), "_law_kind", "_law_kind", defArgs s__law_kind, defBody s__law_kind, defScope s__law_kind, [], []⟩
def D__law_tried : He.DefD := ⟨("_law_tried", none), "_law_tried", "_law_tried", defArgs s__law_tried, defBody s__law_tried, defScope s__law_tried, [], []⟩
def D_law : He.DefD := ⟨("law", none), "law", "law", defArgs s_law, defBody s_law, defScope s_law, [], []⟩
def headFn : List He.DefD := [D_ask_row, D_summed, D_sums, D_tied, D__law_cell_at, D__law_whole, D__law_next, D__law_row, D__law_alike, D__law_kind, D__law_tried, D_law]
def headFa : List He.Fa := [.glo "ask_row", .glo "summed", .glo "sums", .glo "tied", .glo "_law_cell_at", .glo "_law_whole", .glo "_law_next", .glo "_law_row", .glo "_law_alike", .glo "_law_kind", .glo "_law_tried", .glo "law", .glo "SignError", .exc "SignError", .glo "NoRow", .exc "NoRow", .glo "NoSums", .exc "NoSums", .glo "NoMatch", .exc "NoMatch", .glo "TooLong", .exc "TooLong", .glo "NoStep", .exc "NoStep", .glo "NoSigns", .exc "NoSigns", .glo "NoChoice", .exc "NoChoice", .glo "NoFlat", .exc "NoFlat", .glo "NoNote", .exc "NoNote", .glo "LENGTHS", .int "MOST" 100000000000000000000, .int "MOST_LONG" 32, .free "ValueError", .free "bool", .free "int", .free "isinstance", .free "len", .free "list", .free "range", .exm "NoRow" "SignError" true, .exm "NoSums" "SignError" true, .exm "NoMatch" "SignError" true, .exm "TooLong" "SignError" true, .exm "NoStep" "SignError" true, .exm "NoSigns" "SignError" true, .exm "NoChoice" "SignError" true, .exm "NoFlat" "SignError" true, .exm "NoNote" "SignError" true, .exm "NoRow" "NoRow" true]
def headEx (K : PySem.W.Frag) : Bool := (He.tupB K "LENGTHS" [.int (1), .int (2), .int (4), .int (8), .int (16), .int (32)]) && (kindsB K)
abbrev headR : PySem.W.OpenRow := PySem.W.OpenLaw.row PySem.Challenge.rw_signsums_k06_tied
abbrev headHk : PySem.W.Hook := hookE 4 headFa headFn headEx
def headOb (s : PySem.W.SharedT) : AlE := obsE 4 headFa headFn headEx (HandSHeadRun.getT s)
theorem headOb_eq (s : PySem.W.SharedT) : headOb s = headHk.obs s.abs := obsE_eq (HandSHeadRun.getT_eq s)
def headLoose : List PySem.Str := ["SignError", "NoRow", "NoSums", "NoMatch", "TooLong", "NoStep", "NoSigns", "NoChoice", "NoFlat", "NoNote", "LENGTHS", "MOST", "ask_row", "summed", "sums", "MOST_LONG", "tied", "_law_cell_at", "_law_whole", "_law_next", "_law_row", "_law_alike", "_law_kind", "_law_tried"]
theorem headRun (w : World) : HandSHeadRun.RunEq headR (PySem.W.view headR.prog [28]) headHk headOb 3000 headLoose w := by
  intro os
  kernel_rfl
theorem head_txt {K : PySem.W.Frag} {h : Heap} {mg : Str → Option Value} (X : K.In h) (G : h.Ns mainGlobals mg) (c : SaysE headFa headFn headEx K) : Nonempty (Txt K mg) := by
  have fct : ∀ f : He.Fa, f ∈ headFa → f.ok K = true := fun f hf => by
    obtain ⟨i, hi⟩ := List.mem_iff_getElem?.mp hf
    exact c.1.fact i hi
  have hx := c.2
  unfold headEx at hx
  simp only [Bool.and_eq_true] at hx
  obtain ⟨d_ask_row, FD_ask_row⟩ := c.1.def_ 0 (d := D_ask_row) rfl
  have F_ask_row : Fun K "ask_row" "ask_row" s_ask_row (He.ga K "ask_row") d_ask_row := fun_of FD_ask_row
  obtain ⟨d_summed, FD_summed⟩ := c.1.def_ 1 (d := D_summed) rfl
  have F_summed : Fun K "summed" "summed" s_summed (He.ga K "summed") d_summed := fun_of FD_summed
  obtain ⟨d_sums, FD_sums⟩ := c.1.def_ 2 (d := D_sums) rfl
  have F_sums : Fun K "sums" "sums" s_sums (He.ga K "sums") d_sums := fun_of FD_sums
  obtain ⟨d_tied, FD_tied⟩ := c.1.def_ 3 (d := D_tied) rfl
  have F_tied : Fun K "tied" "tied" s_tied (He.ga K "tied") d_tied := fun_of FD_tied
  obtain ⟨d__law_cell_at, FD__law_cell_at⟩ := c.1.def_ 4 (d := D__law_cell_at) rfl
  have F__law_cell_at : Fun K "_law_cell_at" "_law_cell_at" s__law_cell_at (He.ga K "_law_cell_at") d__law_cell_at := fun_of FD__law_cell_at
  obtain ⟨d__law_whole, FD__law_whole⟩ := c.1.def_ 5 (d := D__law_whole) rfl
  have F__law_whole : Fun K "_law_whole" "_law_whole" s__law_whole (He.ga K "_law_whole") d__law_whole := fun_of FD__law_whole
  obtain ⟨d__law_next, FD__law_next⟩ := c.1.def_ 6 (d := D__law_next) rfl
  have F__law_next : Fun K "_law_next" "_law_next" s__law_next (He.ga K "_law_next") d__law_next := fun_of FD__law_next
  obtain ⟨d__law_row, FD__law_row⟩ := c.1.def_ 7 (d := D__law_row) rfl
  have F__law_row : Fun K "_law_row" "_law_row" s__law_row (He.ga K "_law_row") d__law_row := fun_of FD__law_row
  obtain ⟨d__law_alike, FD__law_alike⟩ := c.1.def_ 8 (d := D__law_alike) rfl
  have F__law_alike : Fun K "_law_alike" "_law_alike" s__law_alike (He.ga K "_law_alike") d__law_alike := fun_of FD__law_alike
  obtain ⟨d__law_kind, FD__law_kind⟩ := c.1.def_ 9 (d := D__law_kind) rfl
  have F__law_kind : Fun K "_law_kind" "_law_kind" s__law_kind (He.ga K "_law_kind") d__law_kind := fun_of FD__law_kind
  obtain ⟨d__law_tried, FD__law_tried⟩ := c.1.def_ 10 (d := D__law_tried) rfl
  have F__law_tried : Fun K "_law_tried" "_law_tried" s__law_tried (He.ga K "_law_tried") d__law_tried := fun_of FD__law_tried
  obtain ⟨d_law, FD_law⟩ := c.1.def_ 11 (d := D_law) rfl
  have F_law : Fun K "law" "law" s_law (He.ga K "law") d_law := fun_of FD_law
  exact ⟨{
    ValueError := He.free_ok X G (c.1.fact 35 (f := .free "ValueError") rfl)
    bool := He.free_ok X G (c.1.fact 36 (f := .free "bool") rfl)
    int := He.free_ok X G (c.1.fact 37 (f := .free "int") rfl)
    isinstance := He.free_ok X G (c.1.fact 38 (f := .free "isinstance") rfl)
    len := He.free_ok X G (c.1.fact 39 (f := .free "len") rfl)
    list := He.free_ok X G (c.1.fact 40 (f := .free "list") rfl)
    range := He.free_ok X G (c.1.fact 41 (f := .free "range") rfl)
    m_SignError := He.glo_ok X G (c.1.fact 12 (f := .glo "SignError") rfl)
    x_SignError := xok_of (c.1.fact 13 (f := .exc "SignError") rfl)
    m_NoRow := He.glo_ok X G (c.1.fact 14 (f := .glo "NoRow") rfl)
    x_NoRow := xok_of (c.1.fact 15 (f := .exc "NoRow") rfl)
    m_NoSums := He.glo_ok X G (c.1.fact 16 (f := .glo "NoSums") rfl)
    x_NoSums := xok_of (c.1.fact 17 (f := .exc "NoSums") rfl)
    m_NoMatch := He.glo_ok X G (c.1.fact 18 (f := .glo "NoMatch") rfl)
    x_NoMatch := xok_of (c.1.fact 19 (f := .exc "NoMatch") rfl)
    m_TooLong := He.glo_ok X G (c.1.fact 20 (f := .glo "TooLong") rfl)
    x_TooLong := xok_of (c.1.fact 21 (f := .exc "TooLong") rfl)
    m_NoStep := He.glo_ok X G (c.1.fact 22 (f := .glo "NoStep") rfl)
    x_NoStep := xok_of (c.1.fact 23 (f := .exc "NoStep") rfl)
    m_NoSigns := He.glo_ok X G (c.1.fact 24 (f := .glo "NoSigns") rfl)
    x_NoSigns := xok_of (c.1.fact 25 (f := .exc "NoSigns") rfl)
    m_NoChoice := He.glo_ok X G (c.1.fact 26 (f := .glo "NoChoice") rfl)
    x_NoChoice := xok_of (c.1.fact 27 (f := .exc "NoChoice") rfl)
    m_NoFlat := He.glo_ok X G (c.1.fact 28 (f := .glo "NoFlat") rfl)
    x_NoFlat := xok_of (c.1.fact 29 (f := .exc "NoFlat") rfl)
    m_NoNote := He.glo_ok X G (c.1.fact 30 (f := .glo "NoNote") rfl)
    x_NoNote := xok_of (c.1.fact 31 (f := .exc "NoNote") rfl)
    m_LENGTHS := He.glo_ok X G (c.1.fact 32 (f := .glo "LENGTHS") rfl)
    v_LENGTHS := fun H => He.tupB_ok hx.1 H
    m_MOST := He.int_ok X G (c.1.fact 33 (f := .int "MOST" 100000000000000000000) rfl)
    m_MOST_LONG := He.int_ok X G (c.1.fact 34 (f := .int "MOST_LONG" 32) rfl)
    d_ask_row := d_ask_row
    g_ask_row := He.glo_ok X G (c.1.fact 0 (f := .glo "ask_row") rfl)
    F_ask_row := F_ask_row
    b_ask_row := F_ask_row.binds fun _ _ _ _ _ _ us hl => match us, hl with | [_], _ => rfl
    d_summed := d_summed
    g_summed := He.glo_ok X G (c.1.fact 1 (f := .glo "summed") rfl)
    F_summed := F_summed
    b_summed := F_summed.binds fun _ _ _ _ _ _ us hl => match us, hl with | [_], _ => rfl
    d_sums := d_sums
    g_sums := He.glo_ok X G (c.1.fact 2 (f := .glo "sums") rfl)
    F_sums := F_sums
    b_sums := F_sums.binds fun _ _ _ _ _ _ us hl => match us, hl with | [_], _ => rfl
    d_tied := d_tied
    g_tied := He.glo_ok X G (c.1.fact 3 (f := .glo "tied") rfl)
    F_tied := F_tied
    b_tied := F_tied.binds fun _ _ _ _ _ _ us hl => match us, hl with | [_, _], _ => rfl
    d__law_cell_at := d__law_cell_at
    g__law_cell_at := He.glo_ok X G (c.1.fact 4 (f := .glo "_law_cell_at") rfl)
    F__law_cell_at := F__law_cell_at
    b__law_cell_at := F__law_cell_at.binds fun _ _ _ _ _ _ us hl => match us, hl with | [_, _], _ => rfl
    d__law_whole := d__law_whole
    g__law_whole := He.glo_ok X G (c.1.fact 5 (f := .glo "_law_whole") rfl)
    F__law_whole := F__law_whole
    b__law_whole := F__law_whole.binds fun _ _ _ _ _ _ us hl => match us, hl with | [_], _ => rfl
    d__law_next := d__law_next
    g__law_next := He.glo_ok X G (c.1.fact 6 (f := .glo "_law_next") rfl)
    F__law_next := F__law_next
    b__law_next := F__law_next.binds fun _ _ _ _ _ _ us hl => match us, hl with | [_], _ => rfl
    d__law_row := d__law_row
    g__law_row := He.glo_ok X G (c.1.fact 7 (f := .glo "_law_row") rfl)
    F__law_row := F__law_row
    b__law_row := F__law_row.binds fun _ _ _ _ _ _ us hl => match us, hl with | [_, _, _, _], _ => rfl
    d__law_alike := d__law_alike
    g__law_alike := He.glo_ok X G (c.1.fact 8 (f := .glo "_law_alike") rfl)
    F__law_alike := F__law_alike
    b__law_alike := F__law_alike.binds fun _ _ _ _ _ _ us hl => match us, hl with | [_, _], _ => rfl
    d__law_kind := d__law_kind
    g__law_kind := He.glo_ok X G (c.1.fact 9 (f := .glo "_law_kind") rfl)
    F__law_kind := F__law_kind
    b__law_kind := F__law_kind.binds fun _ _ _ _ _ _ us hl => match us, hl with | [_], _ => rfl
    d__law_tried := d__law_tried
    g__law_tried := He.glo_ok X G (c.1.fact 10 (f := .glo "_law_tried") rfl)
    F__law_tried := F__law_tried
    b__law_tried := F__law_tried.binds fun _ _ _ _ _ _ us hl => match us, hl with | [_, _], _ => rfl
    d_law := d_law
    g_law := He.glo_ok X G (c.1.fact 11 (f := .glo "law") rfl)
    F_law := F_law
    b_law := F_law.binds fun _ _ _ _ _ _ us hl => match us, hl with | [_], _ => rfl
    kinds := kindsB_ok hx.2
    c_NoRow := He.exm_ok (c.1.fact 42 (f := .exm "NoRow" "SignError" true) rfl)
    c_NoSums := He.exm_ok (c.1.fact 43 (f := .exm "NoSums" "SignError" true) rfl)
    c_NoMatch := He.exm_ok (c.1.fact 44 (f := .exm "NoMatch" "SignError" true) rfl)
    c_TooLong := He.exm_ok (c.1.fact 45 (f := .exm "TooLong" "SignError" true) rfl)
    c_NoStep := He.exm_ok (c.1.fact 46 (f := .exm "NoStep" "SignError" true) rfl)
    c_NoSigns := He.exm_ok (c.1.fact 47 (f := .exm "NoSigns" "SignError" true) rfl)
    c_NoChoice := He.exm_ok (c.1.fact 48 (f := .exm "NoChoice" "SignError" true) rfl)
    c_NoFlat := He.exm_ok (c.1.fact 49 (f := .exm "NoFlat" "SignError" true) rfl)
    c_NoNote := He.exm_ok (c.1.fact 50 (f := .exm "NoNote" "SignError" true) rfl) }⟩
end Sg
namespace Sg
open PySem PySem.Spec PyProof.Rows L2 Evl
section
variable {P : Program} {w : World} {K : PySem.W.Frag} {mg : Str → Option Value} {base : Heap}
theorem law_binds (T : Txt K mg) (s : Shared) (u : Value) : BindsTo s T.d_law ⟨[u], []⟩ [("script", u)] := by
  obtain ⟨oc, od, kV, doc, pm, an, cdv, ct, osl, e, _, _⟩ := T.F_law.ex
  rw [e]
  exact .of_eq rfl
theorem all_ok (T : Txt K mg) : FnOk P w K mg base CX0 4 (He.ga K "law") T.d_law ["script"] (sp_law K) := by
  have G_ask_row := ok_ask_row (P := P) (w := w) (base := base) T
  have G_summed := ok_summed (P := P) (w := w) (base := base) T
  have G_law_cell_at := ok_law_cell_at (P := P) (w := w) (base := base) T
  have G_law_whole := ok_law_whole (P := P) (w := w) (base := base) T
  have G_law_next := ok_law_next (P := P) (w := w) (base := base) T
  have G_law_kind := ok_law_kind (P := P) (w := w) (base := base) T
  have G_sums := ok_sums (P := P) (w := w) (base := base) T G_ask_row G_summed
  have G_tied := ok_tied (P := P) (w := w) (base := base) T G_ask_row
  have G_law_row := ok_law_row (P := P) (w := w) (base := base) T G_law_next
  have G_law_alike := ok_law_alike (P := P) (w := w) (base := base) T G_law_whole
  have G_law_tried := ok_law_tried (P := P) (w := w) (base := base) T G_tied G_law_kind
  have G_law := ok_law (P := P) (w := w) (base := base) T G_law_row G_law_tried G_law_cell_at G_law_alike G_sums G_tied
  exact G_law
end
end Sg
open PySem PySem.W PySem.Calls PyProof.Rows
set_option maxHeartbeats 0 in
theorem PySem.Challenge.cw_signsums_k06_tied_holds : PySem.Challenge.rw_signsums_k06_tied.Holds := by
  w_on; o_law
  refine HandSHeadRun.head_any (r := OpenLaw.row PySem.Challenge.rw_signsums_k06_tied) (q := view (OpenLaw.row PySem.Challenge.rw_signsums_k06_tied).prog [28]) (H := Sg.headHk) (ob := Sg.headOb) (M := 3000) (loose := Sg.headLoose) (d := HandSHeadRun.topDef (OpenLaw.row PySem.Challenge.rw_signsums_k06_tied).prog 28) (kwd := []) Sg.headOb_eq
    (by kernel_rfl) (fun s => by kernel_rfl) Sg.headRun (by kernel_rfl) (by kernel_rfl) (by kernel_rfl) (by rfl) (by first | assumption | decide +kernel) (by decide +kernel) ⟨rfl, rfl, rfl, rfl, rfl, by decide +kernel⟩ ?hw ?hc
  case hw => w_witness2
  case hc =>
    refine L2.walk_ofE (l := PySem.Challenge.rw_signsums_k06_tied) (n := 63) (k := 4) (x := "script") (CX := L2.CX0) rfl (by decide) (by kernel_rfl) ⟨rfl, by decide, by decide⟩ ?F (fun _ _ _ _ z => z)
    intro w mg fa h Y G hmg0
    obtain ⟨K, KX, c⟩ := Y
    obtain ⟨T⟩ := Sg.head_txt KX G c
    have hmg : mg ("law" : PySem.Str) = some (.ref fa) := by
      have e : (HandSHeadRun.topDef (OpenLaw.row PySem.Challenge.rw_signsums_k06_tied).prog 28).name = ("law" : PySem.Str) := by kernel_rfl
      rw [← e]
      exact hmg0
    have ea := T.g_law.symm.trans hmg
    cases ea
    have b := T.b_law
    exact ⟨K, T.d_law, Sg.sp_law K, KX, Sg.law_binds T, fun H a ns hl _ hS => ⟨a, ns, rfl, hS, hl, fun _ => rfl⟩, fun base _ _ => Sg.all_ok T⟩

