import PyProof.Rows.All
import Wide.All
import OpenK.AllK
import Wide.FinOn
import Lean
import KE.KIsAll
import HandS.ForMost
import HandS.ForExc
import HandS.Evl
import HandS.Wide
import HandS.IsInst
import HandS.ExcIs
import HandS.Zip
import HandS.Conv
import HandS.Defaults
import HandS.HotCalls
import HandS.SuiteRaise
import HandS.Walk
import HandS.ReplaceLit
import HandS.ReplaceList
import KE.GoesRaise
import HandS.Head0
import HandS.Head1
import HandS.Head2
import HandS.HeadEnd
import HandS.HeadHook1
import HandS.HeadHook2
import PySem.Challenge.RW_signsums_k14_unread
set_option Elab.async false
set_option linter.all false
set_option maxRecDepth 100000
set_option maxHeartbeats 4000000
namespace Sg
open PySem PySem.Spec PyProof.Rows L2 Evl
/-! ### the readings' short names -/
abbrev rAddI : R2 := rI0 fun i j => .int (i + j)
abbrev rSubI : R2 := rI0 fun i j => .int (i - j)
abbrev rMulI : R2 := rI CMulW fun i j => .int (i * j)
abbrev rModI : R2 := rI (fun _ j => 0 < j) fun i j => .int (i % j)
abbrev rDivI : R2 := rI CDiv fun i j => .int (i / j)
abbrev rPowI : R2 := rI CPow fun i j => .int (i ^ j.toNat)
abbrev rNegI : V → Hp → VK → Prop := rU fun i => .int (-i)
abbrev rLtI : R2 := rI0 fun i j => .bl (decide (i < j))
abbrev rLeI : R2 := rI0 fun i j => .bl (decide (i ≤ j))
abbrev rGtI : R2 := rI0 fun i j => .bl (decide (j < i))
abbrev rGeI : R2 := rI0 fun i j => .bl (decide (j ≤ i))
abbrev rIsNo : R2 := fun x y H Q => y = .non ∧ Q (.bl (decide (x = .non))) H
abbrev rAddStr : R2 := fun x y H Q => ∃ i j, x = .str i ∧ y = .str j ∧ i.length + j.length ≤ sizeLine ∧ Q (.str (i ++ j)) H
abbrev rAbs : List V → Hp → VK → Prop := fun xs H Q => ∃ i, xs = [.int i] ∧ Q (.int (if i < 0 then -i else i)) H
abbrev rInt1 : List V → Hp → VK → Prop := fun xs H Q => (∃ i, xs = [.int i] ∧ Q (.int i) H) ∨ ∃ k, xs = [.bl k] ∧ Q (.int (if k then 1 else 0)) H
abbrev rIntStr : List V → Hp → VK → Prop := fun xs H Q => ∃ a n, xs = [.str a] ∧ PySem.intText? a = some n ∧ a.length ≤ 640 ∧ Q (.int n) H
abbrev rStrInt : List V → Hp → VK → Prop := fun xs H Q => ∃ i, xs = [.int i] ∧ i.natAbs.log2 < 1920 ∧ Q (.str (toString i)) H
abbrev rLenStr : List V → Hp → VK → Prop := fun xs H Q => ∃ z, xs = [.str z] ∧ z.length ≤ sizeLine ∧ Q (.int z.length) H
/-- raise of an own class -/
def tRz (E : XK) (C : Addr) : TS := fun _ _ H => E (.ref C) none H
/-! ### an own class of errors, as the head tells it -/
structure XOk (K : PySem.W.Frag) (C : Addr) : Prop where
  ok : PySem.W.excIn K C [.type "ValueError", .type "Exception", .type "BaseException", .type "object"] "ValueError.__new__" = true
  kp : PySem.W.keepIn K (.ref C) = true
  sb : PySem.W.subIn K (.ref C) (.type "BaseException") = some true
  ty : PySem.W.typeIn K (.ref C) = some (.type "type")
end Sg
namespace Sg
open PySem PySem.Spec PyProof.Rows L2 Evl
/-! ### rows -/
def IsRow (ns : List Int) : Prop := ns.length ∈ [1, 2, 4, 8, 16, 32] ∧ ∀ x ∈ ns, -100000000000000000000 ≤ x ∧ x ≤ 100000000000000000000
/-- the sum of the first n values -/
def sm (n : Nat) (f : Nat → Int) : Int := ((List.range n).map f).sum
/-- the sign of a place by a choice, as the law reckons it -/
def sgStep (p c : Int) (f w : Int) : Int := if p / w % 2 = 1 ∧ c / w % 2 = 1 then 0 - f else f
def sg (p c : Int) : Int := [1, 2, 4, 8, 16].foldl (sgStep p c) 1
def sumAt (ns : List Int) (c : Nat) : Int := sm ns.length fun p => sg p c * ns.getD p 0
def sumsL (ns : List Int) : List Int := (List.range ns.length).map (sumAt ns)
/-! ### the law's draws -/
def cellAt (ns : List Int) (k : Nat) : Int := ns.getD k 0
def lawNext (s : Int) : Int := ((s + 7919) % 2147483647 * ((s + 7919) % 2147483647) + 48271 * ((s + 7919) % 2147483647) + 12345) % 2147483629
def num1 (cell way great : Int) : Int := if way / 4 % 2 = 1 then (cell / 7 % 2000001 - 1000000) * great + (1 - 2 * (if cell / 7 % 2000001 - 1000000 < 0 then 1 else 0)) * (cell / 64 % great) else cell / 7 % 2000001 - 1000000
def num2 (cell way x : Int) : Int := if way % 4 = 0 then 1 - 2 * (cell / 7 % 2) else x
def num3 (cell way x : Int) : Int := if way % 4 = 1 then cell / 7 % 9 - 4 else x
def num4 (cell way x : Int) : Int := if way % 4 = 3 ∧ 0 < cell / 14000007 % 3 then 0 else x
def lawNum (cell way great : Int) : Int := num4 cell way (num3 cell way (num2 cell way (num1 cell way great)))
/-- the cell behind i turns -/
def lawCell (cell : Int) : Nat → Int
  | 0 => cell
  | i + 1 => lawNext (lawCell cell i % 1000003 + 31 * (i : Int))
def lawRow (cell : Int) (n : Nat) (way great : Int) : List Int := (List.range n).map fun i => lawNum (lawCell cell (i + 1)) way great
end Sg
namespace Sg
theorem sg_abs_aux (p c : Int) : ∀ (l : List Int) (f : Int), f.natAbs = 1 → (l.foldl (sgStep p c) f).natAbs = 1
  | [], _, h => h
  | w :: l, f, h => by
    refine sg_abs_aux p c l _ ?_
    unfold sgStep
    split <;> omega
theorem sg_abs1 (p c : Int) : (sg p c).natAbs = 1 := sg_abs_aux p c _ 1 rfl
theorem sg_abs (p c : Int) : (sg p c).natAbs < 2 ^ 2 := by rw [sg_abs1]; decide
end Sg
namespace Sg
theorem lawNext_bd (s : Int) : 0 ≤ lawNext s ∧ lawNext s < 2147483629 := by
  unfold lawNext
  omega
theorem lawCell_bd (c : Int) (i : Nat) : 0 ≤ lawCell c (i + 1) ∧ lawCell c (i + 1) < 2147483629 := lawNext_bd _
theorem lawRow_length (c : Int) (n : Nat) (w g : Int) : (lawRow c n w g).length = n := by
  unfold lawRow
  rw [List.length_map, List.length_range]
theorem pow_cases {s : Nat} (h : s ≤ 5) : s = 0 ∨ s = 1 ∨ s = 2 ∨ s = 3 ∨ s = 4 ∨ s = 5 := by omega
end Sg
namespace Sg
/-! ### how great the law's numbers are -/
theorem num1_bd {cell way g : Int} (hc : 0 ≤ cell) (hg : 0 < g) : -(1000001 * g) ≤ num1 cell way g ∧ num1 cell way g ≤ 1000001 * g := by
  unfold num1
  have z0 : -1000000 ≤ cell / 7 % 2000001 - 1000000 ∧ cell / 7 % 2000001 - 1000000 ≤ 1000000 := by omega
  generalize cell / 7 % 2000001 - 1000000 = n at z0
  have z1 := Int.emod_nonneg (cell / 64) (show g ≠ 0 by omega)
  have z2 := Int.emod_lt_of_pos (cell / 64) hg
  generalize cell / 64 % g = r at z1 z2
  have h1 : n * g ≤ 1000000 * g := Int.mul_le_mul_of_nonneg_right z0.2 (by omega)
  have h2 : (-1000000) * g ≤ n * g := Int.mul_le_mul_of_nonneg_right z0.1 (by omega)
  generalize n * g = m at h1 h2
  split
  · split
    · rw [show (1 - 2 * 1 : Int) = -1 from rfl]
      omega
    · omega
  · omega
theorem lawNum_bd {cell way g : Int} (hc : 0 ≤ cell) (hg : 0 < g) : -(1000001 * g) ≤ lawNum cell way g ∧ lawNum cell way g ≤ 1000001 * g := by
  have h1 := num1_bd (way := way) hc hg
  unfold lawNum num4 num3 num2
  generalize num1 cell way g = n at h1
  have a1 : 0 ≤ cell / 7 % 2 ∧ cell / 7 % 2 ≤ 1 := by omega
  have a2 : 0 ≤ cell / 7 % 9 ∧ cell / 7 % 9 ≤ 8 := by omega
  repeat' split
  all_goals omega
theorem lawRow_bd {c way g : Int} {n : Nat} (hg : 0 < g) : ∀ x ∈ lawRow c n way g, -(1000001 * g) ≤ x ∧ x ≤ 1000001 * g := by
  intro x hx
  unfold lawRow at hx
  obtain ⟨i, _, rfl⟩ := List.mem_map.mp hx
  exact lawNum_bd (lawCell_bd c i).1 hg
theorem pow_mem {s : Nat} (h : s ≤ 5) : 2 ^ s ∈ [1, 2, 4, 8, 16, 32] := by
  rcases pow_cases h with rfl | rfl | rfl | rfl | rfl | rfl <;> decide
theorem lawRow_isRow {c way g : Int} {s : Nat} (hs : s ≤ 5) (hg : 0 < g) (hb : 1000001 * g ≤ 100000000000000000000) : IsRow (lawRow c (2 ^ s) way g) := by
  refine ⟨by rw [lawRow_length]; exact pow_mem hs, fun x hx => ?_⟩
  have := lawRow_bd hg x hx
  omega
/-- sums are as long as the row -/
theorem sumsL_length (ns : List Int) : (sumsL ns).length = ns.length := by
  unfold sumsL
  rw [List.length_map, List.length_range]
/-- the law's steps: a rest by n, and one more -/
theorem steps_at (i j : Int) (n : Nat) (hn : 0 < n) : ∃ s : Nat, s ≤ n ∧ i % (n : Int) + (if decide (j % 6 = 1) = true then 1 else 0) = (s : Int) := by
  have h1 := Int.emod_nonneg i (show (n : Int) ≠ 0 by omega)
  have h2 := Int.emod_lt_of_pos i (show (0 : Int) < n by omega)
  refine ⟨(i % (n : Int) + (if decide (j % 6 = 1) = true then 1 else 0)).toNat, ?_, ?_⟩ <;> split <;> omega
end Sg
namespace Sg
/-! ### sums -/
theorem sm_zero (f : Nat → Int) : sm 0 f = 0 := rfl
theorem sum_append1 (l : List Int) (x : Int) : (l ++ [x]).sum = l.sum + x := by
  induction l with
  | nil => simp
  | cons a l ih => rw [List.cons_append, List.sum_cons, List.sum_cons, ih]; omega
theorem sm_succ (n : Nat) (f : Nat → Int) : sm (n + 1) f = sm n f + f n := by
  unfold sm
  rw [List.range_succ, List.map_append]
  exact sum_append1 _ _
theorem sm_congr {n : Nat} {f g : Nat → Int} (h : ∀ i, i < n → f i = g i) : sm n f = sm n g := by
  induction n with
  | zero => rfl
  | succ n ih => rw [sm_succ, sm_succ, ih fun i hi => h i (by omega), h n (by omega)]
theorem sm_add (n : Nat) (f g : Nat → Int) : sm n (fun i => f i + g i) = sm n f + sm n g := by
  induction n with
  | zero => rfl
  | succ n ih => rw [sm_succ, sm_succ, sm_succ, ih]; omega
theorem sm_sub (n : Nat) (f g : Nat → Int) : sm n (fun i => f i - g i) = sm n f - sm n g := by
  induction n with
  | zero => rfl
  | succ n ih => rw [sm_succ, sm_succ, sm_succ, ih]; omega
theorem sm_mulL (n : Nat) (a : Int) (f : Nat → Int) : sm n (fun i => a * f i) = a * sm n f := by
  induction n with
  | zero => rw [sm_zero, sm_zero, Int.mul_zero]
  | succ n ih => rw [sm_succ, sm_succ, ih, Int.mul_add]
theorem sm_mulR (n : Nat) (a : Int) (f : Nat → Int) : sm n (fun i => f i * a) = sm n f * a := by
  rw [Int.mul_comm, ← sm_mulL]
  exact sm_congr fun i _ => Int.mul_comm _ _
theorem sm_const0 (n : Nat) : sm n (fun _ => 0) = 0 := by
  induction n with
  | zero => rfl
  | succ n ih => rw [sm_succ, ih] <;> rfl
theorem sm_swap (n m : Nat) (f : Nat → Nat → Int) : sm n (fun i => sm m (fun j => f i j)) = sm m (fun j => sm n (fun i => f i j)) := by
  induction n with
  | zero => rw [sm_zero, show sm m (fun j => sm 0 fun i => f i j) = sm m (fun _ => 0) from rfl, sm_const0]
  | succ n ih =>
    rw [sm_succ, ih, ← sm_add]
    exact sm_congr fun j _ => (sm_succ n fun i => f i j).symm
theorem sm_delta (n : Nat) (f : Nat → Int) (j : Nat) : sm n (fun p => f p * (if p = j then 1 else 0)) = if j < n then f j else 0 := by
  induction n with
  | zero => rw [sm_zero, if_neg (by omega)]
  | succ n ih =>
    rw [sm_succ, ih]
    by_cases h : n = j
    · rw [if_pos h, h, if_neg (by omega), if_pos (by omega)]; omega
    · rw [if_neg h]
      by_cases h2 : j < n
      · rw [if_pos h2, if_pos (by omega)]; omega
      · rw [if_neg h2, if_neg (by omega)]; omega
theorem sm_split (n m : Nat) (f : Nat → Int) : sm (n + m) f = sm n f + sm m (fun i => f (n + i)) := by
  induction m with
  | zero => rw [sm_zero, Nat.add_zero]; omega
  | succ m ih => rw [← Nat.add_assoc, sm_succ, ih, sm_succ]; omega
/-! ### the program's steps -/
def stepAt (w : Nat) (f : Nat → Int) (j : Nat) : Int := if j / w % 2 = 0 then f j + f (j + w) else f (j - w) - f j
def fast : Nat → (Nat → Int) → Nat → Int
  | 0, f => f
  | k + 1, f => stepAt (2 ^ k) (fast k f)
theorem fast_lin (n : Nat) (a : Nat → Int) (d : Nat → Nat → Int) : ∀ k c, fast k (fun j => sm n fun p => a p * d p j) c = sm n fun p => a p * fast k (d p) c
  | 0, _ => rfl
  | k + 1, c => by
    have ih := fast_lin n a d k
    show stepAt (2 ^ k) (fast k (fun j => sm n fun p => a p * d p j)) c = _
    unfold stepAt
    by_cases h : c / 2 ^ k % 2 = 0
    · rw [if_pos h, ih, ih, ← sm_add]
      refine sm_congr fun p _ => ?_
      show _ = a p * stepAt (2 ^ k) (fast k (d p)) c
      unfold stepAt
      rw [if_pos h, Int.mul_add]
    · rw [if_neg h, ih, ih, ← sm_sub]
      refine sm_congr fun p _ => ?_
      show _ = a p * stepAt (2 ^ k) (fast k (d p)) c
      unfold stepAt
      rw [if_neg h, Int.mul_sub]
theorem fast_basis : ∀ s, s < 6 → ∀ p, p < 2 ^ s → ∀ c, c < 2 ^ s → fast s (fun j => if p = j then 1 else 0) c = sg p c := by decide +kernel
theorem fast_eq {s : Nat} (hs : s < 6) {f : Nat → Int} (hf : ∀ j, 2 ^ s ≤ j → f j = 0) {c : Nat} (hc : c < 2 ^ s) : fast s f c = sm (2 ^ s) fun p => sg p c * f p := by
  have e : f = fun j => sm (2 ^ s) fun p => f p * (if p = j then 1 else 0) := by
    funext j
    rw [sm_delta]
    by_cases h : j < 2 ^ s
    · rw [if_pos h]
    · rw [if_neg h, hf j (by omega)]
  have e2 := fast_lin (2 ^ s) f (fun p j => if p = j then 1 else 0) s c
  rw [← e] at e2
  rw [e2]
  exact sm_congr fun p hp => by rw [fast_basis s hs p hp c hc, Int.mul_comm]
theorem half_lt {s k j : Nat} (hs : s < 6) (hk : k < s) (hj : j < 2 ^ s) (h : j / 2 ^ k % 2 = 0) : j + 2 ^ k < 2 ^ s := by
  have z : ∀ s, s < 6 → ∀ k, k < s → ∀ j, j < 2 ^ s → j / 2 ^ k % 2 = 0 → j + 2 ^ k < 2 ^ s := by decide +kernel
  exact z s hs k hk j hj h
theorem odd_ge {k j : Nat} (h : ¬ j / 2 ^ k % 2 = 0) : 2 ^ k ≤ j := by
  refine Nat.le_of_not_lt fun q => h ?_
  rw [Nat.div_eq_of_lt q]
end Sg
namespace Sg
theorem pow_le' {s : Nat} (h : s < 6) : 2 ^ s ≤ 32 := by
  have z : ∀ s, s < 6 → 2 ^ s ≤ 32 := by decide
  exact z s h
end Sg
namespace Sg
theorem row_pos {ns : List Int} (h : IsRow ns) : 0 < ns.length ∧ ns.length ≤ 32 := by
  have := h.1
  simp only [List.mem_cons, List.not_mem_nil, or_false] at this
  omega
theorem row_len {ns : List Int} (h : IsRow ns) : ns.length ∈ [1, 2, 4, 8, 16, 32] := h.1
theorem pow_of_mem {n : Nat} (h : n ∈ [1, 2, 4, 8, 16, 32]) : ∃ s, s < 6 ∧ n = 2 ^ s := by
  simp only [List.mem_cons, List.not_mem_nil, or_false] at h
  rcases h with rfl | rfl | rfl | rfl | rfl | rfl
  · exact ⟨0, by decide, rfl⟩
  · exact ⟨1, by decide, rfl⟩
  · exact ⟨2, by decide, rfl⟩
  · exact ⟨3, by decide, rfl⟩
  · exact ⟨4, by decide, rfl⟩
  · exact ⟨5, by decide, rfl⟩
theorem pow_le32 {s : Nat} (h : s < 6) : 2 ^ s ≤ 32 ∧ 1 ≤ 2 ^ s := by
  have z : ∀ s, s < 6 → 2 ^ s ≤ 32 ∧ 1 ≤ 2 ^ s := by decide
  exact z s h
theorem ints_ext {L : List Int} {n : Nat} {f : Nat → Int} (hl : L.length = n) (h : ∀ j, j < n → L.getD j 0 = f j) : L = (List.range n).map f := by
  refine List.ext_getElem (by rw [List.length_map, List.length_range, hl]) fun k h1 h2 => ?_
  have z := h k (by omega)
  rw [List.getD_eq_getElem?_getD, List.getElem?_eq_getElem h1] at z
  rw [List.getElem_map, List.getElem_range]
  exact z
theorem getD_set {L : List Int} {k j : Nat} {v : Int} (hk : k < L.length) : (L.set k v).getD j 0 = if j = k then v else L.getD j 0 := by
  rw [List.getD_eq_getElem?_getD, List.getElem?_set, List.getD_eq_getElem?_getD]
  by_cases h : k = j
  · rw [if_pos h, if_pos (by omega), if_pos h.symm] <;> rfl
  · rw [if_neg h, if_neg (fun e => h e.symm)]
end Sg
namespace Sg
open PySem PySem.Spec PyProof.Rows L2 Evl
/-! ### promises -/
def sp_ask_row (K : PySem.W.Frag) : Sp := fun vs H Q E => ∃ (a : Addr) (ns : List Int), vs = [.ref a] ∧ SqL K H a (ns.map V.int) ∧
  (IsRow ns → ∀ H', Ex H H' → Q .non H') ∧ (¬ IsRow ns → ∀ H', Ex H H' → E (.ref (He.ga K "NoRow")) none H')
def sp_summed (K : PySem.W.Frag) : Sp := fun vs H Q _ => ∃ (a : Addr) (ns : List Int), vs = [.ref a] ∧ SqL K H a (ns.map V.int) ∧ ns.length ∈ [1, 2, 4, 8, 16, 32] ∧ RetL ((sumsL ns).map V.int) H Q
def sp_sums (K : PySem.W.Frag) : Sp := fun vs H Q E => ∃ (a : Addr) (ns : List Int), vs = [.ref a] ∧ SqL K H a (ns.map V.int) ∧
  (IsRow ns → RetL ((sumsL ns).map V.int) H Q) ∧ (¬ IsRow ns → ∀ H', Ex H H' → E (.ref (He.ga K "NoRow")) none H')
def sp_law_cell_at (K : PySem.W.Frag) : Sp := fun vs H Q _ => ∃ (a : Addr) (ns : List Int) (k : Nat), vs = [.ref a, .int k] ∧ SqL K H a (ns.map V.int) ∧ RetV (.int (cellAt ns k)) H Q
def sp_law_whole (K : PySem.W.Frag) : Sp := fun vs H Q _ => ∃ i : Int, vs = [.int i] ∧ RetV (.bl true) H Q
def sp_law_next (K : PySem.W.Frag) : Sp := fun vs H Q _ => ∃ i : Int, vs = [.int i] ∧ RetV (.int (lawNext i)) H Q
def sp_law_row (K : PySem.W.Frag) : Sp := fun vs H Q _ => ∃ (c : Int) (s : Nat) (w g : Int), vs = [.int c, .int s, .int w, .int g] ∧ s ≤ 5 ∧ 0 < g ∧ g < 1073741824 * 1073741824 ∧ RetL ((lawRow c (2 ^ s) w g).map V.int) H Q
def sp_law_sign (K : PySem.W.Frag) : Sp := fun vs H Q _ => ∃ (p c : Int), vs = [.int p, .int c] ∧ RetV (.int (sg p c)) H Q
def sp_law_sums (K : PySem.W.Frag) : Sp := fun vs H Q _ => ∃ (a : Addr) (ns : List Int), vs = [.ref a] ∧ SqL K H a (ns.map V.int) ∧ ns.length ≤ 32 ∧ (∀ x ∈ ns, x.natAbs < 2 ^ 100) ∧ RetL ((sumsL ns).map V.int) H Q
def sp_law_alike (K : PySem.W.Frag) : Sp := fun vs H Q _ => ∃ (a b : Addr) (ns ms : List Int), vs = [.ref a, .ref b] ∧ SqL K H a (ns.map V.int) ∧ SqL K H b (ms.map V.int) ∧ ns.length ≤ 1000 ∧ RetV (.bl (decide (ns = ms))) H Q
def sp_law (K : PySem.W.Frag) : Sp := fun vs H Q _ => ∃ (a : Addr) (ns : List Int), vs = [.ref a] ∧ SqL K H a (ns.map V.int) ∧ ns.length ≤ 63 ∧ ∀ H', Q (.bl true) H'
/-! ### how many arguments -/
theorem len_ask_row {K : PySem.W.Frag} : ∀ vs H Q E, sp_ask_row K vs H Q E → vs.length = 1 := fun _ _ _ _ h => by
  obtain ⟨_, _, rfl, _⟩ := h; rfl
theorem len_summed {K : PySem.W.Frag} : ∀ vs H Q E, sp_summed K vs H Q E → vs.length = 1 := fun _ _ _ _ h => by
  obtain ⟨_, _, rfl, _⟩ := h; rfl
theorem len_sums {K : PySem.W.Frag} : ∀ vs H Q E, sp_sums K vs H Q E → vs.length = 1 := fun _ _ _ _ h => by
  obtain ⟨_, _, rfl, _⟩ := h; rfl
theorem len_law_cell_at {K : PySem.W.Frag} : ∀ vs H Q E, sp_law_cell_at K vs H Q E → vs.length = 2 := fun _ _ _ _ h => by
  obtain ⟨_, _, _, rfl, _⟩ := h; rfl
theorem len_law_whole {K : PySem.W.Frag} : ∀ vs H Q E, sp_law_whole K vs H Q E → vs.length = 1 := fun _ _ _ _ h => by
  obtain ⟨_, rfl, _⟩ := h; rfl
theorem len_law_next {K : PySem.W.Frag} : ∀ vs H Q E, sp_law_next K vs H Q E → vs.length = 1 := fun _ _ _ _ h => by
  obtain ⟨_, rfl, _⟩ := h; rfl
theorem len_law_row {K : PySem.W.Frag} : ∀ vs H Q E, sp_law_row K vs H Q E → vs.length = 4 := fun _ _ _ _ h => by
  obtain ⟨_, _, _, _, rfl, _⟩ := h; rfl
theorem len_law_sign {K : PySem.W.Frag} : ∀ vs H Q E, sp_law_sign K vs H Q E → vs.length = 2 := fun _ _ _ _ h => by
  obtain ⟨_, _, rfl, _⟩ := h; rfl
theorem len_law_sums {K : PySem.W.Frag} : ∀ vs H Q E, sp_law_sums K vs H Q E → vs.length = 1 := fun _ _ _ _ h => by
  obtain ⟨_, _, rfl, _⟩ := h; rfl
theorem len_law_alike {K : PySem.W.Frag} : ∀ vs H Q E, sp_law_alike K vs H Q E → vs.length = 2 := fun _ _ _ _ h => by
  obtain ⟨_, _, _, _, rfl, _⟩ := h; rfl
theorem len_law {K : PySem.W.Frag} : ∀ vs H Q E, sp_law K vs H Q E → vs.length = 1 := fun _ _ _ _ h => by
  obtain ⟨_, _, rfl, _⟩ := h; rfl
end Sg
namespace Sg
open PySem PySem.Spec PyProof.Rows L2 Evl
/-! ### readings: more words over Evl -/
section
variable {K : PySem.W.Frag} {σ : L2.St} {H : Hp} {ta tb te : TE} {x y z v : V}
theorem map_at {ns : List Int} {k : Nat} (h : k < ns.length) : (ns.map V.int)[k]? = some (.int (ns.getD k 0)) := by
  rw [List.getElem?_map, List.getElem?_eq_getElem h, List.getD_eq_getElem?_getD, List.getElem?_eq_getElem h] <;> rfl
theorem at_map {ns : List Int} {k : Nat} {i : Int} (e : i = (k : Int)) (h : k < ns.length) : atI (ns.map V.int) i = some (.int (ns.getD k 0)) := by
  rw [e]; exact atI_nat (map_at h)
theorem rv_ixN {p : Addr} {ns : List Int} {k : Nat} {i : Int} (h : SqL K H p (ns.map V.int)) (e : i = (k : Int)) (hk : k < ns.length) : RV (rIxL K) (.ref p) (.int i) H (.int (ns.getD k 0)) := rv_ixL h (at_map e hk)
theorem ev_lenM {p : Addr} {ns : List Int} (ha : Ev ta σ H (.ref p)) (h : SqL K H p (ns.map V.int)) : Ev (tCB (rLenS K) (tCons ta tNil)) σ H (.int (ns.length : Int)) := by
  have e := ev_len ha h
  rw [List.length_map] at e
  exact e
theorem rv_mul {i j : Int} {a b : Nat} (ha : i.natAbs < 2 ^ a) (hb : j.natAbs < 2 ^ b) (h0 : 0 < a) (h1 : 0 < b) (h : a + b ≤ 1000000) : RV rMulI (.int i) (.int j) H (.int (i * j)) := rv_I (C := CMulW) (g := fun i j => .int (i * j)) (wide_mul ha hb h0 h1 h)
theorem rv_mod {i j : Int} (h : 0 < j) : RV rModI (.int i) (.int j) H (.int (i % j)) := rv_I (C := fun _ j => 0 < j) (g := fun i j => .int (i % j)) h
theorem rv_div {i j : Int} (h : 0 < j) (h2 : j < 1073741824) : RV rDivI (.int i) (.int j) H (.int (i / j)) := rv_I (C := CDiv) (g := fun i j => .int (i / j)) ⟨h, h2⟩
theorem rv_add {i j : Int} : RV rAddI (.int i) (.int j) H (.int (i + j)) := rv_I0 (g := fun i j => .int (i + j))
theorem rv_sub {i j : Int} : RV rSubI (.int i) (.int j) H (.int (i - j)) := rv_I0 (g := fun i j => .int (i - j))
theorem rv_lt {i j : Int} : RV rLtI (.int i) (.int j) H (.bl (decide (i < j))) := rv_I0 (g := fun i j => .bl (decide (i < j)))
theorem rv_le {i j : Int} : RV rLeI (.int i) (.int j) H (.bl (decide (i ≤ j))) := rv_I0 (g := fun i j => .bl (decide (i ≤ j)))
theorem rv_gt {i j : Int} : RV rGtI (.int i) (.int j) H (.bl (decide (j < i))) := rv_I0 (g := fun i j => .bl (decide (j < i)))
theorem rv_ge {i j : Int} : RV rGeI (.int i) (.int j) H (.bl (decide (j ≤ i))) := rv_I0 (g := fun i j => .bl (decide (j ≤ i)))
theorem dec_V {i j : Int} : decide (V.int i = V.int j) = decide (i = j) := by
  by_cases e : i = j
  · rw [e, decide_eq_true rfl, decide_eq_true rfl]
  · rw [decide_eq_false e, decide_eq_false fun q => e (V.int.inj q)]
theorem rv_eqI {i j : Int} : RV rEq (.int i) (.int j) H (.bl (decide (i = j))) := by
  have h := rv_eq (H := H) (x := .int i) (y := .int j) rfl
  rw [dec_V] at h
  exact h
theorem rv_neI {i j : Int} : RV rNe (.int i) (.int j) H (.bl (!decide (i = j))) := by
  have h := rv_ne (H := H) (x := .int i) (y := .int j) rfl
  rw [dec_V] at h
  exact h
theorem ev_int1 {i : Int} (h : Ev te σ H (.int i)) : Ev (tCB rInt1 (tCons te tNil)) σ H (.int i) := fun H1 e Q q => h H1 e _ fun H2 e2 => .inl ⟨i, rfl, q H2 e2⟩
theorem ev_int1b {k : Bool} (h : Ev te σ H (.bl k)) : Ev (tCB rInt1 (tCons te tNil)) σ H (.int (if k then 1 else 0)) := fun H1 e Q q => h H1 e _ fun H2 e2 => .inr ⟨k, rfl, q H2 e2⟩
theorem ev_neg {i : Int} (h : Ev te σ H (.int i)) : Ev (tUn rNegI te) σ H (.int (-i)) := ev_un h ru_neg
theorem ev_chain {r r' : R2} {tc : TE} {a b c : V} {k k' : Bool} (ha : Ev ta σ H a) (hb : Ev tb σ H b) (hr : RV r a b H (.bl k)) (hc : Ev tc σ H c) (hr' : RV r' b c H (.bl k')) : Ev (tChain r r' ta tb tc) σ H (.bl (k && k')) := fun H1 e Q q =>
  ha H1 e _ fun H2 e2 => hb H2 (e.trans e2) _ fun H3 e3 => hr H3 ((e.trans e2).trans e3) _ fun H4 e4 => ⟨k, rfl, by
    cases k with
    | false => exact q H4 ((e2.trans e3).trans e4)
    | true => exact hc H4 (((e.trans e2).trans e3).trans e4) _ fun H5 e5 => hr' H5 ((((e.trans e2).trans e3).trans e4).trans e5) _ fun H6 e6 => q H6 ((((e2.trans e3).trans e4).trans e5).trans e6)⟩
/-- a slot's word after a turn -/
theorem take_fold {α β : Type} (f : β → α → β) (b : β) {l : List α} {i : Nat} {x : α} (h : l[i]? = some x) : (l.take (i + 1)).foldl f b = f ((l.take i).foldl f b) x := by
  rw [List.take_add_one, h, List.foldl_append] <;> rfl
theorem given_yes_all (n : Nat) (v : Nat → V) : given n (fun _ => true) v = (List.range n).map v := by
  unfold given
  rw [List.filter_eq_self.mpr fun _ _ => rfl]
theorem et_yes : EvT tYes σ H true := fun H1 _ _ q => q H1 (Ex.refl H1)
theorem ev_sum {p : Addr} {ns : List Int} (h : Ev te σ H (.ref p)) (hS : SqL K H p (ns.map V.int)) : Ev (tCB (rSum K) (tCons te tNil)) σ H (.int ns.sum) := fun H1 e Q q => h H1 e _ fun H2 e2 => ⟨p, ns, rfl, ex_l (e.trans e2) hS, q H2 e2⟩
theorem ev_sumL {ns : List Int} (h : EvL te σ H (ns.map V.int)) : Ev (tCB (rSum K) (tCons te tNil)) σ H (.int ns.sum) := fun H1 e Q q => h H1 e _ fun p H2 _ e2 hp => ⟨p, ns, rfl, sq_of hp, q H2 e2⟩
/-- calls -/
theorem spv {sp : Sp} {vs : List V} (h : ∀ H1, Ex H H1 → ∀ (Q : VK) (E : XK), RetV z H1 Q → sp vs H1 Q E) : SpV sp vs H z := fun H1 e Q q E => h H1 e Q E q
theorem spl {sp : Sp} {vs xs : List V} (h : ∀ H1, Ex H H1 → ∀ (Q : VK) (E : XK), RetL xs H1 Q → sp vs H1 Q E) : SpL sp vs H xs := fun H1 e Q q E => h H1 e Q E q
theorem ev_call1 {sp : Sp} {E : XK} (h : Ev te σ H x) (hs : SpV sp [x] H z) : Ev (tCall sp [] E (tCons te tNil)) σ H z := ev_call (dvs := []) (ea_cons h ea_nil) hs
theorem ev_call2 {sp : Sp} {E : XK} (h : Ev ta σ H x) (h2 : Ev tb σ H y) (hs : SpV sp [x, y] H z) : Ev (tCall sp [] E (tCons ta (tCons tb tNil))) σ H z := ev_call (dvs := []) (ea_cons h (ea_cons h2 ea_nil)) hs
theorem el_call1 {sp : Sp} {xs : List V} {E : XK} (h : Ev te σ H x) (hs : SpL sp [x] H xs) : EvL (tCall sp [] E (tCons te tNil)) σ H xs := el_call (dvs := []) (ea_cons h ea_nil) hs
end
end Sg
namespace Sg
open PySem PySem.Spec PyProof.Rows L2 Evl
section
variable {K : PySem.W.Frag} {σ : L2.St} {H : Hp} {ta tb te : TE} {x y z v : V}
theorem sql_ty {a : Addr} {xs : List V} (h : SqL K H a xs) : TyX K H (.ref a) (.type "list") := by
  rcases h with h | ⟨o, its, n, hk, hc, _⟩
  · rcases h with h | ⟨o, h⟩
    · exact .base (.lst h)
    · exact .base (.frz h)
  · exact .kList hk hc
theorem ev_isi {a b : String} {r : Bool} (h : Ev te σ H x) (ht : ∀ H1, Ex H H1 → TyX K H1 x (.type a)) (hk : kitB a b = some r) : Ev (tCB (rIsi K) (tCons te (tCons (tC (.ty b)) tNil))) σ H (.bl r) := fun H1 e Q q =>
  h H1 e _ fun H2 e2 => ⟨x, .ty b, .type a, .type b, r, rfl, .ty b, ht H2 (e.trans e2), kit_ty hk, q H2 e2⟩
theorem ev_isint {i : Int} (h : Ev te σ H (.int i)) : Ev (tCB (rIsi K) (tCons te (tCons (tC (.ty "int")) tNil))) σ H (.bl true) := ev_isi h (fun _ _ => .base (.int i)) (by decide +kernel)
theorem ev_isbool {i : Int} (h : Ev te σ H (.int i)) : Ev (tCB (rIsi K) (tCons te (tCons (tC (.ty "bool")) tNil))) σ H (.bl false) := ev_isi h (fun _ _ => .base (.int i)) (by decide +kernel)
theorem ev_islist {a : Addr} {xs : List V} (h : Ev te σ H (.ref a)) (hS : SqL K H a xs) : Ev (tCB (rIsi K) (tCons te (tCons (tC (.ty "list")) tNil))) σ H (.bl true) := ev_isi h (fun _ e => sql_ty (ex_l e hS)) (by decide +kernel)
end
end Sg
namespace Sg
open PySem PySem.Spec PyProof.Rows L2 Evl
section
variable {K : PySem.W.Frag} {σ : L2.St} {H : Hp} {ta tb te : TE} {x y z v : V}
/-- a written list's item -/
theorem ev_tab {xs : List V} {i : Int} (l : EvL ta σ H xs) (hi : Ev tb σ H (.int i)) (ha : atI xs i = some v) : Ev (tOp (rIxL K) ta tb) σ H v := ev_opL1 l (fun _ e => hi.mono e) fun p H1 hp _ => rv_ixL (sq_of hp) ha
theorem at_six {s : Nat} (h : s ≤ 5) : atI ([.int 1, .int 2, .int 4, .int 8, .int 16, .int 32] : List V) (s : Int) = some (.int ((2 ^ s : Nat) : Int)) := by
  rcases Sg.pow_cases h with rfl | rfl | rfl | rfl | rfl | rfl <;> rfl
theorem el_six : EvL (tLst (tCons (tC (.int 1)) (tCons (tC (.int 2)) (tCons (tC (.int 4)) (tCons (tC (.int 8)) (tCons (tC (.int 16)) (tCons (tC (.int 32)) tNil))))))) σ H [.int 1, .int 2, .int 4, .int 8, .int 16, .int 32] :=
  el_lst (ea_cons ev_c (ea_cons ev_c (ea_cons ev_c (ea_cons ev_c (ea_cons ev_c (ea_cons ev_c ea_nil)))))) (by decide)
theorem range_take {n i : Nat} (f : Nat → Int) (h : i < n) : (((List.range n).map f).take (i + 1)).map V.int = (((List.range n).map f).take i).map V.int ++ [.int (f i)] := by
  rw [List.take_add_one, List.getElem?_map, List.getElem?_range h, List.map_append]
  rfl
theorem range_take_all {n : Nat} (f : Nat → Int) : ((List.range n).map f).take n = (List.range n).map f := List.take_of_length_le (by rw [List.length_map, List.length_range]; exact Nat.le_refl _)
theorem range_take_len {n i : Nat} (f : Nat → Int) (h : i ≤ n) : ((((List.range n).map f).take i).map V.int).length = i := by
  rw [List.length_map, List.length_take, List.length_map, List.length_range]
  omega
end
end Sg
namespace Sg
theorem not_t {P : Prop} [Decidable P] (h : (!decide P) = true) : ¬ P := fun p => by
  rw [decide_eq_true p] at h
  cases h
theorem not_f {P : Prop} [Decidable P] (h : (!decide P) = false) : P := by
  by_cases p : P
  · exact p
  · rw [decide_eq_false p] at h
    cases h
end Sg
namespace Sg
open PySem PySem.Spec PyProof.Rows L2 Evl
/-! ### == of lists of numbers -/
section
variable {K : PySem.W.Frag} {σ : L2.St} {H : Hp} {ta tb te : TE} {x y z v : V}
def dI (ns : List Int) : PyData := .list (ns.map PyData.int)
theorem dpAllI : ∀ ns : List Int, DpAll K H (ns.map V.int) (ns.map PyData.int)
  | [] => .nil
  | n :: ns => .cons (.int n) (dpAllI ns)
theorem dpI {a : Addr} {ns : List Int} (h : SqL K H a (ns.map V.int)) : Dp K H (.ref a) (dI ns) := .lst h (dpAllI ns)
theorem depthAllI : ∀ ns : List Int, PyData.depthAll (ns.map PyData.int) = 0
  | [] => by rw [List.map_nil, PyData.depthAll]
  | n :: ns => by rw [List.map_cons, PyData.depthAll, depthAllI ns, PyData.depth]; rfl
theorem layAllI : ∀ ns : List Int, PyData.canLayAll0 (ns.map PyData.int) = true
  | [] => by rw [List.map_nil, PyData.canLayAll0]
  | n :: ns => by rw [List.map_cons, PyData.canLayAll0, layAllI ns, PyData.canLay0]; rfl
theorem depthI (ns : List Int) : (dI ns).depth = 1 := by
  unfold dI
  rw [PyData.depth, depthAllI]
theorem layI (ns : List Int) : (dI ns).canLay0 = true := by
  unfold dI
  rw [PyData.canLay0, layAllI]
theorem shapedI (ns : List Int) : SeqAt.shaped (dI ns) = true := by
  unfold SeqAt.shaped
  rw [layI, depthI]
  rfl
theorem eqvAllI : ∀ ns ms : List Int, PyData.eqvAll (ns.map PyData.int) (ms.map PyData.int) = decide (ns = ms)
  | [], [] => by rw [List.map_nil, PyData.eqvAll]; rfl
  | [], m :: ms => by rw [List.map_nil, List.map_cons, PyData.eqvAll, decide_eq_false (by simp)]
  | n :: ns, [] => by rw [List.map_nil, List.map_cons, PyData.eqvAll, decide_eq_false (by simp)]
  | n :: ns, m :: ms => by
    rw [List.map_cons, List.map_cons, PyData.eqvAll, eqvAllI ns ms, PyData.eqv]
    by_cases h1 : n = m
    · subst h1
      by_cases h2 : ns = ms
      · subst h2
        rw [decide_eq_true rfl, decide_eq_true rfl, beq_self_eq_true] <;> rfl
      · rw [decide_eq_false h2, decide_eq_false (by simp [h2]), Bool.and_false]
    · rw [decide_eq_false (show ¬ n :: ns = m :: ms by simp [h1]), beq_eq_false_iff_ne.mpr h1, Bool.false_and]
theorem eqvI (ns ms : List Int) : PyData.eqv (dI ns) (dI ms) = decide (ns = ms) := by
  unfold dI
  rw [PyData.eqv, eqvAllI]
theorem rv_eqD {d e : PyData} (hx : ∀ H1, Ex H H1 → Dp K H1 x d) (hy : ∀ H1, Ex H H1 → Dp K H1 y e) (s1 : SeqAt.shaped d = true) (s2 : SeqAt.shaped e = true) : RV (rEqD K) x y H (.bl (PyData.eqv d e)) := fun H1 e1 _ q => ⟨d, e, hx H1 e1, hy H1 e1, s1, s2, q H1 (Ex.refl H1)⟩
theorem rv_neD {d e : PyData} (hx : ∀ H1, Ex H H1 → Dp K H1 x d) (hy : ∀ H1, Ex H H1 → Dp K H1 y e) (s1 : SeqAt.shaped d = true) (s2 : SeqAt.shaped e = true) : RV (rNeD K) x y H (.bl (!PyData.eqv d e)) := fun H1 e1 _ q => ⟨d, e, hx H1 e1, hy H1 e1, s1, s2, q H1 (Ex.refl H1)⟩
theorem rv_eqL {p q : Addr} {ns ms : List Int} (h : SqL K H p (ns.map V.int)) (h2 : SqL K H q (ms.map V.int)) : RV (rEqD K) (.ref p) (.ref q) H (.bl (decide (ns = ms))) := by
  have r := rv_eqD (K := K) (H := H) (fun H1 e => dpI (ex_l e h)) (fun H1 e => dpI (ex_l e h2)) (shapedI ns) (shapedI ms)
  rw [eqvI] at r
  exact r
theorem rv_neL {p q : Addr} {ns ms : List Int} (h : SqL K H p (ns.map V.int)) (h2 : SqL K H q (ms.map V.int)) : RV (rNeD K) (.ref p) (.ref q) H (.bl (!decide (ns = ms))) := by
  have r := rv_neD (K := K) (H := H) (fun H1 e => dpI (ex_l e h)) (fun H1 e => dpI (ex_l e h2)) (shapedI ns) (shapedI ms)
  rw [eqvI] at r
  exact r
/-- two lists of two rows each -/
def dII (a b : List Int) : PyData := .list [dI a, dI b]
theorem shapedII (a b : List Int) : SeqAt.shaped (dII a b) = true := by
  unfold SeqAt.shaped dII
  rw [PyData.canLay0, PyData.canLayAll0, PyData.canLayAll0, PyData.canLayAll0, layI, layI, PyData.depth, PyData.depthAll, PyData.depthAll, PyData.depthAll, depthI, depthI]
  rfl
theorem eqvII (a b c d : List Int) : PyData.eqv (dII a b) (dII c d) = (decide (a = c) && decide (b = d)) := by
  unfold dII
  rw [PyData.eqv, PyData.eqvAll, PyData.eqvAll, PyData.eqvAll, eqvI, eqvI, Bool.and_true]
theorem dpII {p a b : Addr} {ns ms : List Int} (h : SqL K H p [.ref a, .ref b]) (h1 : SqL K H a (ns.map V.int)) (h2 : SqL K H b (ms.map V.int)) : Dp K H (.ref p) (dII ns ms) := .lst h (.cons (dpI h1) (.cons (dpI h2) .nil))
/-- the law's own row -/
theorem el_law_row {E : XK} {t1 t2 t3 t4 : TE} {c w g : Int} {s : Nat} (h1 : Ev t1 σ H (.int c)) (h2 : Ev t2 σ H (.int s)) (h3 : Ev t3 σ H (.int w)) (h4 : Ev t4 σ H (.int g)) (hs : s ≤ 5) (g1 : 0 < g) (g2 : g < 1073741824 * 1073741824) :
    EvL (tCall (sp_law_row K) [] E (tCons t1 (tCons t2 (tCons t3 (tCons t4 tNil))))) σ H ((lawRow c (2 ^ s) w g).map V.int) :=
  el_call (dvs := []) (ea_cons h1 (ea_cons h2 (ea_cons h3 (ea_cons h4 ea_nil)))) (spl fun H1 _ Q E q => ⟨c, s, w, g, rfl, hs, g1, g2, q⟩)
theorem ev_cell {E : XK} {a : Addr} {ns : List Int} {k : Nat} (h : Ev ta σ H (.ref a)) (h2 : Ev tb σ H (.int k)) (hS : SqL K H a (ns.map V.int)) : Ev (tCall (sp_law_cell_at K) [] E (tCons ta (tCons tb tNil))) σ H (.int (cellAt ns k)) :=
  ev_call2 h h2 (spv fun H1 e Q E q => ⟨a, ns, k, rfl, ex_l e hS, q⟩)
theorem ev_alike {E : XK} {a b : Addr} {ns ms : List Int} (h : Ev ta σ H (.ref a)) (h2 : Ev tb σ H (.ref b)) (hS : SqL K H a (ns.map V.int)) (hT : SqL K H b (ms.map V.int)) (hl : ns.length ≤ 1000) :
    Ev (tCall (sp_law_alike K) [] E (tCons ta (tCons tb tNil))) σ H (.bl (decide (ns = ms))) := ev_call2 h h2 (spv fun H1 e Q E q => ⟨a, b, ns, ms, rfl, ex_l e hS, ex_l e hT, hl, q⟩)
/-- the first argument a new list -/
theorem ev_alikeL {E : XK} {b : Addr} {ns ms : List Int} (h : EvL ta σ H (ns.map V.int)) (h2 : ∀ H1, Ex H H1 → Ev tb σ H1 (.ref b)) (hT : SqL K H b (ms.map V.int)) (hl : ns.length ≤ 1000) :
    Ev (tCall (sp_law_alike K) [] E (tCons ta (tCons tb tNil))) σ H (.bl (decide (ns = ms))) := fun H0 e0 Q q =>
  h H0 e0 _ fun p H1 _ e1 hp => h2 H1 (e0.trans e1) H1 (Ex.refl H1) _ fun H2 e2 => ⟨p, b, ns, ms, rfl, sq_of (e2 p _ hp), ex_l ((e0.trans e1).trans e2) hT, hl, fun H3 e3 => q H3 ((e1.trans e2).trans e3)⟩
theorem el_sums {E : XK} {a : Addr} {ns : List Int} (h : Ev te σ H (.ref a)) (hS : SqL K H a (ns.map V.int)) (hr : IsRow ns) : EvL (tCall (sp_sums K) [] E (tCons te tNil)) σ H ((sumsL ns).map V.int) :=
  el_call1 h (spl fun H1 e Q E q => ⟨a, ns, rfl, ex_l e hS, fun _ => q, fun n => absurd hr n⟩)
/-- sums of a new list -/
theorem el_sumsL {E : XK} {ns : List Int} (h : EvL te σ H (ns.map V.int)) (hr : IsRow ns) : EvL (tCall (sp_sums K) [] E (tCons te tNil)) σ H ((sumsL ns).map V.int) := fun H0 e0 Q q =>
  h H0 e0 _ fun p H1 _ e1 hp => ⟨p, ns, rfl, sq_of hp, fun _ => fun p2 H2 hp2 e2 h2 => q p2 H2 (fresh_back e1 hp2) (e1.trans e2) h2, fun n => absurd hr n⟩
theorem el_law_sums {E : XK} {a : Addr} {ns : List Int} (h : Ev te σ H (.ref a)) (hS : SqL K H a (ns.map V.int)) (hl : ns.length ≤ 32) (hb : ∀ x ∈ ns, x.natAbs < 2 ^ 100) : EvL (tCall (sp_law_sums K) [] E (tCons te tNil)) σ H ((sumsL ns).map V.int) :=
  el_call1 h (spl fun H1 e Q E q => ⟨a, ns, rfl, ex_l e hS, hl, hb, q⟩)
/-- 9 * 10 ** k -/
theorem ev_pow {b k : Int} {n : Nat} (h0 : 0 ≤ k ∧ k ≤ 1000) (hb : b.natAbs < 2 ^ 64) (ha : Ev ta σ H (.int b)) (hk : Ev tb σ H (.int k)) : Ev (tOp rPowI ta tb) σ H (.int (b ^ k.toNat)) := ev_op ha hk (rv_I (C := CPow) (g := fun i j => .int (i ^ j.toNat)) ⟨h0.1, by omega, hb⟩)
end
end Sg
namespace Sg
open PySem PySem.Spec PyProof.Rows L2 Evl
/-! ### what evaluates to some list of these numbers, old or new -/
section
variable {K : PySem.W.Frag} {σ : L2.St} {H H' : Hp} {ta tb te tl : TE} {x y z v : V}
def EvS (K : PySem.W.Frag) (te : TE) (σ : L2.St) (H : Hp) (ns : List Int) : Prop := ∀ H1, Ex H H1 → ∀ Q : VK, (∀ p H2, Ex H1 H2 → SqL K H2 p (ns.map V.int) → Q (.ref p) H2) → te σ H1 Q
theorem EvS.mono {ns : List Int} (e : Ex H H') (h : EvS K te σ H ns) : EvS K te σ H' ns := fun H1 a Q q => h H1 (e.trans a) Q q
theorem evs_of {a : Addr} {ns : List Int} (h : Ev te σ H (.ref a)) (hS : SqL K H a (ns.map V.int)) : EvS K te σ H ns := fun H1 e Q q => h H1 e _ fun H2 e2 => q a H2 e2 (ex_l (e.trans e2) hS)
theorem evs_new {ns : List Int} (h : EvL te σ H (ns.map V.int)) : EvS K te σ H ns := fun H1 e Q q => h H1 e _ fun p H2 _ e2 hp => q p H2 e2 (sq_of hp)
theorem evs_var {a : Addr} {ns : List Int} {i : Nat} (h : σ[i]? = some (some (.ref a))) (hS : SqL K H a (ns.map V.int)) : EvS K (tVar i) σ H ns := evs_of (ev_var h) hS
/-- a call of one such list -/
theorem ev_callS {sp : Sp} {E : XK} {ns : List Int} (h : EvS K te σ H ns) (hs : ∀ p H1, Ex H H1 → SqL K H1 p (ns.map V.int) → ∀ (Q : VK) (E : XK), RetV z H1 Q → sp [.ref p] H1 Q E) : Ev (tCall sp [] E (tCons te tNil)) σ H z := fun H0 e0 Q q =>
  h H0 e0 _ fun p H1 e1 hp => hs p H1 (e0.trans e1) hp Q E fun H2 e2 => q H2 (e1.trans e2)
theorem el_callS {sp : Sp} {E : XK} {ns : List Int} {xs : List V} (h : EvS K te σ H ns) (hs : ∀ p H1, Ex H H1 → SqL K H1 p (ns.map V.int) → ∀ (Q : VK) (E : XK), RetL xs H1 Q → sp [.ref p] H1 Q E) : EvL (tCall sp [] E (tCons te tNil)) σ H xs := fun H0 e0 Q q =>
  h H0 e0 _ fun p H1 e1 hp => hs p H1 (e0.trans e1) hp Q E fun p2 H2 n2 e2 h2 => q p2 H2 (fresh_back e1 n2) (e1.trans e2) h2
/-- a call of two such lists -/
theorem ev_callSS {sp : Sp} {E : XK} {ns ms : List Int} (h : EvS K ta σ H ns) (h2 : EvS K tb σ H ms) (hs : ∀ p q H1, Ex H H1 → SqL K H1 p (ns.map V.int) → SqL K H1 q (ms.map V.int) → ∀ (Q : VK) (E : XK), RetV z H1 Q → sp [.ref p, .ref q] H1 Q E) :
    Ev (tCall sp [] E (tCons ta (tCons tb tNil))) σ H z := fun H0 e0 Q q =>
  h H0 e0 _ fun p H1 e1 hp => h2 H1 (e0.trans e1) _ fun p2 H2 e2 hp2 => hs p p2 H2 ((e0.trans e1).trans e2) (ex_l e2 hp) hp2 Q E fun H3 e3 => q H3 ((e1.trans e2).trans e3)
theorem el_callSS {sp : Sp} {E : XK} {ns ms : List Int} {xs : List V} (h : EvS K ta σ H ns) (h2 : EvS K tb σ H ms) (hs : ∀ p q H1, Ex H H1 → SqL K H1 p (ns.map V.int) → SqL K H1 q (ms.map V.int) → ∀ (Q : VK) (E : XK), RetL xs H1 Q → sp [.ref p, .ref q] H1 Q E) :
    EvL (tCall sp [] E (tCons ta (tCons tb tNil))) σ H xs := fun H0 e0 Q q =>
  h H0 e0 _ fun p H1 e1 hp => h2 H1 (e0.trans e1) _ fun p2 H2 e2 hp2 => hs p p2 H2 ((e0.trans e1).trans e2) (ex_l e2 hp) hp2 Q E fun p3 H3 n3 e3 h3 => q p3 H3 (fresh_back (e1.trans e2) n3) ((e1.trans e2).trans e3) h3
theorem ev_alikeS {E : XK} {ns ms : List Int} (h : EvS K ta σ H ns) (h2 : EvS K tb σ H ms) (hl : ns.length ≤ 1000) : Ev (tCall (sp_law_alike K) [] E (tCons ta (tCons tb tNil))) σ H (.bl (decide (ns = ms))) :=
  ev_callSS h h2 fun p q H1 _ hp hq Q E r => ⟨p, q, ns, ms, rfl, hp, hq, hl, r⟩
theorem el_sumsS {E : XK} {ns : List Int} (h : EvS K te σ H ns) (hr : IsRow ns) : EvL (tCall (sp_sums K) [] E (tCons te tNil)) σ H ((sumsL ns).map V.int) :=
  el_callS h fun p H1 _ hp Q E r => ⟨p, ns, rfl, hp, fun _ => r, fun n => absurd hr n⟩
theorem el_listS {ns : List Int} (h : EvS K te σ H ns) : EvL (tCB (rListS K) (tCons te tNil)) σ H (ns.map V.int) := fun H0 e0 Q q =>
  h H0 e0 _ fun p H1 e1 hp => ⟨p, ns.map V.int, rfl, .inl hp, fun l hl => q l _ (fresh_back e1 hl) (e1.trans (Ex.new hl)) upd_same⟩
theorem ev_lenS {ns : List Int} (h : EvS K te σ H ns) : Ev (tCB (rLenS K) (tCons te tNil)) σ H (.int (ns.length : Int)) := fun H0 e0 Q q =>
  h H0 e0 _ fun p H1 e1 hp => ⟨p, ns.map V.int, rfl, .inl hp, by
    rw [List.length_map]
    exact q H1 e1⟩
theorem ev_sumS {ns : List Int} (h : EvS K te σ H ns) : Ev (tCB (rSum K) (tCons te tNil)) σ H (.int ns.sum) := fun H0 e0 Q q =>
  h H0 e0 _ fun p H1 e1 hp => ⟨p, ns, rfl, hp, q H1 e1⟩
theorem ev_eqS {ns ms : List Int} (h : EvS K ta σ H ns) (h2 : EvS K tb σ H ms) : Ev (tOp (rEqD K) ta tb) σ H (.bl (decide (ns = ms))) := fun H0 e0 Q q =>
  h H0 e0 _ fun p H1 e1 hp => h2 H1 (e0.trans e1) _ fun p2 H2 e2 hp2 => rv_eqL (ex_l e2 hp) hp2 H2 (Ex.refl H2) _ fun H3 e3 => q H3 ((e1.trans e2).trans e3)
theorem ev_neS {ns ms : List Int} (h : EvS K ta σ H ns) (h2 : EvS K tb σ H ms) : Ev (tOp (rNeD K) ta tb) σ H (.bl (!decide (ns = ms))) := fun H0 e0 Q q =>
  h H0 e0 _ fun p H1 e1 hp => h2 H1 (e0.trans e1) _ fun p2 H2 e2 hp2 => rv_neL (ex_l e2 hp) hp2 H2 (Ex.refl H2) _ fun H3 e3 => q H3 ((e1.trans e2).trans e3)
theorem el_law_sumsS {E : XK} {ns : List Int} (h : EvS K te σ H ns) (hl : ns.length ≤ 32) (hb : ∀ x ∈ ns, x.natAbs < 2 ^ 100) : EvL (tCall (sp_law_sums K) [] E (tCons te tNil)) σ H ((sumsL ns).map V.int) :=
  el_callS h fun p H1 _ hp Q E r => ⟨p, ns, rfl, hp, hl, hb, r⟩
theorem evs_ix {ns : List Int} {i : Int} {k : Nat} (h : EvS K ta σ H ns) (hi : Ev tb σ H (.int i)) (e : i = (k : Int)) (hk : k < ns.length) : Ev (tOp (rIxL K) ta tb) σ H (.int (ns.getD k 0)) := fun H0 e0 Q q =>
  h H0 e0 _ fun p H1 e1 hp => hi H1 (e0.trans e1) _ fun H2 e2 => rv_ixN (ex_l e2 hp) e hk H2 (Ex.refl H2) _ fun H3 e3 => q H3 ((e1.trans e2).trans e3)
/-! ### comprehensions -/
theorem int_of_map {ns : List Int} {i : Nat} {x : V} (h : (ns.map V.int)[i]? = some x) : ∃ n, ns[i]? = some n ∧ x = .int n := by
  rw [List.getElem?_map] at h
  cases e : ns[i]? with
  | none => rw [e] at h; cases h
  | some n => rw [e] at h; exact ⟨n, rfl, (Option.some.inj h).symm⟩
theorem given_map {ns : List Int} (g : Int → V) : given ns.length (fun _ => true) (fun i => g (ns.getD i 0)) = ns.map g := by
  rw [given_yes_all]
  refine List.ext_getElem (by rw [List.length_map, List.length_range, List.length_map]) fun k h1 h2 => ?_
  rw [List.length_map] at h2
  rw [List.getElem_map, List.getElem_range, List.getElem_map, List.getD_eq_getElem?_getD, List.getElem?_eq_getElem h2] <;> rfl
/-- [e for x in such a list] -/
theorem el_mapS {ns : List Int} {j : Nat} {vs : List Nat} (g : Int → V) (h : EvS K tl σ H ns) (hz : ns.length ≤ 40000) (hw : ∀ x, wipe ((wipe σ vs).set j (some x)) vs = wipe σ vs)
    (he : ∀ n ∈ ns, ∀ H1, Ex H H1 → Ev te ((wipe σ vs).set j (some (.int n))) H1 (g n)) : EvL (tLc (iList K tl) (gName j) tYes te vs) σ H (ns.map g) := fun H0 e0 Q q =>
  h H0 e0 _ fun a H1 e1 hx => ⟨a, rfl, ⟨ns.map V.int, hx⟩, fun Dl hD =>
    lc_list (xs := ns.map V.int) (Cw H1 (fun _ => true) (fun i => g (ns.getD i 0)) Dl) ⟨hD, Ex.new hD, upd_same⟩ (fun i H2 _ p => ex_l p.2.1 hx) (fun i x H2 hi p => by
      obtain ⟨n, hn, rfl⟩ := int_of_map hi
      have hl : i < ns.length := (List.getElem?_eq_some_iff.mp hn).1
      refine ⟨hw _, cw_turn p (by omega) et_yes fun _ => ?_⟩
      have e : ns.getD i 0 = n := by rw [List.getD_eq_getElem?_getD, hn] <;> rfl
      rw [e]
      exact he n (List.mem_of_getElem? hn) H1 (e0.trans e1)) (fun H2 p => by
      have p3 := p.2.2
      rw [List.length_map, given_map] at p3
      exact q Dl H2 (fresh_back e1 p.1) (e1.trans p.2.1) p3)⟩
/-- [e for i in range(n)] -/
theorem el_mapR {ta : TA} {j n : Nat} {vs : List Nat} (g : Nat → V) (h : EvA ta σ H [.int (n : Int)]) (hn : n ≤ 40000) (hw : ∀ x, wipe ((wipe σ vs).set j (some x)) vs = wipe σ vs)
    (he : ∀ i : Nat, i < n → ∀ H1, Ex H H1 → Ev te ((wipe σ vs).set j (some (.int (i : Int)))) H1 (g i)) : EvL (tLc (iRng1 ta) (gName j) tYes te vs) σ H ((List.range n).map g) := by
  have el := el_lcR1 (σ := σ) (H := H) (t := tYes) (te := te) (ta := ta) (j := j) (vs := vs) (n := (n : Int)) (fun _ => true) g h ⟨by omega, by omega⟩ hw (fun _ _ _ _ => et_yes) (fun i H1 e hi _ => he i (by omega) H1 e)
  rw [given_yes_all, Int.toNat_natCast] at el
  exact el
/-- [e for i in range(n) if t] -/
theorem el_filR {ta : TA} {t : TT} {j n : Nat} {vs : List Nat} (f : Nat → Bool) (g : Nat → V) (h : EvA ta σ H [.int (n : Int)]) (hn : n ≤ 40000) (hw : ∀ x, wipe ((wipe σ vs).set j (some x)) vs = wipe σ vs)
    (ht : ∀ i : Nat, i < n → ∀ H1, Ex H H1 → EvT t ((wipe σ vs).set j (some (.int (i : Int)))) H1 (f i)) (he : ∀ i : Nat, i < n → ∀ H1, Ex H H1 → Ev te ((wipe σ vs).set j (some (.int (i : Int)))) H1 (g i)) :
    EvL (tLc (iRng1 ta) (gName j) t te vs) σ H (((List.range n).filter f).map g) := by
  have el := el_lcR1 (σ := σ) (H := H) (t := t) (te := te) (ta := ta) (j := j) (vs := vs) (n := (n : Int)) f g h ⟨by omega, by omega⟩ hw (fun i H1 e hi => ht i (by omega) H1 e) (fun i H1 e hi _ => he i (by omega) H1 e)
  rw [Int.toNat_natCast] at el
  exact el
theorem ev_anyL {bs : List Bool} (h : EvL te σ H (bs.map V.bl)) : Ev (tCB (rAny K) (tCons te tNil)) σ H (.bl (bs.any id)) := fun H0 e0 Q q => h H0 e0 _ fun p H1 _ e1 hp => ⟨p, bs, rfl, sq_of hp, q H1 e1⟩
theorem ev_allL {bs : List Bool} (h : EvL te σ H (bs.map V.bl)) : Ev (tCB (rAll K) (tCons te tNil)) σ H (.bl (bs.all id)) := fun H0 e0 Q q => h H0 e0 _ fun p H1 _ e1 hp => ⟨p, bs, rfl, sq_of hp, q H1 e1⟩
end
end Sg
namespace Sg
open PySem PySem.Spec PyProof.Rows L2 Evl
theorem five_at {i : Nat} {x : V} (hx : ([.int 1, .int 2, .int 4, .int 8, .int 16] : List V)[i]? = some x) : ∃ w : Int, ([1, 2, 4, 8, 16] : List Int)[i]? = some w ∧ x = .int w ∧ 0 < w ∧ w < 1073741824 := by
  match i, hx with
  | 0, hx => cases hx; exact ⟨1, rfl, rfl, by decide, by decide⟩
  | 1, hx => cases hx; exact ⟨2, rfl, rfl, by decide, by decide⟩
  | 2, hx => cases hx; exact ⟨4, rfl, rfl, by decide, by decide⟩
  | 3, hx => cases hx; exact ⟨8, rfl, rfl, by decide, by decide⟩
  | 4, hx => cases hx; exact ⟨16, rfl, rfl, by decide, by decide⟩
  | n + 5, hx => cases hx
end Sg
namespace Sg
open PySem PySem.Spec PyProof.Rows L2 Evl
theorem inV_two' (i a b : Int) : inV (.int i) [.int a, .int b] = decide (i = a ∨ i = b) := by
  by_cases h : i = a ∨ i = b
  · rw [decide_eq_true h]
    rcases h with rfl | rfl <;> simp [inV, eqV]
  · rw [decide_eq_false h]
    simp only [not_or] at h
    simp [inV, eqV]
    omega
end Sg
namespace Sg
/-! ### sums of sums -/
theorem getD_map_range {n c : Nat} (f : Nat → Int) (h : c < n) : ((List.range n).map f).getD c 0 = f c := by
  rw [List.getD_eq_getElem?_getD, List.getElem?_map, List.getElem?_range h] <;> rfl
theorem getD_sumsL {ns : List Int} {c : Nat} (h : c < ns.length) : (sumsL ns).getD c 0 = sumAt ns c := getD_map_range _ h
theorem list_eq_range (ns : List Int) : ns = (List.range ns.length).map fun i => ns.getD i 0 := by
  refine List.ext_getElem (by rw [List.length_map, List.length_range]) fun k h1 _ => ?_
  rw [List.getElem_map, List.getElem_range, List.getD_eq_getElem?_getD, List.getElem?_eq_getElem h1] <;> rfl
theorem sg_symm : ∀ p, p < 32 → ∀ c, c < 32 → sg (p : Nat) (c : Nat) = sg (c : Nat) (p : Nat) := by decide +kernel
theorem sg_ortho : ∀ s, s < 6 → ∀ p, p < 2 ^ s → ∀ q, q < 2 ^ s → sm (2 ^ s) (fun c => sg (p : Nat) (c : Nat) * sg (c : Nat) (q : Nat)) = if p = q then ((2 ^ s : Nat) : Int) else 0 := by decide +kernel
theorem sumAt_twice {ns : List Int} {s : Nat} (hs : s < 6) (hn : ns.length = 2 ^ s) {q : Nat} (hq : q < 2 ^ s) : sumAt (sumsL ns) q = (ns.length : Int) * ns.getD q 0 := by
  unfold sumAt
  rw [sumsL_length]
  have h32 := (Sg.pow_le' hs)
  have e1 : sm ns.length (fun c => sg (c : Nat) (q : Nat) * (sumsL ns).getD c 0) = sm ns.length fun c => sm ns.length fun p => ns.getD p 0 * (sg (p : Nat) (c : Nat) * sg (c : Nat) (q : Nat)) := by
    refine sm_congr fun c hc => ?_
    rw [getD_sumsL hc]
    unfold sumAt
    rw [← sm_mulL]
    refine sm_congr fun p _ => ?_
    rw [← Int.mul_assoc, Int.mul_comm, Int.mul_comm (sg (c : Nat) (q : Nat))]
  rw [e1, sm_swap]
  have e2 : sm ns.length (fun p => sm ns.length fun c => ns.getD p 0 * (sg (p : Nat) (c : Nat) * sg (c : Nat) (q : Nat))) = sm ns.length fun p => (ns.length : Int) * (ns.getD p 0 * (if p = q then 1 else 0)) := by
    refine sm_congr fun p hp => ?_
    rw [sm_mulL, hn, sg_ortho s hs p (by omega) q hq]
    by_cases h : p = q
    · rw [if_pos h, if_pos h, Int.mul_one, Int.mul_comm]
    · rw [if_neg h, if_neg h, Int.mul_zero, Int.mul_zero]
  rw [e2, sm_mulL, sm_delta, if_pos (by omega)]
theorem map_eq_range (ns : List Int) (g : Int → Int) : ns.map g = (List.range ns.length).map fun i => g (ns.getD i 0) := by
  refine List.ext_getElem (by rw [List.length_map, List.length_map, List.length_range]) fun k h1 h2 => ?_
  rw [List.length_map] at h1
  rw [List.getElem_map, List.getElem_map, List.getElem_range, List.getD_eq_getElem?_getD, List.getElem?_eq_getElem h1] <;> rfl
/-- the sums of the sums -/
theorem sums_twice {ns : List Int} {s : Nat} (hs : s < 6) (hn : ns.length = 2 ^ s) : sumsL (sumsL ns) = ns.map fun x => x * (ns.length : Int) := by
  rw [map_eq_range]
  show (List.range (sumsL ns).length).map (sumAt (sumsL ns)) = _
  rw [sumsL_length]
  refine List.map_congr_left fun q hq => ?_
  rw [List.mem_range] at hq
  rw [sumAt_twice hs hn (by omega), Int.mul_comm]
/-- the row whose sums these are -/
def backL (ns : List Int) : List Int := (sumsL ns).map fun x => x / (ns.length : Int)
theorem back_sums {ns : List Int} {s : Nat} (hs : s < 6) (hn : ns.length = 2 ^ s) : backL (sumsL ns) = ns := by
  unfold backL
  rw [sums_twice hs hn, sumsL_length, List.map_map]
  refine (List.map_congr_left fun x _ => ?_).trans (List.map_id ns)
  have h0 : (ns.length : Int) ≠ 0 := by have := Nat.two_pow_pos s; omega
  exact Int.mul_ediv_cancel _ h0
theorem sums_twice_mod {ns : List Int} {s : Nat} (hs : s < 6) (hn : ns.length = 2 ^ s) : ∀ x ∈ sumsL (sumsL ns), x % (ns.length : Int) = 0 := by
  intro x hx
  rw [sums_twice hs hn] at hx
  obtain ⟨y, _, rfl⟩ := List.mem_map.mp hx
  exact Int.mul_emod_left _ _
/-! ### how great sums are -/
theorem sm_bd {n : Nat} {f : Nat → Int} {B : Int} (h : ∀ i, i < n → -B ≤ f i ∧ f i ≤ B) : -((n : Int) * B) ≤ sm n f ∧ sm n f ≤ (n : Int) * B := by
  induction n with
  | zero => rw [sm_zero]; simp
  | succ n ih =>
    have h1 := ih fun i hi => h i (by omega)
    have h2 := h n (by omega)
    rw [sm_succ, Int.natCast_succ, Int.add_mul, Int.one_mul]
    generalize (n : Int) * B = z at h1
    omega
theorem sg_bd (p c : Int) (x B : Int) (h : -B ≤ x ∧ x ≤ B) : -B ≤ sg p c * x ∧ sg p c * x ≤ B := by
  have z := sg_abs1 p c
  have z2 : sg p c = 1 ∨ sg p c = -1 := by omega
  rcases z2 with e | e <;> rw [e] <;> omega
theorem getD_bd {ns : List Int} {B : Int} (hB : 0 ≤ B) (h : ∀ x ∈ ns, -B ≤ x ∧ x ≤ B) (p : Nat) : -B ≤ ns.getD p 0 ∧ ns.getD p 0 ≤ B := by
  rw [List.getD_eq_getElem?_getD]
  cases e : ns[p]? with
  | none => show -B ≤ 0 ∧ 0 ≤ B; omega
  | some x => exact h x (List.mem_of_getElem? e)
theorem sumsL_bd {ns : List Int} {B : Int} (hB : 0 ≤ B) (h : ∀ x ∈ ns, -B ≤ x ∧ x ≤ B) : ∀ y ∈ sumsL ns, -((ns.length : Int) * B) ≤ y ∧ y ≤ (ns.length : Int) * B := by
  intro y hy
  obtain ⟨c, _, rfl⟩ := List.mem_map.mp hy
  exact sm_bd fun p _ => sg_bd _ _ _ _ (getD_bd hB h p)
theorem sums_isRow {ns : List Int} {B : Int} (hB : 0 ≤ B) (hn : ns.length ∈ [1, 2, 4, 8, 16, 32]) (h : ∀ x ∈ ns, -B ≤ x ∧ x ≤ B) (hb : (ns.length : Int) * B ≤ 100000000000000000000) : IsRow (sumsL ns) := by
  refine ⟨by rw [sumsL_length]; exact hn, fun y hy => ?_⟩
  have := sumsL_bd hB h y hy
  omega
/-! ### the squares; two rows together -/
def sq (ns : List Int) : Int := (ns.map fun x => x * x).sum
theorem sum_range (n : Nat) (f : Nat → Int) : ((List.range n).map f).sum = sm n f := rfl
theorem sq_sm (ns : List Int) : sq ns = sm ns.length fun i => ns.getD i 0 * ns.getD i 0 := by
  unfold sq
  rw [map_eq_range]
  exact sum_range _ _
theorem parseval {ns : List Int} {s : Nat} (hs : s < 6) (hn : ns.length = 2 ^ s) : sq (sumsL ns) = (ns.length : Int) * sq ns := by
  rw [sq_sm, sumsL_length, sq_sm]
  have h32 := pow_le' hs
  have e1 : sm ns.length (fun c => (sumsL ns).getD c 0 * (sumsL ns).getD c 0) = sm ns.length fun c => sm ns.length fun p => ns.getD p 0 * (sg (p : Nat) (c : Nat) * (sumsL ns).getD c 0) := by
    refine sm_congr fun c hc => ?_
    have e : (sumsL ns).getD c 0 * (sumsL ns).getD c 0 = (sumsL ns).getD c 0 * sumAt ns c := by rw [getD_sumsL hc]
    rw [e]
    unfold sumAt
    rw [← sm_mulL]
    refine sm_congr fun p _ => ?_
    rw [Int.mul_comm, Int.mul_comm (sg _ _) (ns.getD p 0), Int.mul_assoc]
  rw [e1, sm_swap, ← sm_mulL]
  refine sm_congr fun p hp => ?_
  rw [sm_mulL]
  have e2 : sm ns.length (fun c => sg (p : Nat) (c : Nat) * (sumsL ns).getD c 0) = sumAt (sumsL ns) p := by
    unfold sumAt
    rw [sumsL_length]
    exact sm_congr fun c hc => by rw [sg_symm p (by omega) c (by omega)]
  rw [e2, sumAt_twice hs hn (by omega), ← Int.mul_assoc, Int.mul_comm (ns.getD p 0), Int.mul_assoc]
def addL (ns ms : List Int) : List Int := (List.range ns.length).map fun i => ns.getD i 0 + ms.getD i 0
theorem addL_length (ns ms : List Int) : (addL ns ms).length = ns.length := by
  unfold addL
  rw [List.length_map, List.length_range]
theorem sums_add {ns ms : List Int} (h : ms.length = ns.length) : sumsL (addL ns ms) = addL (sumsL ns) (sumsL ms) := by
  show (List.range (addL ns ms).length).map (sumAt (addL ns ms)) = (List.range (sumsL ns).length).map fun i => (sumsL ns).getD i 0 + (sumsL ms).getD i 0
  rw [addL_length, sumsL_length]
  refine List.map_congr_left fun c hc => ?_
  rw [List.mem_range] at hc
  rw [getD_sumsL hc, getD_sumsL (by omega)]
  unfold sumAt
  rw [addL_length, h, ← sm_add]
  refine sm_congr fun p hp => ?_
  unfold addL
  rw [getD_map_range _ hp, Int.mul_add]
end Sg
namespace Sg
open PySem PySem.Spec PyProof.Rows L2 Evl
theorem mod_at3 (i : Int) (n : Nat) (hn : 0 < n) : ∃ s : Nat, s < n ∧ i % (n : Int) = (s : Int) := by
  have h1 := Int.emod_nonneg i (show (n : Int) ≠ 0 by omega)
  have h2 := Int.emod_lt_of_pos i (show (0 : Int) < n by omega)
  exact ⟨(i % (n : Int)).toNat, by omega, by omega⟩
section
variable {K : PySem.W.Frag} {σ : L2.St} {H : Hp} {ta : TE}
theorem ev_atT {p : Addr} {xs : List V} {v : V} {i : Int} (h : Ev ta σ H (.ref p)) (hT : SqT K H p xs) (ha : atI xs i = some v) : Ev (tOp (rIxT K) ta (tC (.int i))) σ H v := ev_op h ev_c (rv_ixT hT ha)
end
theorem filter_bad (ns : List Int) (n : Int) : (((ns.filter fun x => !decide (x % n = 0)).length : Int) > 0) ↔ ¬ ∀ x ∈ ns, x % n = 0 := by
  constructor
  · intro h1 h2
    have e : ns.filter (fun x => !decide (x % n = 0)) = [] := List.filter_eq_nil_iff.mpr fun x hx => by rw [decide_eq_true (h2 x hx)]; decide
    rw [e] at h1
    exact absurd h1 (by decide)
  · intro h
    cases e : ns.filter (fun x => !decide (x % n = 0)) with
    | nil => exact absurd (fun x hx => by
        have z := List.filter_eq_nil_iff.mp e x hx
        by_cases g : x % n = 0
        · exact g
        · rw [decide_eq_false g] at z
          exact absurd rfl z) h
    | cons x l => rw [List.length_cons]; omega
theorem el_filS {K : PySem.W.Frag} {σ : L2.St} {H : Hp} {tl te : TE} {t : TT} {ns : List Int} {j : Nat} {vs : List Nat} (f : Int → Bool) (h : EvS K tl σ H ns) (hz : ns.length ≤ 40000) (hw : ∀ x, wipe ((wipe σ vs).set j (some x)) vs = wipe σ vs)
    (ht : ∀ n ∈ ns, ∀ H1, Ex H H1 → EvT t ((wipe σ vs).set j (some (.int n))) H1 (f n)) (he : ∀ n ∈ ns, ∀ H1, Ex H H1 → Ev te ((wipe σ vs).set j (some (.int n))) H1 (.int n)) : EvL (tLc (iList K tl) (gName j) t te vs) σ H ((ns.filter f).map V.int) := fun H0 e0 Q q =>
  h H0 e0 _ fun a H1 e1 hx => ⟨a, rfl, ⟨ns.map V.int, hx⟩, fun Dl hD =>
    lc_list (xs := ns.map V.int) (Cw H1 (fun i => f (ns.getD i 0)) (fun i => .int (ns.getD i 0)) Dl) ⟨hD, Ex.new hD, upd_same⟩ (fun i H2 _ p => ex_l p.2.1 hx) (fun i x H2 hi p => by
      obtain ⟨n, hn, rfl⟩ := int_of_map hi
      have hl : i < ns.length := (List.getElem?_eq_some_iff.mp hn).1
      have e : ns.getD i 0 = n := by rw [List.getD_eq_getElem?_getD, hn] <;> rfl
      refine ⟨hw _, cw_turn p (by omega) (by rw [e]; exact ht n (List.mem_of_getElem? hn) H1 (e0.trans e1)) fun _ => ?_⟩
      rw [e]
      exact he n (List.mem_of_getElem? hn) H1 (e0.trans e1)) (fun H2 p => by
      have p3 := p.2.2
      have eg : given (ns.map V.int).length (fun i => f (ns.getD i 0)) (fun i => .int (ns.getD i 0)) = (ns.filter f).map V.int := by
        rw [List.length_map]
        unfold given
        have e2 : ns.filter f = ((List.range ns.length).filter fun i => f (ns.getD i 0)).map fun i => ns.getD i 0 := by
          conv => lhs; rw [list_eq_range ns]
          rw [List.filter_map]
          rfl
        rw [e2, List.map_map]
        rfl
      rw [eg] at p3
      exact q Dl H2 (fresh_back e1 p.1) (e1.trans p.2.1) p3)⟩
end Sg
namespace Sg
open PySem PySem.Spec PyProof.Rows L2 Evl
/-! ### which error it is: a def that gets the caught error -/
section
variable {X : Cx}
def rCountV (K : PySem.W.Frag) : V → List V → Hp → VK → Prop := fun x xs H Q => ∃ (a : Addr) (ys : List V) (y : V), x = .ref a ∧ xs = [y] ∧ SqL K H a ys ∧ flatV y = true ∧ ys.all flatV = true ∧ Q (.int ((ys.countP fun z => eqV z y : Nat) : Int)) H
theorem count_eqU {y : V} : ∀ {ys : List V} {us : List Value}, Vals ys us → ys.all flatV = true → us.countP (eqU y) = ys.countP fun z => eqV z y
  | _, _, .nil, _ => rfl
  | z :: ys, u :: us, .cons r t, f => by
    rw [List.all_cons, Bool.and_eq_true] at f
    rw [List.countP_cons, List.countP_cons, eqU_of r f.1, count_eqU t f.2]
theorem mt_countV : MtR X "list.count" (rCountV X.K) := fun pins s σ H x xs v us Q I rx rxs h => by
  obtain ⟨a, ys, y, rfl, rfl, hs, fy, fys, q⟩ := h
  cases rx
  obtain ⟨uy, rfl, ry⟩ := rxs.one
  obtain ⟨its, rv, ⟨⟨c0, d0, dt, sl0⟩, n, ho, hc, hn, hd⟩, hl⟩ := I.list hs
  dsimp only at hc hd
  subst hc; subst hd
  refine call_meets PySem.F.slot_list_count ⟨_, ho, rfl⟩ PySem.F.entry_list_count (PySem.F.args_list_count_2 _ _) (SeqAt.list_countAt a its.toArray n d0 sl0 uy (eqU y)) ⟨ho, fun u hu => mem_eqAt ry fy rv fys u (by simpa using hu), ?_⟩
  refine ⟨.int ((ys.countP fun z => eqV z y : Nat) : Int), H, I.tok _, ⟨s.toks, ?_⟩, q⟩
  rw [← count_eqU rv fys]
/-- isinstance of what is pinned -/
theorem call_isP {p : Addr × Obj} {D : Addr} (C : ExcC X.K D) (hp : p ∈ X.pn) (hz : Zc (.ref D) none p.2) (hf : ∃ vs, p.2.data = .fields vs) : CallR X (.builtin "isinstance") (rIsE X.K D p.1) := fun pins s σ H xs us Q I r h => by
  obtain ⟨c, cv, b, rfl, hcv, e, q⟩ := h
  match us, r with
  | [u1, u2], .cons r1 (.cons r2 .nil) =>
    cases r1
    cases hcv _ r2
    have hg := (I.pin p (List.mem_append_left _ hp)).1
    obtain ⟨vs, hv⟩ := hf
    have J : PySem.W.InstAt s.heap p.1 p.2 D none := by
      obtain ⟨p1, ⟨oc, od, oda, osl⟩⟩ := p
      obtain ⟨z1, z2⟩ := hz
      dsimp only at z1 z2 hv
      subst z1; subst z2; subst hv
      exact ⟨hg, rfl, rfl, trivial⟩
    refine PySem.W.kia_one (PySem.W.handS_kitx_exc C.hg C.hk C.hs C.hd C.ha C.hn C.ht C.hm) I.kIn J e (fun z => nomatch z) fun tk => ?_
    exact ⟨.bl b, H, I.kept (t' := tk) fun _ _ z => z, rfl, q⟩
end
/-- what such a def promises: of an error of the class D the word t -/
structure FnP (P : Program) (w : World) (K : PySem.W.Frag) (mg : Str → Option Value) (base : Heap) (k : Nat) (f : Addr) (fd : FuncData) (x : Str) (R : Addr → Str → Prop) : Prop where
  go : ∀ {A : Around} {outer : List Env} {s : Shared} {H : Hp} {args : Args} {Q : VK} {E : XK} {p : Addr × Obj} {D : Addr} {t : Str}, L2H.RoomH k A → L2H.PinOk outer H s p → Zc (.ref D) none p.2 → (∃ vs, p.2.data = .fields vs) →
    Env0 P w K mg base A outer s H → BindsTo s fd args [(x, .ref p.1)] → R D t → RetV (.str t) H Q → codeAny (model P w) A (.call (.ref f) args) (CR CX0 outer P w H s Q E) s
theorem fun_okP {P : Program} {w : World} {K : PySem.W.Frag} {mg : Str → Option Value} {base : Heap} {x qual y : Str} {st : Stmt} {f : Addr} {fd : FuncData} {N : List Str} {k : Nat} {R : Addr → Str → Prop} (F : Fun K x qual st f fd) (S : FnScope N [y] (defScope st))
    (hb : ∀ (cdv : Value) (A : Around) (outer : List Env) (s : Shared) (H : Hp) (Q : VK) (E : XK) (p : Addr × Obj) (D : Addr) (t : Str), Zc (.ref D) none p.2 → (∃ vs, p.2.data = .fields vs) → R D t → RetV (.str t) H Q →
      ∃ z, PSs (L2H.cxH CX0 P w K mg base N qual (defScope st) f cdv A outer s H E p) (defBody st) z ∧ z { nx := fun _ H' => Q .non H', rt := Q } (start N [.ref p.1]) H) : FnP P w K mg base (k + 1) f fd y R := by
  obtain ⟨oc, od, kV, doc, pm, an, cdv, ct, osl, rfl, lk, hcd⟩ := F.ex
  refine ⟨fun {A outer s H args Q E p D t} hr hpin hz hf e0 hbi hR hq => ?_⟩
  have hin : K.In s.heap := e0.mod.kin.keeps fun b o e => (e0.bs b o e).1
  have hlim : s.heap.NoLimit := e0.mod.nolimit.keeps fun b o e => (e0.bs b o e).1
  refine codeAny_call_function (L2H.RoomH.depth hr) (hin _ _ lk) rfl S.co S.gen rfl (PySem.W.codeRec_of hin hcd) (hbi _ _ _ _ ?_)
  refine wpAny_newFunctionEnv_cells S.kind (fun z hz1 => ?_) fun env he s1 ic => ?_
  · cases List.mem_singleton.mp hz1
    exact (S.par y (List.mem_singleton.mpr rfl)).elim Or.inl fun q => Or.inr ⟨q, PySem.W.cellsFrom_some _ _ _ (Or.inl q)⟩
  · subst he
    refine ⟨hlim.keeps ic.toInCall.keep, codeAny_func ?_⟩
    obtain ⟨z, hz1, hz2⟩ := hb cdv A outer s H Q E p D t hz hf hR hq
    have I0 : Inv (L2H.cxH CX0 P w K mg base N qual (defScope st) f cdv A outer s H E p) [] (start N [.ref p.1]) H s1 := L2H.inv_startH (ps := [y]) (us := [.ref p.1]) S hpin e0 rfl (.cons rfl .nil) ic
    refine wpAny_mono (hz1.run [] s1 (start N [.ref p.1]) H _ I0 hz2) (fun fl s2 hs => ?_) fun _ _ z => z
    match fl, hs with
    | .ret u, ⟨v, σ', H', J, rv, q⟩ => exact ⟨v, H', J.os, J.bare, J.base, J.hok, rv, q⟩
    | .next, ⟨σ', H', J, q⟩ => exact ⟨.non, H', J.os, J.bare, J.base, J.hok, rfl, q⟩
    | .brk, ⟨_, _, _, q⟩ => exact q.elim
    | .cont, ⟨_, _, _, q⟩ => exact q.elim
/-- the call of it within the suite -/
def tCallP (a : Addr) (cls : Value) (d : Option Addr) (R : Addr → Str → Prop) (t : TA) : TE := fun σ H Q => t σ H fun vs H1 => vs = [.ref a] ∧ ∃ D z, cls = .ref D ∧ d = none ∧ R D z ∧ RetV (.str z) H1 Q
theorem roomP {k j : Nat} {A : Around} {v : Option Value} (r : Room k A) (h : j ≤ k) : L2H.RoomH j (A.mark v) := ⟨(r.mono h).dp, (r.mono h).un⟩
section
variable {X : Cx} {p : Addr × Obj} {cls : Value} {d : Option Addr} {k : Nat} {f : Addr} {fd : FuncData} {x y : Str} {R : Addr → Str → Prop} {e : Expr} {es : List Expr} {t : TA} {q pos : Pos}
theorem run_fnP {pins : List (Addr × Obj)} {σ : L2.St} {H : Hp} {s : Shared} {Q : VK} {D : Addr} {z : Str} (hp : p ∈ X.pn) (F : FnP X.prog X.w X.K X.mg X.base k f fd y R) (hr : L2H.RoomH k X.A) (hz : Zc (.ref D) none p.2) (hf : ∃ vs, p.2.data = .fields vs) (hb : Binds X.K fd [y] [])
    (I : Inv X pins σ H s) (hR : R D z) (h : RetV (.str z) H Q) : wpAny (model X.prog X.w) X.A (call (.ref f) [.ref p.1]) (EP X pins σ Q) X.xe s := by
  have P1 := I.pin p (List.mem_append_left _ hp)
  have hpin : L2H.PinOk X.stack H s p := ⟨P1.1, P1.2.1, fun hin => (List.mem_cons.mp (I.stkSub p.1 hin)).elim P1.2.2.1 P1.2.2.2.1, P1.2.2.2.2⟩
  have b := hb s [.ref p.1] I.kIn rfl
  have g := F.go (E := fun _ _ _ => False) (args := ⟨[.ref p.1], []⟩) hr hpin hz hf I.env0 b hR h
  refine wpAny_call (codeAny_mono g fun rs s2 hq => ?_)
  cases rs with
  | error e => exact False.elim hq
  | ok fl =>
    cases fl with
    | ret u => exact I.after hq
    | next => exact False.elim hq
    | brk => exact False.elim hq
    | cont => exact False.elim hq
theorem pe_callP (hp : p ∈ X.pn) (hz : Zc cls d p.2) (hf : ∃ vs, p.2.data = .fields vs) (F : FnP X.prog X.w X.K X.mg X.base k f fd y R) (hr : L2H.RoomH k X.A) (hg : Gl X x) (hm : X.mg x = some (.ref f)) (hk : PySem.W.keepIn X.K (.ref f) = true) (hb : Binds X.K fd [y] [])
    (ha : PA X (e :: es) t) (hdb : (x == ("__debug__" : Str)) = false := by decide)
    (he : starEach (e :: es) X.env = (false, eval e X.env) :: starEach es X.env := by rfl) (hpl : (backTo pos (starEach es X.env)).any (·.1) = false := by rfl) :
    PE X (.Call (.Name x q) (e :: es) [] pos) (tCallP p.1 cls d R t) := by
  constructor
  intro pins s σ H Q I h
  refine wpAny_Call_Name_kw (ld_glob I hg hm ?_ hdb)
  refine PySem.W.callWith_K (h₀ := X.base) I.ok.mod.kin hk (thn (ha.run pos pins s σ H _ I h) fun us s1 hh => ?_) he hpl
  obtain ⟨vs, H1, I1, r1, ev, D, z, ec, ed, hR, q1⟩ := hh
  subst ev
  subst ec
  subst ed
  obtain ⟨u1, eu, ru⟩ := r1.one
  subst eu
  obtain rfl : u1 = Value.ref p.1 := ru
  exact ⟨I1.kIn, run_fnP hp F hr hz hf hb I1 hR q1⟩
end
/-! ### the words -/
def kindTab : List (Str × Str) := [("NoRow", "row"), ("NoSums", "sums"), ("NoMatch", "match"), ("TooLong", "long"), ("NoStep", "step"), ("NoSigns", "signs"), ("NoChoice", "choice"), ("NoFlat", "flat"), ("NoNote", "note")]
def KindR (K : PySem.W.Frag) (D : Addr) (t : Str) : Prop := ∃ c, (c, t) ∈ kindTab ∧ D = He.ga K c
structure KindsOk (K : PySem.W.Frag) : Prop where
  ex : ∀ c ∈ kindTab, ExcC K (He.ga K c.1)
  ve : ∀ c ∈ kindTab, PySem.W.kitOne K (.ref (He.ga K c.1)) (.type "ValueError") = some true
  is : ∀ c ∈ kindTab, ∀ e ∈ kindTab, PySem.W.kitOne K (.ref (He.ga K c.1)) (.ref (He.ga K e.1)) = some (c.1 == e.1)
def excB (K : PySem.W.Frag) (D : Addr) : Bool :=
  decide (PySem.W.findIn K (.ref D) "__getattribute__" = some (some (.builtin "BaseException.__getattribute__"))) && (decide (PySem.W.findIn K (.ref D) "__getattr__" = some none) && (decide (PySem.W.subIn K (.ref D) (.type "BaseException") = some true) &&
  (PySem.W.hasDictIn K D && (decide (PySem.W.findIn K (.ref D) "__class__" = some (some (.builtin "object.__class__"))) && (decide (PySem.W.specialIn K (.builtin "object.__class__") "__get__" = some (some (.builtin "getset_descriptor.__get__"))) &&
  (decide (PySem.W.takesIn K (.builtin "object.__class__") = some true) && decide (PySem.W.mroIn K D (.type "object") = some true)))))))
theorem excB_ok {K : PySem.W.Frag} {D : Addr} (h : excB K D = true) : ExcC K D := by
  obtain ⟨h1, h⟩ := He.ba h
  obtain ⟨h2, h⟩ := He.ba h
  obtain ⟨h3, h⟩ := He.ba h
  obtain ⟨h4, h⟩ := He.ba h
  obtain ⟨h5, h⟩ := He.ba h
  obtain ⟨h6, h⟩ := He.ba h
  obtain ⟨h7, h8⟩ := He.ba h
  exact ⟨of_decide_eq_true h1, of_decide_eq_true h2, of_decide_eq_true h3, h4, of_decide_eq_true h5, of_decide_eq_true h6, of_decide_eq_true h7, of_decide_eq_true h8⟩
def kindIs (K : PySem.W.Frag) (c e : Str × Str) : Bool := decide (PySem.W.kitOne K (.ref (He.ga K c.1)) (.ref (He.ga K e.1)) = some (c.1 == e.1))
def kindVe (K : PySem.W.Frag) (c : Str × Str) : Bool := decide (PySem.W.kitOne K (.ref (He.ga K c.1)) (.type "ValueError") = some true)
def kindOne (K : PySem.W.Frag) (c : Str × Str) : Bool := excB K (He.ga K c.1) && (kindVe K c && kindTab.all (kindIs K c))
def kindsB (K : PySem.W.Frag) : Bool := kindTab.all (kindOne K)
theorem kindIs_ok {K : PySem.W.Frag} {c e : Str × Str} (h : kindIs K c e = true) : PySem.W.kitOne K (.ref (He.ga K c.1)) (.ref (He.ga K e.1)) = some (c.1 == e.1) := by
  unfold kindIs at h
  exact of_decide_eq_true h
theorem kindVe_ok {K : PySem.W.Frag} {c : Str × Str} (h : kindVe K c = true) : PySem.W.kitOne K (.ref (He.ga K c.1)) (.type "ValueError") = some true := by
  unfold kindVe at h
  exact of_decide_eq_true h
theorem kindOne_ok {K : PySem.W.Frag} {c : Str × Str} (h : kindOne K c = true) : excB K (He.ga K c.1) = true ∧ kindVe K c = true ∧ kindTab.all (kindIs K c) = true := by
  unfold kindOne at h
  rw [Bool.and_eq_true, Bool.and_eq_true] at h
  exact h
theorem kindsB_ok {K : PySem.W.Frag} (h : kindsB K = true) : KindsOk K := by
  unfold kindsB at h
  have g := List.all_eq_true.mp h
  refine ⟨fun c hc => excB_ok (kindOne_ok (g c hc)).1, fun c hc => kindVe_ok (kindOne_ok (g c hc)).2.1, fun c hc e he => ?_⟩
  have g2 := List.all_eq_true.mp (kindOne_ok (g c hc)).2.2
  exact kindIs_ok (g2 e he)
/-- the reading of a try that catches them -/
abbrev tTryE (K : PySem.W.Frag) (C : Addr) (i : Nat) (tb : WX → TS) (ts : Addr → Value → Option Addr → TS) : TS := fun D σ H => tb (wAs K (.ref C) i ts (fun _ _ _ _ => False) D) D σ H
def RetTold (xs : List V) (H : Hp) (Q : VK) : Prop := ∀ l p H2, H l = none → H p = none → Ex H H2 → H2 l = some (.lst xs) → H2 p = some (.tup [.str "told", .ref l]) → Q (.ref p) H2
def RetErr (t : Str) (H : Hp) (Q : VK) : Prop := ∀ p H2, H p = none → Ex H H2 → H2 p = some (.tup [.str t, .non]) → Q (.ref p) H2
end Sg
namespace Sg
open PySem PySem.Spec PyProof.Rows L2 Evl
/-! ### texts -/
abbrev rJoin (K : PySem.W.Frag) : V → List V → Hp → VK → Prop := fun x xs H Q => ∃ a p, ∃ ys : List Str, x = .str a ∧ xs = [.ref p] ∧ (SqL K H p (ys.map V.str) ∨ SqT K H p (ys.map V.str)) ∧ (ys.map (·.length)).sum + ys.length * a.length ≤ 16777216 ∧ Q (.str (Txt.join a ys)) H
abbrev rSplit : V → List V → Hp → VK → Prop := fun x xs H Q => ∃ a b, x = .str a ∧ xs = [.str b] ∧ (b.length == 0) = false ∧ a.length + 2 ≤ sizeLine ∧ rNewStrs (Txt.split a b) H Q
def textI (i : Int) : Str := Str.ofString (toString i)
def numI (i : Int) : List Nat := if i < 0 then 45 :: TL.numL i.natAbs else TL.numL i.natAbs
theorem tl_text (i : Int) : TL.tl (textI i) = numI i := by
  unfold textI numI
  cases i with
  | ofNat n =>
    have z : ¬ Int.ofNat n < 0 := fun h => absurd (show (n : Int) < 0 from h) (by omega)
    rw [if_neg z]
    exact TL.tl_num n
  | negSucc n =>
    rw [if_pos (Int.negSucc_lt_zero n)]
    have e : (toString (Int.negSucc n) : String) = "-" ++ toString (((n + 1 : Nat) : Int)) := rfl
    rw [e, TL.tl_ofString, String.toList_append, List.map_append]
    have e2 := TL.tl_num (n + 1)
    rw [TL.tl_ofString] at e2
    rw [e2]
    rfl
theorem numI_len {i : Int} (h : i.natAbs < 1000000000000000000000) : (numI i).length ≤ 22 := by
  have z := TL.numL_len (n := i.natAbs) (k := 21) (by decide) (by omega)
  unfold numI
  split
  · rw [List.length_cons]
    omega
  · omega
theorem text_len {i : Int} (h : i.natAbs < 1000000000000000000000) : (textI i).length ≤ 22 := by
  rw [TL.len_tl, tl_text]
  exact numI_len h
def textL (ns : List Int) : Str := Txt.join " " (ns.map textI)
theorem texts_sum : ∀ {ns : List Int}, (∀ x ∈ ns, x.natAbs < 1000000000000000000000) → ((ns.map textI).map (·.length)).sum ≤ 22 * ns.length
  | [], _ => Nat.le_refl _
  | x :: ns, h => by
    rw [List.map_cons, List.map_cons, List.sum_cons, List.length_cons]
    have a := text_len (h x List.mem_cons_self)
    have b := texts_sum fun y hy => h y (List.mem_cons_of_mem _ hy)
    omega
def sp_shown (K : PySem.W.Frag) : Sp := fun vs H Q E => ∃ (a : Addr) (ns : List Int), vs = [.ref a] ∧ SqL K H a (ns.map V.int) ∧ (IsRow ns → RetV (.str (textL ns)) H Q) ∧ (¬ IsRow ns → ∀ H', Ex H H' → E (.ref (He.ga K "NoRow")) none H')
theorem len_shown {K : PySem.W.Frag} : ∀ vs H Q E, sp_shown K vs H Q E → vs.length = 1 := fun _ _ _ _ h => by
  obtain ⟨_, _, rfl, _⟩ := h; rfl
section
variable {K : PySem.W.Frag} {σ : L2.St} {H : Hp} {ta tb te tl : TE}
theorem log2_small {n : Nat} (h : n < 2 ^ 1900) : n.log2 < 1920 := by
  by_cases h0 : n = 0
  · rw [h0]; decide
  · exact Nat.lt_of_lt_of_le ((Nat.log2_lt h0).mpr h) (by decide)
theorem ev_strI {i : Int} (h : Ev te σ H (.int i)) (hs : i.natAbs < 1000000000000000000000) : Ev (tCB rStrInt (tCons te tNil)) σ H (.str (textI i)) := fun H1 e Q q => h H1 e _ fun H2 e2 => ⟨i, rfl, log2_small (Nat.lt_of_lt_of_le hs (by decide +kernel)), q H2 e2⟩
theorem ev_join {ys : List Str} {a : Str} (h : Ev ta σ H (.str a)) (h2 : EvL te σ H (ys.map V.str)) (hz : (ys.map (·.length)).sum + ys.length * a.length ≤ 16777216) : Ev (tM1 (rJoin K) ta te) σ H (.str (Txt.join a ys)) := fun H0 e0 Q q =>
  h H0 e0 _ fun H1 e1 => ⟨⟨a, rfl⟩, h2 H1 (e0.trans e1) _ fun p H2 _ e2 hp => ⟨a, p, ys, rfl, rfl, .inl (sq_of hp), hz, q H2 (e1.trans e2)⟩⟩
/-- [str(x) for x in a row] -/
theorem el_strs {ns : List Int} {j : Nat} {vs : List Nat} (h : EvS K tl σ H ns) (hz : ns.length ≤ 1000) (hb : ∀ x ∈ ns, x.natAbs < 1000000000000000000000) (hw : ∀ x, wipe ((wipe σ vs).set j (some x)) vs = wipe σ vs) (he : ∀ n : Int, ((wipe σ vs).set j (some (.int n)))[j]? = some (some (.int n))) :
    EvL (tLc (iList K tl) (gName j) tYes (tCB rStrInt (tCons (tVar j) tNil)) vs) σ H ((ns.map textI).map V.str) := by
  rw [List.map_map]
  exact el_mapS (fun x => .str (textI x)) h (by omega) hw fun n hn H1 e1 => ev_strI (ev_var (he n)) (hb n hn)
theorem row_text {ns : List Int} (h : IsRow ns) : ∀ x ∈ ns, x.natAbs < 1000000000000000000000 := fun x hx => by
  have := h.2 x hx
  omega
end
end Sg
namespace Sg
open PySem PySem.Spec PyProof.Rows L2 Evl
/-! ### words that write numbers -/
abbrev rNoInSg : R2 := fun x y H Q => ∃ (c : Nat) (z : Str), x = .str ⟨#[c]⟩ ∧ y = .str z ∧ Q (.bl (!decide (c ∈ z.cps.toList))) H
section
variable {K : PySem.W.Frag} {σ : L2.St} {H : Hp} {ta tb te tl : TE} {D : Ends} {tu tz : TS}
/-- for sign in a text -/
theorem s_forS {w : Str} {j : Nat} (h : Ev tl σ H (.str w)) (Pv : Nat → L2.St → Hp → Prop) (h0 : ∀ H1, Ex H H1 → Pv 0 σ H1)
    (hs : ∀ i c σ' H', (TL.tl w)[i]? = some c → Pv i σ' H' → tu { D with nx := Pv (i + 1), ct := Pv (i + 1), bk := D.nx } (σ'.set j (some (.str ⟨#[c]⟩))) H') (hd : ∀ σ' H', Pv (TL.tl w).length σ' H' → D.nx σ' H') : tFor (iStr tl) (gName j) tu D σ H :=
  h H (Ex.refl H) _ fun H1 e1 => ⟨w, rfl, for_it walk_str Pv (h0 H1 e1) (fun _ _ _ _ _ => trivial) (fun i x σ' H2 H3 _ p y => by
    obtain ⟨rfl, c, hc, rfl⟩ := y
    exact hs i c σ' H3 (by rw [← hc, Array.getElem?_toList]) p) fun σ' H2 p => hd σ' H2 (by
      have e : (TL.tl w).length = w.cps.size := Array.length_toList
      rw [e]
      exact p)⟩
theorem q_forS {w : Str} {j : Nat} (h : Ev tl σ H (.str w)) (Pv : Nat → L2.St → Hp → Prop) (h0 : ∀ H1, Ex H H1 → Pv 0 σ H1)
    (hs : ∀ i c σ' H', (TL.tl w)[i]? = some c → Pv i σ' H' → tu { D with nx := Pv (i + 1), ct := Pv (i + 1), bk := tz D } (σ'.set j (some (.str ⟨#[c]⟩))) H') (hd : ∀ σ' H', Pv (TL.tl w).length σ' H' → tz D σ' H') : tSeq (tFor (iStr tl) (gName j) tu) tz D σ H :=
  s_forS (D := { D with nx := tz D }) h Pv h0 hs hd
theorem ev_slS {w : Str} {tlo thi : TO} {lo hi : Option Int} (h : Ev te σ H (.str w)) (h1 : EvO tlo σ H lo) (h2 : EvO thi σ H hi) (hz : w.length ≤ 100000) : Ev (tSl rSlS te tlo thi) σ H (.str (cutS w lo hi)) := fun H0 e0 Q q =>
  h H0 e0 _ fun H1 e1 => h1 H1 (e0.trans e1) _ fun H2 e2 => h2 H2 ((e0.trans e1).trans e2) _ fun H3 e3 => ⟨w, rfl, sz_of hz, q H3 ((e1.trans e2).trans e3)⟩
theorem ev_lenStr {w : Str} (h : Ev te σ H (.str w)) (hz : w.length ≤ 100000) : Ev (tCB rLenStr (tCons te tNil)) σ H (.int (w.length : Nat)) := fun H0 e0 Q q => h H0 e0 _ fun H1 e1 => ⟨w, rfl, sz_of hz, q H1 e1⟩
theorem rv_eqS {a b : Str} : RV rEq (.str a) (.str b) H (.bl (decide (a = b))) := by
  have h := rv_eq (H := H) (x := .str a) (y := .str b) rfl
  have e : decide (V.str a = V.str b) = decide (a = b) := by
    by_cases z : a = b
    · rw [z, decide_eq_true rfl, decide_eq_true rfl]
    · rw [decide_eq_false z, decide_eq_false fun q => z (V.str.inj q)]
  rw [e] at h
  exact h
theorem rv_neS {a b : Str} : RV rNe (.str a) (.str b) H (.bl (!decide (a = b))) := by
  have h := rv_ne (H := H) (x := .str a) (y := .str b) rfl
  have e : decide (V.str a = V.str b) = decide (a = b) := by
    by_cases z : a = b
    · rw [z, decide_eq_true rfl, decide_eq_true rfl]
    · rw [decide_eq_false z, decide_eq_false fun q => z (V.str.inj q)]
  rw [e] at h
  exact h
theorem rv_noIn {c : Nat} {z : Str} : RV rNoInSg (.str ⟨#[c]⟩) (.str z) H (.bl (!decide (c ∈ z.cps.toList))) := fun H1 _ _ q => ⟨c, z, rfl, rfl, q H1 (Ex.refl H1)⟩
end
theorem tl_head (w : Str) : TL.tl (cutS w none (some 1)) = (TL.tl w).take 1 := by
  unfold cutS
  have e : HT.sIx w.length w.length (some 1) = min 1 w.length := HT.sIx_nat _ _ 1
  rw [HT.sIx_none, e, TL.tl_mk, List.drop_zero, Nat.sub_zero, TL.len_tl]
  show List.take (min 1 (TL.tl w).length) (TL.tl w) = _
  cases TL.tl w with
  | nil => rfl
  | cons x l => rw [List.length_cons, Nat.min_eq_left (by omega)]
theorem tl_rest (w : Str) : TL.tl (cutS w (some 1) none) = (TL.tl w).drop 1 := by
  unfold cutS
  have e : HT.sIx w.length 0 (some 1) = min 1 w.length := HT.sIx_nat _ _ 1
  rw [HT.sIx_none, e, TL.tl_mk, TL.len_tl]
  show List.take _ (List.drop (min 1 (TL.tl w).length) (TL.tl w)) = _
  cases TL.tl w with
  | nil => rfl
  | cons x l =>
    rw [List.length_cons, Nat.min_eq_left (by omega)]
    show List.take (l.length + 1 - 1) l = l
    rw [Nat.add_sub_cancel, List.take_length]
theorem str_eq (a b : Str) : a = b ↔ TL.tl a = TL.tl b := ⟨fun h => by rw [h], TL.ext_tl⟩
theorem tl_lit (s : String) : TL.tl (Str.ofString s) = s.toList.map Char.toNat := TL.tl_ofString s
/-- what number_of takes as the figures of a word -/
def figs (l : List Nat) : List Nat := if l.take 1 = [45] then l.drop 1 else l
def chkL (l : List Nat) : Bool := decide (1 ≤ (figs l).length ∧ (figs l).length ≤ 21) && (!((figs l).head? == some 48 && !(l == [48])) && (figs l).all fun c => decide (48 ≤ c ∧ c ≤ 57))
theorem numL_head : ∀ n : Nat, 0 < n → (TL.numL n).head? ≠ some 48 := by
  intro n
  induction n using Nat.strongRecOn with
  | ind n ih =>
    intro h0
    by_cases h : n < 10
    · rw [TL.numL_lt h]
      intro z
      injection z with z
      omega
    · rw [TL.numL_step (by omega)]
      have z := ih (n / 10) (by omega) (by omega)
      cases e : TL.numL (n / 10) with
      | nil => exact absurd e (TL.numL_ne _)
      | cons x l =>
        rw [e] at z
        exact z
theorem num_head (n : Nat) : ∃ c l, TL.numL n = c :: l ∧ 48 ≤ c ∧ c ≤ 57 := by
  cases e : TL.numL n with
  | nil => exact absurd e (TL.numL_ne n)
  | cons c l =>
    have h := TL.numL_digits n
    rw [e] at h
    exact ⟨c, l, rfl, h.head⟩
theorem figs_num (i : Int) : figs (numI i) = TL.numL i.natAbs := by
  unfold figs numI
  by_cases h : i < 0
  · rw [if_pos h, if_pos (show List.take 1 (45 :: TL.numL i.natAbs) = [45] from rfl)] <;> rfl
  · rw [if_neg h]
    obtain ⟨c, l, e, h1, h2⟩ := num_head i.natAbs
    rw [e, if_neg]
    intro z
    injection z with z
    omega
theorem chk_num {i : Int} (h : i.natAbs < 1000000000000000000000) : chkL (numI i) = true := by
  unfold chkL
  rw [figs_num]
  have z := TL.numL_len (n := i.natAbs) (k := 21) (by decide) (by omega)
  obtain ⟨c, l, e, h1, h2⟩ := num_head i.natAbs
  have hp : 1 ≤ (TL.numL i.natAbs).length := by rw [e, List.length_cons]; omega
  rw [decide_eq_true ⟨hp, z⟩, Bool.true_and, Bool.and_eq_true]
  constructor
  · by_cases hz : i = 0
    · subst hz
      decide
    · have nh := numL_head i.natAbs (by omega)
      rw [beq_eq_false_iff_ne.mpr nh, Bool.false_and]
      rfl
  · exact List.all_eq_true.mpr fun c hc => decide_eq_true (TL.numL_digits _ c hc)
theorem int_text {i : Int} (h : i.natAbs < 1000000000000000000000) : PySem.intText? (textI i) = some i := by
  have z := numI_len h
  have t := tl_text i
  by_cases hn : i < 0
  · have t2 : (textI i).cps.toList = 45 :: TL.numL i.natAbs := by
      refine t.trans ?_
      unfold numI
      rw [if_pos hn]
    have g := PySem.intText_neg t2 (TL.numL_digits _) (TL.numL_ne _) (by rw [TL.len_tl, t]; omega)
    rw [g, TL.numL_val]
    congr 1
    omega
  · have t2 : (textI i).cps.toList = TL.numL i.natAbs := by
      refine t.trans ?_
      unfold numI
      rw [if_neg hn]
    have g := PySem.intText_digits (x := textI i) (by rw [t2]; exact TL.numL_digits _) (by rw [t2]; exact TL.numL_ne _) (by rw [TL.len_tl, t]; omega)
    rw [g, t2, TL.numL_val]
    congr 1
    omega
def sp_number_of (K : PySem.W.Frag) : Sp := fun vs H Q E => ∃ (w : Str), vs = [.str w] ∧ w.length ≤ 100000 ∧
  (∀ i : Int, i.natAbs < 1000000000000000000000 → w = textI i → RetV (.int i) H Q) ∧ (chkL (TL.tl w) = false → ∀ H', Ex H H' → E (.ref (He.ga K "NoNote")) none H') ∧ (chkL (TL.tl w) = true → ∃ i : Int, i.natAbs < 1000000000000000000000 ∧ w = textI i)
theorem len_number_of {K : PySem.W.Frag} : ∀ vs H Q E, sp_number_of K vs H Q E → vs.length = 1 := fun _ _ _ _ h => by
  obtain ⟨_, rfl, _⟩ := h; rfl
end Sg
namespace Sg
open PySem PySem.Spec PyProof.Rows L2 Evl
theorem texts_split {ns : List Int} (h : ns ≠ []) : Txt.split (textL ns) (Str.ofString " ") = ns.map textI := by
  have e : TL.tl (Str.ofString " ") = 32 :: [] := by decide +kernel
  refine TL.split_join e (by decide +kernel) (fun z => h (List.map_eq_nil_iff.mp z)) fun p hp => ?_
  obtain ⟨i, _, rfl⟩ := List.mem_map.mp hp
  rw [tl_text]
  unfold numI
  split
  · intro z
    rcases List.mem_cons.mp z with z | z
    · exact absurd z (by decide)
    · exact TL.numL_free (Or.inl (by decide)) z
  · exact TL.numL_free (Or.inl (by decide))
theorem join_len (y : Str) : ∀ (parts : List Str), (TL.tl (Txt.join y parts)).length ≤ (parts.map (·.length)).sum + parts.length * y.length := by
  intro parts
  rw [TL.join_eq]
  induction parts with
  | nil => exact Nat.zero_le _
  | cons p l ih =>
    rw [TL.tl_join] at ih ⊢
    cases l with
    | nil =>
      show (TL.tl p).length ≤ _
      rw [List.map_cons, List.sum_cons, List.length_cons, TL.len_tl]
      omega
    | cons r l =>
      have e : TL.joinL (TL.tl y) ((p :: r :: l).map TL.tl) = TL.tl p ++ (TL.tl y ++ TL.joinL (TL.tl y) ((r :: l).map TL.tl)) := rfl
      have e3 : ((p :: r :: l).map (·.length)).sum = p.length + ((r :: l).map (·.length)).sum := rfl
      have e4 : (p :: r :: l).length = (r :: l).length + 1 := rfl
      rw [e, List.length_append, List.length_append, e3, e4, Nat.succ_mul]
      have e1 := TL.len_tl p
      have e2 := TL.len_tl y
      omega
theorem textL_len {ns : List Int} (h : ∀ x ∈ ns, x.natAbs < 1000000000000000000000) : (textL ns).length ≤ 23 * ns.length := by
  have a := join_len (Str.ofString " ") (ns.map textI)
  have b := texts_sum h
  rw [TL.len_tl]
  unfold textL
  have c : (Str.ofString " ").length = 1 := by decide +kernel
  rw [List.length_map, c] at a
  omega
/-- the text so far -/
def backT (ns : List Int) : List Nat := (ns.map fun i => 32 :: numI i).flatten
theorem joinT : ∀ (ns : List Int), ns ≠ [] → 32 :: TL.joinL [32] (ns.map numI) = backT ns
  | [], h => absurd rfl h
  | [i], _ => by
    show 32 :: numI i = [32 :: numI i].flatten
    simp
  | i :: j :: l, _ => by
    have ih := joinT (j :: l) (by simp)
    have e : TL.joinL [32] ((i :: j :: l).map numI) = numI i ++ ([32] ++ TL.joinL [32] ((j :: l).map numI)) := rfl
    rw [e]
    show 32 :: (numI i ++ (32 :: TL.joinL [32] ((j :: l).map numI))) = _
    rw [ih]
    rfl
theorem backT_snoc (ns : List Int) (i : Int) : backT (ns ++ [i]) = backT ns ++ 32 :: numI i := by
  unfold backT
  rw [List.map_append, List.flatten_append]
  simp
theorem backT_len {ns : List Int} (h : ∀ x ∈ ns, x.natAbs < 1000000000000000000000) : (backT ns).length ≤ 23 * ns.length := by
  induction ns with
  | nil => exact Nat.le_refl _
  | cons i l ih =>
    have e : backT (i :: l) = (32 :: numI i) ++ backT l := rfl
    rw [e, List.length_append, List.length_cons, List.length_cons]
    have a := numI_len (h i List.mem_cons_self)
    have b := ih fun x hx => h x (List.mem_cons_of_mem _ hx)
    omega
theorem tl_textL {ns : List Int} : TL.tl (textL ns) = TL.joinL [32] (ns.map numI) := by
  unfold textL
  rw [TL.join_eq, TL.tl_join, List.map_map]
  have e : TL.tl (Str.ofString " ") = [32] := by decide +kernel
  rw [e]
  congr 1
  exact List.map_congr_left fun i _ => tl_text i
end Sg
namespace Sg
open PySem PySem.Spec PyProof.Rows L2 Evl
def sp_law_text (K : PySem.W.Frag) : Sp := fun vs H Q _ => ∃ (a : Addr) (ns : List Int), vs = [.ref a] ∧ SqL K H a (ns.map V.int) ∧ IsRow ns ∧ RetV (.str (textL ns)) H Q
theorem len_law_text {K : PySem.W.Frag} : ∀ vs H Q E, sp_law_text K vs H Q E → vs.length = 1 := fun _ _ _ _ h => by
  obtain ⟨_, _, rfl, _⟩ := h; rfl
end Sg
namespace Sg
open PySem PySem.Spec PyProof.Rows L2 Evl
/-! ### an error that leaves a comprehension -/
section
theorem ff_sub {h B B' : Heap} (k : ∀ b, B.get? b = none → B'.get? b = none) : ∀ {l : List Env}, h.FunFrames B l → h.FunFrames B' l
  | [], _ => trivial
  | _ :: _, ⟨a, ⟨L, o, b1, b2, b3⟩, r⟩ => ⟨a, ⟨L, o, b1, k L b2, b3⟩, ff_sub k r⟩
theorem tr_sub {h B B' : Heap} {a : Addr} {Z : Obj → Prop} {fl : Value} (k : ∀ b, B.get? b = none → B'.get? b = none) (x : HandSPX.TracedZ h B a Z fl) : HandSPX.TracedZ h B' a Z fl := by
  obtain ⟨oe, vs, T, oT, ts, h1, h2, h3, h4, h5, r⟩ := x
  exact ⟨oe, vs, T, oT, ts, h1, h2, h3, h4, k T h5, r⟩
theorem fly_sub {h B B' : Heap} {l : List Env} {a : Addr} {Z : Obj → Prop} (k : ∀ b o, B'.get? b = some o → B.get? b = some o) (x : HandSPX.FlyingZ B l a Z h) : HandSPX.FlyingZ B' l a Z h := by
  have kn : ∀ b, B.get? b = none → B'.get? b = none := fun b e => by
    cases q : B'.get? b with
    | none => rfl
    | some o => rw [k b o q] at e; cases e
  exact ⟨fun b o e => x.1 b o (k b o e), kn a x.2.1, ff_sub kn x.2.2.1, tr_sub kn x.2.2.2⟩
/-- a heap without one address -/
theorem without (h : Heap) (C : Addr) : ∃ G : Heap, (∀ b o, G.get? b = some o → b ≠ C ∧ h.get? b = some o) ∧ ∀ b o, b ≠ C → h.get? b = some o → G.get? b = some o := by
  obtain ⟨G, g1, g2⟩ := restrict h fun b => !decide (b = C)
  refine ⟨G, fun b o e => ?_, fun b o n e => ?_⟩
  · by_cases z : b = C
    · rw [g2 b (by rw [decide_eq_true z]; rfl)] at e
      cases e
    · rw [g1 b (by rw [decide_eq_false z]; rfl)] at e
      exact ⟨z, e⟩
  · rw [g1 b (by rw [decide_eq_false n]; rfl)]
    exact e
variable {X : Cx}
theorem leave_block {pins : List (Addr × Obj)} {σ : L2.St} {H : Hp} {s s' : Shared} {E : XK} {u : Value} {ce : Env} (hs : X.stack = X.env :: X.outer) (hf : X.env.frame = some X.env.locals) (tk : Takes X fun cls d _ H => E cls d H) (hcf : ce.frame = X.env.frame)
    (I : Inv X pins σ H s) {m : Str → Option Value} (hn : s.heap.Ns ce.locals m) (fp : ∀ H' : Hp, H' ce.locals = none → FpOk X pins H' ce.locals) (hC : H ce.locals = none) (c : CX X.prog X.w X.stack H s E u s') :
    notedBy (model X.prog X.w) X.A ce (CompFails (model X.prog X.w) X.A X.xe ce) u s' := by
  obtain ⟨a, B, H1, cls, d, rfl, fl, hok, ub, na, os, ag, hE⟩ := c
  have hfr : X.A.frames = some (X.env :: X.outer) := by rw [I.ok.frames, hs]
  obtain ⟨f0, f1, f2, f3, f4, f5⟩ := fp H hC
  have nfr : ce.locals ∉ frs X.stack := fun z => (List.mem_cons.mp (I.stkSub _ z)).elim f1 f2
  -- the block's own table stands
  obtain ⟨oC, es, ep, hoC, hdC, hnC⟩ := id hn
  have bC : B.get? ce.locals = some oC := ub.keep _ _ hoC hC nfr
  have hC' : s'.heap.Ns ce.locals m := ⟨oC, es, ep, fl.1 _ _ bC, hdC, hnC⟩
  have fC1 := fp H1 (ub.free _ _ hoC hC)
  -- our state without the error
  obtain ⟨G, g1, g2⟩ := restrict s'.heap fun b => (B.get? b).isSome || decide (b ∈ frs X.stack)
  have st : B.StaysIn s'.heap := fl.1
  have inG : ∀ b o, B.get? b = some o → G.get? b = some o := fun b o e => (g1 b (by rw [e] <;> rfl)).trans (st b o e)
  have frG : ∀ b, b ∈ frs X.stack → G.get? b = s'.heap.get? b := fun b hb => g1 b (by rw [decide_eq_true hb, Bool.or_true])
  have ofG : ∀ b o, G.get? b = some o → s'.heap.get? b = some o ∧ (b ∉ frs X.stack → B.get? b = some o) := fun b o e => by
    cases q : ((B.get? b).isSome || decide (b ∈ frs X.stack)) with
    | false =>
      rw [g2 b q] at e
      cases e
    | true =>
      rw [g1 b q] at e
      refine ⟨e, fun nb => ?_⟩
      rw [decide_eq_false nb, Bool.or_false] at q
      obtain ⟨o2, e2⟩ := Option.isSome_iff_exists.mp q
      have z := st b o2 e2
      rw [e] at z
      cases z
      exact e2
  have I1 : Inv X pins σ H1 { s with heap := G, gens := s'.gens, drawn := s'.drawn, toks := s'.toks } := by
    refine I.call (ch := []) ⟨fun b o e n hb _ => inG b o (ub.keep b o e n hb), fun b o e n hb _ => ?_, fun b o e n _ => ub.free b o e n, fun b o e _ => ?_, ub.tups, ub.frzs, ub.tbls⟩ (hok.kept inG) ag (fun _ z => nomatch z)
    · obtain ⟨sl, q⟩ := ub.slot b o e hb
      exact ⟨sl, (frG b hb).trans q⟩
    · by_cases hb : b ∈ frs X.stack
      · obtain ⟨sl, q⟩ := ub.slot b o e hb
        exact ⟨_, (frG b hb).trans q⟩
      · obtain ⟨o2, q⟩ := ub.there b o e hb
        exact ⟨o2, inG b o2 q⟩
  obtain ⟨G2, k1, k2⟩ := without G ce.locals
  obtain ⟨B2, b1, b2⟩ := without B ce.locals
  have I2 : Inv X pins σ H1 { s with heap := G2, gens := s'.gens, drawn := s'.drawn, toks := s'.toks } := by
    obtain ⟨e0, e1, e2, e3, e4, e5⟩ := fC1
    exact I1.turned (t' := s'.toks) (fun b o n e => k2 b o n e) e0 e1 e3 e4 e5
  have fl2 : HandSPX.FlyingZ B2 (X.env :: X.outer) a (Zc cls d) s'.heap := by
    rw [← hs]
    exact fly_sub (fun b o e => (b1 b o e).2) fl
  show wpAny _ _ (noteFrame (.ref a) ce) _ _ s'
  rw [noteFrame_env _ hcf]
  refine HandSPX.looks_onZ Zc.steady hfr hf fl2 fun h1 hh up1 => ⟨m, up1.ns hC', fun h2 m2 hn2 sb => ?_⟩
  -- the block's names are let go
  obtain ⟨t1, t2, t3, oe, vs, T, oT, ts, q1, q2, q3, q4, q5, q6, q7, q8, q9⟩ := hh
  obtain ⟨o1, es1, ep1, ho1, hd1, _⟩ := up1.ns hC'
  have nof : ∀ {b : Addr} {o : Obj} {vs : Array Value}, h1.get? b = some o → o.data = .fields vs → b ≠ ce.locals := fun {b o vs} e1 e2 z => by
    rw [z, ho1] at e1
    cases e1
    rw [hd1] at e2
    cases e2
  have held : HandSPX.HeldZ B2 (X.env :: X.outer) a (Zc cls d) X.env.locals h2 := by
    refine ⟨fun b o e => (sb.2 b (b1 b o e).1).trans (t1 b o e), t2, Heap.FunFrames.sameBut sb hn2 t3, oe, vs, T, oT, ts, (sb.2 a (nof q1 q3)).trans q1, q2, q3, q4, q5, q6, (sb.2 T (nof q7 q8)).trans q7, q8, q9⟩
  unfold PySem.passOn
  refine wpAny_bind (wpAny_field ((sb.2 a (nof q1 q3)).trans q1) q3 q4 ?_)
  rw [if_neg (show ¬ ((Value.ref T == Value.none) = true) from by simp)]
  rw [hcf, hf]
  refine wpAny_bind (HandSPX.setFlight_onZ held fun h3 hh3 up3 => wpAny_throw (tk _ _ ?_))
  refine ⟨a, B2, { s with heap := G2, gens := s'.gens, drawn := s'.drawn, toks := s'.toks }, pins, σ, H1, cls, d, rfl, I2, fun b o e nb => ?_, fun b o e nv => ?_, .inr (.inr (by rw [hs]; exact hh3)), na, os, ag, hE⟩
  · obtain ⟨n, e2⟩ := k1 b o e
    exact b2 b o n ((ofG b o e2).2 nb)
  · obtain ⟨n, e2⟩ := k1 b o e
    obtain ⟨sl1, r1⟩ := up1 b o (ofG b o e2).1 nv
    obtain ⟨sl3, r3⟩ := up3 b _ ((sb.2 b n).trans r1) nv
    exact ⟨sl3, r3⟩
end
end Sg
namespace Sg
open PySem PySem.Spec PyProof.Rows L2 Evl
section
variable {X : Cx}
/-- what a call in the comprehension may let out, taken by xe -/
def TakesB (Y : Cx) (E : XK) : Prop := ∀ (pins : List (Addr × Obj)) (σ : L2.St) (H : Hp) (s : Shared) (e : Value) (s' : Shared), Inv Y pins σ H s → CX Y.prog Y.w Y.stack H s E e s' → Y.xe e s'
theorem lcX {pins : List (Addr × Obj)} {s : Shared} {σ : L2.St} {H : Hp} {Q : VK} {elt tg iter : Expr} {scope : Scope} {own : List (Str × Nat)} {pos pos' : Pos} {wi : TI} {g : TG} {te : TE} {use : Option (Value → Sem Unit)} {Qf : Value → Shared → Prop} {E : XK}
    (hst : X.stack = X.env :: X.outer) (hfm : X.env.frame = some X.env.locals) (tk : Takes X fun cls d _ H => E cls d H) (hc : X.calm = true) (hN : X.N.Nodup) (I : Inv X pins σ H s) (hi : PI X tg iter wi) (ok : BlkOk X.N X.env.scope scope own)
    (hg : ∀ (s : Shared) (H : Hp) (C : Addr) (cl : List (Str × Addr)) (fp : List Addr), PG (X.blk s H scope (compEnvC scope cl C X.env) fp) tg g)
    (he : ∀ (s : Shared) (H : Hp) (C : Addr) (cl : List (Str × Addr)) (fp : List Addr) (xe : Value → Shared → Prop), TakesB ((X.blk s H scope (compEnvC scope cl C X.env) fp).wish xe) E → PE ((X.blk s H scope (compEnvC scope cl C X.env) fp).wish xe) elt te)
    (hfs : ∀ x, foldedSetIterable iter X.env x = pure x) (h : tLc wi g tYes te (own.map (·.2)) σ H Q)
    (fin : ∀ (D : Addr) (ce : Env) (s' : Shared) (m : Str → Option Value) (H' : Hp), Inv X pins σ H' s' → Q (.ref D) H' → s'.heap.Ns ce.locals m → FpOk X pins H' ce.locals → compEnds (model X.prog X.w) X.A X.xe use Qf (.ref D) ce (.ok .next) s') :
    wpAny (model X.prog X.w) X.A (comprehension (.ListComp elt [⟨tg, iter, [], 0⟩] scope pos) scope X.env pos' (newList []) false (eval iter X.env) use) Qf X.xe s := by
  have cells : ∀ y ∈ scope.names, y.2 = .free → ∃ c, X.env.cells.lookup y.1 = some c := fun y hy e => (ok.free y hy e).elim (fun k => I.ok.has _ (Or.inl k)) fun k => I.ok.has _ (Or.inr k)
  refine comprehension_at (use := use) rfl hfs (closure_ok cells) ok.kind (fun y hy e => by rw [ok.uniq y hy, e]) (thn (hi.run pins s σ H _ I h) fun xv s1 hx => thn hx fun itv s2 h2 => ?_)
  obtain ⟨it, fp, tn, J, H2, rfl, I2, T, st2, f2, q⟩ := h2
  refine wpAny_newObj_type (newEnv_comp ?_) (Nat.zero_le _)
  have hDn : H2 s2.heap.objs.size = none := I2.hok.fresh (Nat.le_refl _)
  obtain ⟨Wn, ⟨m0, w0⟩, turn⟩ := q s2.heap.objs.size hDn
  obtain ⟨D, hD⟩ : ∃ D, s2.heap.objs.size = D := ⟨_, rfl⟩
  rw [hD] at w0 turn hDn
  obtain ⟨s3, hs3⟩ : ∃ s3 : Shared, ({ s2 with heap := s2.heap.push { cls := .type "list", data := .seq ([] : List Value).toArray } } : Shared) = s3 := ⟨_, rfl⟩
  have hp3 : s3.heap = s2.heap.push { cls := .type "list", data := .seq ([] : List Value).toArray } := by rw [← hs3]
  have I3 : Inv X pins σ (upd H2 D (.lst [])) s3 := by
    rw [← hs3, ← hD]
    exact I2.laid (t' := s2.toks) (fun b o e => Heap.get?_push_of_some _ e) (Nat.le_refl _) ⟨Nat.zero_le _, [], 0, .nil, Heap.get?_push_size _ rfl⟩
  have f3 : ∀ b ∈ fp, FpOk X pins (upd H2 D (.lst [])) b ∧ b < s3.heap.objs.size := fun b hb => by
    obtain ⟨o, e, _⟩ := T.obj _ _ st2 b hb
    have lt := Heap.lt_size e
    refine ⟨⟨?_, (f2 b hb).2⟩, by rw [hp3, Heap.size_push]; exact Nat.lt_succ_of_lt lt⟩
    rw [upd_ne (by rw [← hD]; exact Nat.ne_of_lt lt)]
    exact (f2 b hb).1
  have t3 : tn 0 s3.heap := T.keep _ _ _ st2 fun b _ o e => by
    rw [hp3]
    exact Heap.get?_push_of_some _ e
  have I4 := block_start I3 ok hN f3
  rw [hs3, hD]
  -- the block's names
  obtain ⟨cl, hcl⟩ : ∃ cl, cellsFrom (s3.heap.objs.size + 1) scope.names (cloFrom X.env.cells scope.names []) = cl := ⟨_, rfl⟩
  rw [hcl] at I4
  have pg := hg s3 (upd H2 D (.lst [])) s3.heap.objs.size cl fp
  have pe := he s3 (upd H2 D (.lst [])) s3.heap.objs.size cl fp
  obtain ⟨ce, hce⟩ : ∃ ce, compEnvC scope cl s3.heap.objs.size X.env = ce := ⟨_, rfl⟩
  have cL : ce.locals = s3.heap.objs.size := by rw [← hce] <;> rfl
  have cF : ce.frame = X.env.frame := by rw [← hce] <;> rfl
  show codeAny _ _ (.compStart (.ListComp elt [⟨tg, iter, [], 0⟩] scope pos) 0 (.ref it) (.ref D) (compEnvC scope (cellsFrom (s3.heap.objs.size + 1) scope.names (cloFrom X.env.cells scope.names [])) s3.heap.objs.size X.env)) (compEnds (model X.prog X.w) X.A X.xe use Qf (.ref D) (compEnvC scope (cellsFrom (s3.heap.objs.size + 1) scope.names (cloFrom X.env.cells scope.names [])) s3.heap.objs.size X.env)) { s3 with heap := pushCells (s3.heap.push { cls := .type "dict", data := .dict #[] }) scope.names }
  rw [hcl, hce]
  rw [hce] at I4 pg pe
  obtain ⟨H3, hH3⟩ : ∃ H3, upd H2 D (.lst []) = H3 := ⟨_, rfl⟩
  rw [hH3] at I3 I4 pg pe w0 f3
  obtain ⟨s4, hs4⟩ : ∃ s4 : Shared, ({ s3 with heap := pushCells (s3.heap.push { cls := .type "dict", data := .dict #[] }) scope.names } : Shared) = s4 := ⟨_, rfl⟩
  have t4 : tn 0 s4.heap := T.keep _ _ _ t3 fun b _ o e => by
    rw [← hs4]
    exact pushCells_keeps _ _ _ _ (Heap.get?_push_of_some _ e)
  rw [hs4] at I4 ⊢
  have stat : ∀ {σ' : L2.St} {H' : Hp} {s' : Shared}, Inv (X.blk s3 H3 scope ce fp) [] σ' H' s' → (∀ b ∈ fp, H' b = none) → ∀ b ∈ fp, FpOk (X.blk s3 H3 scope ce fp) [] H' b := fun {σ' H' s'} I' hn b hb =>
    ⟨hn b hb, (I'.ok.exf b hb).1, I'.ok.exfs b hb, Or.inl hb, fun x c e => (I'.ok.exf b hb).2 x c e, fun p hp => absurd (show p ∈ ([] : List (Addr × Obj)) ++ [] from hp) (by simp)⟩
  -- back in the def
  have home : ∀ {pn : List (Addr × Obj)} {σ' : L2.St} {H' : Hp} {s' : Shared}, Inv (X.blk s3 H3 scope ce fp) pn σ' H' s' → Inv X pins σ H' s' := fun I' => I3.call' (ch := fp) I'.os I'.base I'.hok I'.bare fun b hb => ⟨(f3 b hb).1.2.2.2.1, (f3 b hb).1.2.1, (f3 b hb).1.2.2.2.2.1, (f3 b hb).1.2.2.2.2.2⟩
  have fpC : ∀ H' : Hp, H' ce.locals = none → FpOk X pins H' ce.locals := fun H' n => I3.fpOk (by rw [cL]; exact Nat.le_refl _) n
  have take : TakesB ((X.blk s3 H3 scope ce fp).wish fun e s' => notedBy (model X.prog X.w) X.A ce (CompFails (model X.prog X.w) X.A X.xe ce) e s') E := fun pn σ' H' s' e s2' I' c => by
    have I0 : Inv (X.blk s3 H3 scope ce fp) pn σ' H' s' := I'.unwish
    obtain ⟨m, hm, _⟩ := I0.loc
    exact leave_block hst hfm tk cF (home I0) hm fpC I0.free c
  have loop : codeAny (model X.prog X.w) X.A (.compLoop (.ListComp elt [⟨tg, iter, [], 0⟩] scope pos) 0 (.ref it) (.ref D) ce) (compEnds (model X.prog X.w) X.A X.xe use Qf (.ref D) ce) s4 := by
    refine compLoop_any (fun n s' => ∃ i H', Inv (X.blk s3 H3 scope ce fp) [] (wipe σ (own.map (·.2))) H' s' ∧ tn i s'.heap ∧ (∀ b ∈ fp, H' b = none) ∧ Wn i n H') ?_ m0 ⟨0, H3, I4, t4, fun b hb => (f3 b hb).1.1, w0⟩
    rintro n s5 ⟨i, H5, I5, t5, n5, w5⟩
    rcases turn i n H5 w5 with ⟨stop, qq⟩ | ⟨go, Nx, hNx, step⟩
    · refine thnF (T.done (X.blk s3 H3 scope ce fp) rfl rfl rfl hc i [] s5 _ H5 (fun _ _ => False) I5 (stat I5 n5) t5 stop) fun r s6 ⟨hr, I6⟩ => ?_
      subst hr
      obtain ⟨m, hm, _⟩ := I6.loc
      exact fin D ce s6 m H5 (home I6) qq hm (fpC H5 I6.free)
    · refine thnF (T.item (X.blk s3 H3 scope ce fp) rfl rfl rfl hc i [] s5 _ H5 (fun _ _ => False) I5 (stat I5 n5) t5 go) fun r s6 ⟨u, hr, h6⟩ => ?_
      subst hr
      refine thnF h6 fun _ s7 ⟨x, H7, I7, r7, y7, t7, n7⟩ => thnF (pg.run _ s7 _ H7 x u _ (I7.pinned (stat I7 n7) (T.obj _ _ t7)) r7 (step x H7 y7)) fun _ s8 ⟨σ8, H8, I8, hw8, q8⟩ => ?_
      have next : ∀ {s' : Shared} {H' : Hp}, Inv (X.blk s3 H3 scope ce fp) ([] ++ pinsAt fp s7.heap) σ8 H' s' → Nx H' → ∃ m, m < n ∧ ∃ i H', Inv (X.blk s3 H3 scope ce fp) [] (wipe σ (own.map (·.2))) H' s' ∧ tn i s'.heap ∧ (∀ b ∈ fp, H' b = none) ∧ Wn i m H' := fun {s' H'} I' nx => by
        obtain ⟨m', hm, w'⟩ := hNx H' nx
        have at_ : ∀ b ∈ fp, ∀ o, s7.heap.get? b = some o → s'.heap.get? b = some o ∧ H' b = none := fun b hb o e => by
          have z := I'.pin (b, o) (List.mem_append_right _ (List.mem_append_right _ (mem_pinsAt hb e)))
          exact ⟨z.1, z.2.1⟩
        refine ⟨m', hm, i + 1, H', (I'.unpinned (pins := [])).weak (by rw [← hw8, wipe_length]) (fun j v e => ?_), T.keep _ _ _ t7 fun b hb o e => (at_ b hb o e).1, fun b hb => ?_, w'⟩
        · rw [← hw8] at e
          exact (wipe_some e).1
        · obtain ⟨o, e, _⟩ := T.obj _ _ t7 b hb
          exact (at_ b hb o e).2
      have q8 : te σ8 H8 fun y H4 => ∃ acc, H4 D = some (.lst acc) ∧ acc.length < sizeLine ∧ Nx (upd H4 D (.lst (acc ++ [y]))) := q8
      refine wpAny_tests_nil ?_
      rw [if_pos rfl]
      refine wpAny_mono ((pe _ take).run _ s8 σ8 H8 _ (I8.wish _) q8) (fun z s10 hz => ?_) (fun e s' hx => hx)
      obtain ⟨yv, H10, I10, r10, acc, hD10, hz10, nx⟩ := hz
      exact app_ok (X := X.blk s3 H3 scope ce fp) I10.unwish hD10 hz10 r10 fun s11 I11 => next I11 nx
  exact codeAny_compStart_list loop (T.self X.A 0 _ _ _ t4 loop)
theorem ps_setLcX {i : Nat} {y : Str} {py : Pos} {elt tg iter : Expr} {scope : Scope} {own : List (Str × Nat)} {pos spos : Pos} {wi : TI} {g : TG} {te : TE} {E : XK}
    (hst : X.stack = X.env :: X.outer) (hfm : X.env.frame = some X.env.locals) (tk : Takes X fun cls d _ H => E cls d H) (hc : X.calm = true) (hN : X.N.Nodup) (hy : X.N[i]? = some y) (hyl : X.env.scope.names.lookup y = some .local)
    (hsw : swapsWith (.ListComp elt [⟨tg, iter, [], 0⟩] scope pos) (some (.Name y py)) spos.line X.env = pure true) (hi : PI X tg iter wi) (ok : BlkOk X.N X.env.scope scope own)
    (hg : ∀ (s : Shared) (H : Hp) (C : Addr) (cl : List (Str × Addr)) (fp : List Addr), PG (X.blk s H scope (compEnvC scope cl C X.env) fp) tg g)
    (he : ∀ (s : Shared) (H : Hp) (C : Addr) (cl : List (Str × Addr)) (fp : List Addr) (xe : Value → Shared → Prop), TakesB ((X.blk s H scope (compEnvC scope cl C X.env) fp).wish xe) E → PE ((X.blk s H scope (compEnvC scope cl C X.env) fp).wish xe) elt te)
    (hfs : ∀ x, foldedSetIterable iter X.env x = pure x := by intro _; rfl) : PS X (.Assign [.Name y py] (.ListComp elt [⟨tg, iter, [], 0⟩] scope pos) spos) (tAsg (tLc wi g tYes te (own.map (·.2))) (gName i)) := by
  constructor; intro pins s σ H D I h
  rw [exec_Assign_Name_used _ _ _ _ hsw]
  refine wpAny_bind (wpAny_standAt (wpAny_bind ?_)); show wpAny _ X.A (do let _ ← comprehension (.ListComp elt [⟨tg, iter, [], 0⟩] scope pos) scope X.env (firstIterPos [⟨tg, iter, [], 0⟩] pos) (newList []) false (eval iter X.env) (some (assign (.Name y py) X.env))) _ _ s
  have h0 : tLc wi g tYes te (own.map (·.2)) σ H (fun x H1 => gName i x σ H1 D.nx) := h
  refine wpAny_bind (thn (lcX (Qf := fun _ s' => SP X pins D .next s') hst hfm tk hc hN I hi ok hg he hfs h0 fun L ce s' m H' I' q hn f => ?_) fun _ s' hq => wpAny_pure (wpAny_pure hq))
  show wpAny _ _ (assign (.Name y py) X.env (.ref L)) _ _ _; refine wpAny_assign_Name (store_ok2 (v := V.ref L) I' hN hy (.inl hyl) rfl (fun s2 I2 ⟨b, sb, hb⟩ => ?_) (.inr hyl))
  obtain ⟨f0, f1, f2, f3, f4, f5⟩ := f
  have ne : ce.locals ≠ b := fun z => hb.elim (fun y2 => f1 (z.trans y2)) fun y2 => f4 y b y2 z.symm
  exact ⟨m, hn.sameBut sb ne, fun h3 sb3 => ⟨_, H', I2.turned (t' := s2.toks) (fun b o hb e => (sb3.2 b hb).trans e) f0 f1 f3 f4 f5, q⟩⟩
end
end Sg
namespace Sg
open PySem PySem.Spec PyProof.Rows L2 Evl
/-- a def whose errors have no context -/
theorem fun_okN {P : Program} {w : World} {K : PySem.W.Frag} {mg : Str → Option Value} {base : Heap} {x qual : Str} {st : Stmt} {f : Addr} {fd : FuncData} {N ps : List Str} {k : Nat} {sp : Sp} (F : Fun K x qual st f fd) (S : FnScope N ps (defScope st)) (len : ∀ vs H Q E, sp vs H Q E → vs.length = ps.length)
    (hb : ∀ (cdv : Value) (A : Around) (outer : List Env) (s : Shared) (H : Hp) (vs : List V) (Q : VK) (E : XK), Room k (A.deeper (envOfC qual (defScope st) s.heap.objs.size f cdv)) → sp vs H Q E →
      ∃ t, PSs (cxOf (L2N.CX P w) P w K mg base N qual (defScope st) f cdv A outer s H E) (defBody st) t ∧ t { nx := fun _ H' => Q .non H', rt := Q } (start N vs) H) : FnOk P w K mg base (L2N.CX P w) (k + 1) f fd ps sp := by
  obtain ⟨_, _, _, _, _, _, _, _, _, rfl, lk, hcd⟩ := F.ex
  exact fn_of lk hcd S len fun A outer s H vs Q E hr h => hb _ A outer s H vs Q E hr h
/-- the reading of a try whose suite raises -/
abbrev tTryO (K : PySem.W.Frag) (E : XK) (C : Addr) (tb : WX → TS) (ts : Addr → Value → Option Addr → TS) : TS := fun D σ H => tb (wOnly K (.ref C) ts (fun cls d _ H => E cls d H) D) D σ H
end Sg
namespace Sg
open PySem PySem.Spec PyProof.Rows L2 Evl
/-! ### what number_of takes writes a number -/
theorem val_snoc (l : List Nat) (c : Nat) : NumText.digitsVal (l ++ [c]) = NumText.digitsVal l * 10 + (c - 48) := by
  unfold NumText.digitsVal
  rw [List.foldl_append]
  rfl
theorem val_lt : ∀ (n : Nat) (l : List Nat), l.length = n → NumText.AllDigits l → NumText.digitsVal l < 10 ^ n
  | 0, l, h, _ => by
    cases l with
    | nil => decide
    | cons x l => cases h
  | n + 1, l, h, hd => by
    have ne : l ≠ [] := fun z => by rw [z] at h; cases h
    have e := List.dropLast_concat_getLast ne
    have lt := val_lt n l.dropLast (by rw [List.length_dropLast]; omega) fun c hc => hd c (List.dropLast_subset l hc)
    have hg := hd _ (List.getLast_mem ne)
    rw [← e, val_snoc, Nat.pow_succ]
    omega
theorem num_val : ∀ (n : Nat) (l : List Nat), l.length = n → l ≠ [] → NumText.AllDigits l → (l.head? = some 48 → l = [48]) → TL.numL (NumText.digitsVal l) = l
  | 0, l, h, ne, _, _ => by
    cases l with
    | nil => exact absurd rfl ne
    | cons x l => cases h
  | n + 1, l, h, ne, hd, h0 => by
    have e := List.dropLast_concat_getLast ne
    obtain ⟨r, hr⟩ : ∃ r, l.dropLast = r := ⟨_, rfl⟩
    obtain ⟨c, hc⟩ : ∃ c, l.getLast ne = c := ⟨_, rfl⟩
    have hg := hd _ (List.getLast_mem ne)
    rw [hc] at hg
    rw [hr, hc] at e
    have rl : r.length = n := by rw [← hr, List.length_dropLast]; omega
    rw [← e, val_snoc]
    cases r with
    | nil =>
      have v0 : NumText.digitsVal [] = 0 := rfl
      rw [v0, Nat.zero_mul, Nat.zero_add, TL.numL_lt (by omega)]
      show [48 + (c - 48)] = [c]
      congr 1
      omega
    | cons x r =>
      have rd : NumText.AllDigits (x :: r) := fun y hy => hd y (by rw [← e]; exact List.mem_append_left _ hy)
      have x0 : x ≠ 48 := fun z => by
        have := h0 (by rw [← e, z]; rfl)
        rw [← e] at this
        have := congrArg List.length this
        simp at this
      have ih := num_val n (x :: r) rl (by simp) rd fun z => absurd (Option.some.inj z) x0
      have pos : 0 < NumText.digitsVal (x :: r) := by
        refine Nat.pos_of_ne_zero fun z => ?_
        rw [z] at ih
        have e0 : TL.numL 0 = [48] := TL.numL_lt (by decide)
        rw [e0] at ih
        injection ih with i1 i2
        exact x0 i1.symm
      rw [TL.numL_step (by omega)]
      have d1 : (NumText.digitsVal (x :: r) * 10 + (c - 48)) / 10 = NumText.digitsVal (x :: r) := by omega
      have d2 : 48 + (NumText.digitsVal (x :: r) * 10 + (c - 48)) % 10 = c := by omega
      rw [d1, d2, ih]
theorem canon {w : Str} (h : chkL (TL.tl w) = true) : ∃ i : Int, i.natAbs < 1000000000000000000000 ∧ w = textI i := by
  unfold chkL at h
  rw [Bool.and_eq_true, Bool.and_eq_true] at h
  obtain ⟨h1, h2, h3⟩ := h
  have h1 := of_decide_eq_true h1
  have hd : NumText.AllDigits (figs (TL.tl w)) := fun c hc => of_decide_eq_true (List.all_eq_true.mp h3 c hc)
  have ne : figs (TL.tl w) ≠ [] := fun z => by rw [z] at h1; exact absurd h1.1 (by decide)
  have lt := val_lt _ _ rfl hd
  have lt2 : NumText.digitsVal (figs (TL.tl w)) < 1000000000000000000000 := Nat.lt_of_lt_of_le lt (Nat.le_trans (Nat.pow_le_pow_right (by decide) h1.2) (by decide))
  have z48 : (figs (TL.tl w)).head? = some 48 → TL.tl w = [48] := fun z => by
    rw [z] at h2
    have h2 : (!(true && !(TL.tl w == [48]))) = true := h2
    by_cases y : TL.tl w = [48]
    · exact y
    · rw [beq_eq_false_iff_ne.mpr y] at h2
      exact absurd h2 (by decide)
  have nv := num_val _ _ rfl ne hd fun z => by
    rw [z48 z]
    rfl
  by_cases m : (TL.tl w).take 1 = [45]
  · have ef : figs (TL.tl w) = (TL.tl w).drop 1 := if_pos m
    have et : TL.tl w = 45 :: figs (TL.tl w) := by
      rw [ef]
      cases e : TL.tl w with
      | nil => rw [e] at m; cases m
      | cons x l =>
        rw [e] at m
        injection m with m1 m2
        rw [m1]
        rfl
    have pos : 0 < NumText.digitsVal (figs (TL.tl w)) := by
      refine Nat.pos_of_ne_zero fun z => ?_
      rw [z] at nv
      have e0 : TL.numL 0 = [48] := TL.numL_lt (by decide)
      rw [e0] at nv
      have := z48 (by rw [← nv] <;> rfl)
      rw [this] at m
      exact absurd m (by decide)
    refine ⟨-(NumText.digitsVal (figs (TL.tl w)) : Int), by omega, TL.ext_tl ?_⟩
    rw [tl_text]
    unfold numI
    rw [if_pos (by omega), show (-(NumText.digitsVal (figs (TL.tl w)) : Int)).natAbs = NumText.digitsVal (figs (TL.tl w)) by omega, nv]
    exact et
  · have ef : figs (TL.tl w) = TL.tl w := if_neg m
    refine ⟨(NumText.digitsVal (figs (TL.tl w)) : Int), by omega, TL.ext_tl ?_⟩
    rw [tl_text]
    unfold numI
    rw [if_neg (by omega), show ((NumText.digitsVal (figs (TL.tl w)) : Int)).natAbs = NumText.digitsVal (figs (TL.tl w)) by omega, nv, ef]
end Sg
namespace Sg
open PySem PySem.Spec PyProof.Rows L2 Evl
/-! ### texts that are no row's -/
abbrev wordsOf (t : Str) : List Str := Txt.split t (Str.ofString " ")
abbrev Small (ns : List Int) : Prop := ∀ x ∈ ns, x.natAbs < 1000000000000000000000
def Reads (t : Str) : Prop := ∃ ns : List Int, wordsOf t = ns.map textI ∧ Small ns ∧ IsRow ns
def Unread (t : Str) : Prop := (∃ w ∈ wordsOf t, chkL (TL.tl w) = false) ∨ ∃ ns : List Int, wordsOf t = ns.map textI ∧ Small ns ∧ ¬ IsRow ns
def sp_read (K : PySem.W.Frag) : Sp := fun vs H Q E => ∃ (t : Str), vs = [.str t] ∧ t.length ≤ 9000 ∧ (Reads t → ∀ v H', Ex H H' → Q v H') ∧ (Unread t → ∀ H', Ex H H' → E (.ref (He.ga K "NoNote")) none H')
def sp_law_tried (K : PySem.W.Frag) : Sp := fun vs H Q _ => ∃ (t : Str), vs = [.str t] ∧ t.length ≤ 9000 ∧ ((Reads t ∧ RetV (.str "read") H Q) ∨ (Unread t ∧ RetV (.str "note") H Q))
def sp_law_spoiled (K : PySem.W.Frag) : Sp := fun vs H Q _ => ∃ (a : Addr) (ns : List Int) (w c : Nat), vs = [.ref a, .int w, .int c] ∧ SqL K H a (ns.map V.int) ∧ IsRow ns ∧ w < 5 ∧ c < 1000003 ∧ ∀ t : Str, t.length ≤ 9000 → Unread t → RetV (.str t) H Q
theorem len_read {K : PySem.W.Frag} : ∀ vs H Q E, sp_read K vs H Q E → vs.length = 1 := fun _ _ _ _ h => by
  obtain ⟨_, rfl, _⟩ := h; rfl
theorem len_law_tried {K : PySem.W.Frag} : ∀ vs H Q E, sp_law_tried K vs H Q E → vs.length = 1 := fun _ _ _ _ h => by
  obtain ⟨_, rfl, _⟩ := h; rfl
theorem len_law_spoiled {K : PySem.W.Frag} : ∀ vs H Q E, sp_law_spoiled K vs H Q E → vs.length = 3 := fun _ _ _ _ h => by
  obtain ⟨_, _, _, _, rfl, _⟩ := h; rfl
/-! the words, sign by sign -/
abbrev spw : List Nat → List Nat → List (List Nat) := TL.spl [32] 0
theorem pre32 (c : Nat) (r : List Nat) : TL.pre [32] (c :: r) = decide (c = 32) := by
  by_cases h : c = 32
  · rw [decide_eq_true h, h]
    rfl
  · rw [decide_eq_false h]
    exact TL.pre_of_head [] r h
theorem spw_nil (acc : List Nat) : spw acc [] = [acc] := TL.spl_nil _ _ _
theorem spw_sep (acc r : List Nat) : spw acc (32 :: r) = acc :: spw [] r := TL.spl_hit (by rw [pre32]; rfl)
theorem spw_other {acc r : List Nat} {c : Nat} (h : c ≠ 32) : spw acc (c :: r) = spw (acc ++ [c]) r := TL.spl_miss (by rw [pre32, decide_eq_false h])
theorem words_tl (t : Str) : (wordsOf t).map TL.tl = spw [] (TL.tl t) := by
  have e : TL.tl (Str.ofString " ") = [32] := by decide +kernel
  have h := TL.split_spl t (Str.ofString " ") (by rw [e]; simp) (TL.kind_ok (by decide +kernel))
  rw [e] at h
  exact h
theorem spw_len : ∀ (l acc : List Nat), (spw acc l).length ≤ l.length + 1 ∧ ∀ w ∈ spw acc l, w.length ≤ acc.length + l.length
  | [], acc => by
    rw [spw_nil]
    exact ⟨Nat.le_refl _, fun w hw => by rw [List.mem_singleton.mp hw]; exact Nat.le_add_right _ _⟩
  | c :: l, acc => by
    by_cases h : c = 32
    · subst h
      rw [spw_sep]
      obtain ⟨h1, h2⟩ := spw_len l []
      refine ⟨by rw [List.length_cons, List.length_cons]; omega, fun w hw => ?_⟩
      rcases List.mem_cons.mp hw with rfl | hw
      · exact Nat.le_add_right _ _
      · have := h2 w hw
        rw [List.length_nil] at this
        rw [List.length_cons]
        omega
    · rw [spw_other h]
      obtain ⟨h1, h2⟩ := spw_len l (acc ++ [c])
      refine ⟨by rw [List.length_cons]; omega, fun w hw => ?_⟩
      have := h2 w hw
      rw [List.length_append, List.length_singleton] at this
      rw [List.length_cons]
      omega
theorem words_len (t : Str) : (wordsOf t).length ≤ t.length + 1 ∧ ∀ w ∈ wordsOf t, w.length ≤ t.length := by
  have h := spw_len (TL.tl t) []
  rw [← words_tl, List.length_map, ← TL.len_tl] at h
  refine ⟨h.1, fun w hw => ?_⟩
  have := h.2 (TL.tl w) (List.mem_map.mpr ⟨w, hw, rfl⟩)
  rw [← TL.len_tl, List.length_nil] at this
  omega
/-- a bad word, by its signs -/
theorem unread_of {t : Str} {w : List Nat} (h : w ∈ spw [] (TL.tl t)) (hb : chkL w = false) : Unread t := by
  rw [← words_tl] at h
  obtain ⟨s, hs, rfl⟩ := List.mem_map.mp h
  exact .inl ⟨s, hs, hb⟩
end Sg
namespace Sg
open PySem PySem.Spec PyProof.Rows L2 Evl
/-! ### spoiled texts -/
theorem spw_has {c : Nat} (hc : c ≠ 32) : ∀ (l acc : List Nat), (c ∈ acc ∨ c ∈ l) → ∃ w ∈ spw acc l, c ∈ w
  | [], acc, h => by
    rw [spw_nil]
    exact ⟨acc, List.mem_singleton.mpr rfl, h.elim id fun z => by cases z⟩
  | x :: l, acc, h => by
    by_cases hx : x = 32
    · subst hx
      rw [spw_sep]
      rcases h with h | h
      · exact ⟨acc, List.mem_cons_self, h⟩
      · rcases List.mem_cons.mp h with h | h
        · exact absurd h hc
        · obtain ⟨w, hw, hcw⟩ := spw_has hc l [] (.inr h)
          exact ⟨w, List.mem_cons_of_mem _ hw, hcw⟩
    · rw [spw_other hx]
      refine spw_has hc l (acc ++ [x]) ?_
      rcases h with h | h
      · exact .inl (List.mem_append_left _ h)
      · rcases List.mem_cons.mp h with h | h
        · exact .inl (List.mem_append_right _ (List.mem_singleton.mpr h))
        · exact .inr h
theorem chk_char {c : Nat} {w : List Nat} (h : c ∈ w) (h1 : ¬ (48 ≤ c ∧ c ≤ 57)) (h2 : c ≠ 45) : chkL w = false := by
  have hm : c ∈ figs w := by
    unfold figs
    split
    · rename_i e
      cases w with
      | nil => cases h
      | cons x l =>
        injection e with e1 e2
        rcases List.mem_cons.mp h with z | z
        · exact absurd (z.trans e1) h2
        · exact z
    · exact h
  have ha : ((figs w).all fun c => decide (48 ≤ c ∧ c ≤ 57)) = false := List.all_eq_false.mpr ⟨c, hm, by rw [decide_eq_false h1]; decide⟩
  unfold chkL
  rw [ha, Bool.and_false, Bool.and_false]
theorem unread_char {t : Str} {c : Nat} (h : c ∈ TL.tl t) (h0 : c ≠ 32) (h1 : ¬ (48 ≤ c ∧ c ≤ 57)) (h2 : c ≠ 45) : Unread t := by
  obtain ⟨w, hw, hc⟩ := spw_has h0 (TL.tl t) [] (.inr h)
  exact unread_of hw (chk_char hc h1 h2)
theorem spw_end : ∀ (l acc : List Nat), [] ∈ spw acc (l ++ [32])
  | [], acc => by
    show [] ∈ spw acc [32]
    rw [spw_sep, spw_nil]
    exact List.mem_cons_of_mem _ List.mem_cons_self
  | x :: l, acc => by
    show [] ∈ spw acc (x :: (l ++ [32]))
    by_cases hx : x = 32
    · subst hx
      rw [spw_sep]
      exact List.mem_cons_of_mem _ (spw_end l [])
    · rw [spw_other hx]
      exact spw_end l _
theorem spw_two (r : List Nat) : ∀ (l acc : List Nat), [] ∈ spw acc (l ++ ([32, 32] ++ r))
  | [], acc => by
    show [] ∈ spw acc (32 :: 32 :: r)
    rw [spw_sep, spw_sep]
    exact List.mem_cons_of_mem _ List.mem_cons_self
  | x :: l, acc => by
    show [] ∈ spw acc (x :: (l ++ ([32, 32] ++ r)))
    by_cases hx : x = 32
    · subst hx
      rw [spw_sep]
      exact List.mem_cons_of_mem _ (spw_two r l [])
    · rw [spw_other hx]
      exact spw_two r l _
theorem unread_row {t : Str} {ns : List Int} (h : TL.tl t = TL.joinL [32] (ns.map numI)) (ne : ns ≠ []) (hs : Small ns) (hr : ¬ IsRow ns) : Unread t := by
  have e : t = textL ns := TL.ext_tl (h.trans tl_textL.symm)
  rw [e]
  exact .inr ⟨ns, texts_split ne, hs, hr⟩
theorem repl_in (Z : List Nat) : ∀ l : List Nat, 32 ∈ l → ∃ a b, PySem.StrLaws.replL [32] Z l = a ++ (Z ++ b)
  | [], h => by cases h
  | c :: l, h => by
    by_cases hc : c = 32
    · subst hc
      exact ⟨[], PySem.StrLaws.replL [32] Z l, PySem.StrLaws.replL_hit (by simp) rfl⟩
    · obtain ⟨a, b, e⟩ := repl_in Z l ((List.mem_cons.mp h).elim (fun z => absurd z.symm hc) id)
      refine ⟨c :: a, b, ?_⟩
      rw [PySem.StrLaws.replL_miss (by
        intro z
        injection z with z
        exact hc z), e]
      rfl
theorem text_sep {ns : List Int} (h : 1 < ns.length) : 32 ∈ TL.tl (textL ns) := by
  rw [tl_textL]
  match ns, h with
  | a :: b :: l, _ => exact List.mem_append_right _ (List.mem_append_left _ List.mem_cons_self)
theorem row_len_not {ns : List Int} {n : Nat} (h : n ∈ [1, 2, 4, 8, 16, 32]) (h2 : 2 < n) (e : ns.length = n + 1 ∨ ns.length + 1 = n) : ¬ IsRow ns := fun r => by
  have z := r.1
  simp only [List.mem_cons, List.not_mem_nil, or_false] at h z
  omega
end Sg
namespace Sg
open PySem PySem.Spec PyProof.Rows L2 Evl
/-! ### replace with a text out of a written list -/
section
variable {X : Cx}
/-- behind a test against a written number a token is out -/
theorem pss_tokIf {e : Expr} {op : CmpOp} {c : Int} {j : Nat} {cp pos pos' : Pos} {A B rest : List Stmt} {r : R2} {ta : TE} {t u v : TS} (ho : OpR X (compareOp op) r) (ha : PE X e ta) (hA : PSsT X A t) (hB : PSsT X B u) (hr : PSsT X rest v)
    (hm : behindInMarks op (.Constant (.int c) j cp) = false) : PSs X (.If (.Compare e [op] [.Constant (.int c) j cp] pos) A B pos' :: rest) (tSeq (tIfS (tTest (tOp r ta (tC (.int c)))) t u) v) := by
  constructor; intro pins s σ H D I h
  have go : wpAny (model X.prog X.w) X.A (exec (.If (.Compare e [op] [.Constant (.int c) j cp] pos) A B pos') X.env) (fun f s1 => 1 ≤ s1.toks ∧ SP X pins { D with nx := v D } f s1) X.xe s := by
    refine wpAny_If (wpAny_isTrue_Compare1 (thn (ha.run pins s σ H _ I h) fun w s1 ⟨x, H1, I1, r1, q1⟩ => wpAny_Constant_int ?_) hm)
    refine wpAny_mono (PySem.wpAny_toks (ho pins _ σ H1 x (.int c) w (.int c s1.toks) _ (I1.tok (s1.toks + 1)) r1 ⟨_, rfl⟩ q1)) (fun k s2 q => ?_) fun _ _ z => z.2
    obtain ⟨hk, z, H2, I2, rz, b, eb, q2⟩ := q
    subst eb
    cases rz
    have h1 : 1 ≤ s2.toks := Nat.le_trans (Nat.le_add_left 1 s1.toks) hk
    refine wpAny_truthy_bool ?_
    cases b with
    | true => exact wpAny_mono (PySem.wpAny_toks (hA pins s2 σ H2 _ h1 I2 q2)) (fun f s3 g => ⟨Nat.le_trans h1 g.1, g.2⟩) fun _ _ g => g.2
    | false => exact wpAny_mono (PySem.wpAny_toks (hB pins s2 σ H2 _ h1 I2 q2)) (fun f s3 g => ⟨Nat.le_trans h1 g.1, g.2⟩) fun _ _ g => g.2
  refine wpAny_execs_cons (wpAny_mono go (fun f s1 q => ?_) fun _ _ z => z)
  obtain ⟨h1, q⟩ := q
  cases f with
  | next =>
    obtain ⟨σ1, H1, I1, q1⟩ := q
    exact hr pins s1 σ1 H1 D h1 I1 q1
  | ret x => exact q
  | brk => exact q
  | cont => exact q
theorem splice_str {M : Model} {A : Around} {E : Value → Shared → Prop} {Q : List Value → Shared → Prop} {s : Shared} {env : Env} {z : Str} {j : Nat} {p lp : Pos} {es : List Expr} (h : wpAny M A (spliced (backTo lp (starEach es env))) (fun vs s1 => Q (.str z s.toks :: vs) s1) E { s with toks := s.toks + 1 }) :
    wpAny M A (spliced (backTo lp (starEach (.Constant (.str z) j p :: es) env))) Q E s := by
  show wpAny M A (spliced ((false, eval (.Constant (.str z) j p) env) :: backTo lp (starEach es env))) _ _ _
  exact Calls.spliced_cons (Calls.Constant_str h)
theorem splice_nil {M : Model} {A : Around} {E : Value → Shared → Prop} {Q : List Value → Shared → Prop} {s : Shared} {env : Env} {lp : Pos} (h : Q [] s) : wpAny M A (spliced (backTo lp (starEach [] env))) Q E s := by
  show wpAny M A (spliced []) _ _ _
  exact Calls.spliced_nil h
def tReplI (to : TE) (y z0 z1 z2 z3 z4 : Str) (te : TE) : TE := fun σ H Q => to σ H fun v H1 => ∃ x, v = .str x ∧ (∀ z ∈ [z0, z1, z2, z3, z4], x.length + (x.length + 1) * z.length ≤ 16777216) ∧
  ∀ a ob, H1 a = none → te σ (upd H1 a ob) fun k H2 => ∃ i : Nat, k = .int i ∧ H2 a = some ob ∧ ∃ z, [z0, z1, z2, z3, z4][i]? = some z ∧ Q (.str (Txt.replace x y z)) H2
theorem pet_replI {o e : Expr} {to te : TE} {y z0 z1 z2 z3 z4 : Str} {j j0 j1 j2 j3 j4 : Nat} {c p0 p1 p2 p3 p4 lp sp apos pos : Pos} (ho : PE X o to) (he : PE X e te) (hne : ∀ z ∈ [z0, z1, z2, z3, z4], (y == z) = false) (hp : PlainIx e)
    (hst : starEach [.Constant (.str y) j c, .Subscript (.List [.Constant (.str z0) j0 p0, .Constant (.str z1) j1 p1, .Constant (.str z2) j2 p2, .Constant (.str z3) j3 p3, .Constant (.str z4) j4 p4] lp) e sp] X.env =
      [(false, eval (.Constant (.str y) j c) X.env), (false, eval (.Subscript (.List [.Constant (.str z0) j0 p0, .Constant (.str z1) j1 p1, .Constant (.str z2) j2 p2, .Constant (.str z3) j3 p3, .Constant (.str z4) j4 p4] lp) e sp) X.env)] := by rfl)
    (hbase : attributeBase o "replace" X.env (eval o X.env) = eval o X.env := by rfl) (hline : (apos.endLine == pos.line) = true := by rfl) :
    PET X (.Call (.Attribute o "replace" apos) [.Constant (.str y) j c, .Subscript (.List [.Constant (.str z0) j0 p0, .Constant (.str z1) j1 p1, .Constant (.str z2) j2 p2, .Constant (.str z3) j3 p3, .Constant (.str z4) j4 p4] lp) e sp] [] pos) (tReplI to y z0 z1 z2 z3 z4 te) := by
  intro pins s σ H Q h0 I h
  refine PySem.Call_method2 hbase hst hline (wpAny_mono (PySem.wpAny_toks (ho.run pins s σ H _ I h)) (fun v s1 q => ?_) fun _ _ z => z.2)
  obtain ⟨hk, v2, H1, I1, r1, x, rfl, hb, q⟩ := q
  obtain ⟨tx, rfl⟩ := r1
  refine ⟨"str", _, PySem.F.plainAttrs_str, PySem.F.slot_str_replace, PySem.F.type_str_replace, typeIs_str _ _ _, (fun _ e => nomatch e), Calls.callWith_builtin rfl (Calls.evalArgs_plain (Calls.spliced_cons (Calls.Constant_str (Calls.spliced_cons (Subscript_ (wpAny_List_spliced ?_))))))⟩
  refine splice_str (splice_str (splice_str (splice_str (splice_str (splice_nil ?_)))))
  have h5 : (5 : Nat) ≤ sizeLine := by decide
  refine ⟨h5, ?_⟩
  have q2 := q s1.heap.objs.size (.frz { cls := .type "list", data := .seq #[.str z0 (s1.toks + 1), .str z1 (s1.toks + 1 + 1), .str z2 (s1.toks + 1 + 1 + 1), .str z3 (s1.toks + 1 + 1 + 1 + 1), .str z4 (s1.toks + 1 + 1 + 1 + 1 + 1)] 0 } (.lst [.str z0, .str z1, .str z2, .str z3, .str z4])) (I1.hok.fresh (Nat.le_refl _))
  have I2 : Inv X pins σ (upd H1 s1.heap.objs.size (.frz { cls := .type "list", data := .seq #[.str z0 (s1.toks + 1), .str z1 (s1.toks + 1 + 1), .str z2 (s1.toks + 1 + 1 + 1), .str z3 (s1.toks + 1 + 1 + 1 + 1), .str z4 (s1.toks + 1 + 1 + 1 + 1 + 1)] 0 } (.lst [.str z0, .str z1, .str z2, .str z3, .str z4])))
      { s1 with heap := s1.heap.push { cls := .type "list", data := .seq #[.str z0 (s1.toks + 1), .str z1 (s1.toks + 1 + 1), .str z2 (s1.toks + 1 + 1 + 1), .str z3 (s1.toks + 1 + 1 + 1 + 1), .str z4 (s1.toks + 1 + 1 + 1 + 1 + 1)] 0 }, toks := s1.toks + 1 + 1 + 1 + 1 + 1 + 1 } :=
    I1.laid (t' := s1.toks + 1 + 1 + 1 + 1 + 1 + 1) (fun b u e => Heap.get?_push_of_some _ e) (Nat.le_refl _) ⟨Heap.get?_push_size _ rfl, h5, [.str z0 (s1.toks + 1), .str z1 (s1.toks + 1 + 1), .str z2 (s1.toks + 1 + 1 + 1), .str z3 (s1.toks + 1 + 1 + 1 + 1), .str z4 (s1.toks + 1 + 1 + 1 + 1 + 1)], 0, .cons ⟨_, rfl⟩ (.cons ⟨_, rfl⟩ (.cons ⟨_, rfl⟩ (.cons ⟨_, rfl⟩ (.cons ⟨_, rfl⟩ .nil)))), Heap.get?_push_size _ rfl⟩
  show wpAny _ X.A (eval e X.env) _ X.xe { s1 with heap := s1.heap.push { cls := .type "list", data := .seq #[.str z0 (s1.toks + 1), .str z1 (s1.toks + 1 + 1), .str z2 (s1.toks + 1 + 1 + 1), .str z3 (s1.toks + 1 + 1 + 1 + 1), .str z4 (s1.toks + 1 + 1 + 1 + 1 + 1)] 0 }, toks := s1.toks + 1 + 1 + 1 + 1 + 1 + 1 }
  refine thn (he.run pins _ σ _ _ I2 q2) fun u s2 ⟨kv, H2, I3, rk, i, ek, ha, z, hz, q3⟩ => ?_
  subst ek
  obtain ⟨ti, rfl⟩ := rk
  obtain ⟨k, hk1⟩ : ∃ k, s1.toks + 1 = k := ⟨_, rfl⟩
  rw [hk1] at ha
  have hl : s2.heap.IsList s1.heap.objs.size #[.str z0 k, .str z1 (k + 1), .str z2 (k + 1 + 1), .str z3 (k + 1 + 1 + 1), .str z4 (k + 1 + 1 + 1 + 1)] := ⟨_, (I3.hok _ _ ha).1, rfl, 0, rfl⟩
  have hm : z ∈ [z0, z1, z2, z3, z4] := List.mem_of_getElem? hz
  obtain ⟨tz, ht, hz2⟩ : ∃ tz, k ≤ tz ∧ (#[Value.str z0 k, .str z1 (k + 1), .str z2 (k + 1 + 1), .str z3 (k + 1 + 1 + 1), .str z4 (k + 1 + 1 + 1 + 1)] : Array Value)[i]? = some (.str z tz) := by
    match i, hz with
    | 0, hz => cases hz; exact ⟨k, Nat.le_refl _, rfl⟩
    | 1, hz => cases hz; exact ⟨k + 1, by omega, rfl⟩
    | 2, hz => cases hz; exact ⟨k + 1 + 1, by omega, rfl⟩
    | 3, hz => cases hz; exact ⟨k + 1 + 1 + 1, by omega, rfl⟩
    | 4, hz => cases hz; exact ⟨k + 1 + 1 + 1 + 1, by omega, rfl⟩
    | n + 5, hz => cases hz
  have i5 : i < 5 := (List.getElem?_eq_some_iff.mp hz).1
  refine item_listR (k := (i : Int)) hl (by omega) (by omega) (by rw [Int.toNat_natCast]; exact hz2) (Calls.spliced_nil ?_) (hp _ _)
  exact PySem.SC.replace (by show s1.toks ≠ 0; omega) (by show tz ≠ 0; omega) (by show s1.toks ≠ tz; omega) (hne z hm) (hb z hm) fun t' k2 => ⟨.str (Txt.replace x y z), H2, I3.tok k2, ⟨t', rfl⟩, q3⟩
end
end Sg
namespace Sg
open PySem PySem.Spec PyProof.Rows L2 Evl
def t_ask_row (K : PySem.W.Frag) (E : XK) : TS :=
  (tSeq (tIfS (tTest (tOp (rIn K true) (tCB (rLenS K) (tCons (tVar 0) tNil)) (tC (.ref (He.ga K "LENGTHS")))))
   (tRz E (He.ga K "NoRow"))
   tNext)
  (tFor (iList K (tVar 0)) (gName 1)
   (tIfS (tNot (tTest (tChain rLeI rLeI (tUn rNegI (tC (.int 100000000000000000000))) (tVar 1) (tC (.int 100000000000000000000)))))
    (tRz E (He.ga K "NoRow"))
    tNext)))
def N_ask_row : List Str := ["row", "number"]
def t_number_of (K : PySem.W.Frag) (E : XK) : TS :=
  (tSeq (tAsg (tVar 0) (gName 1))
  (tSeq (tIfS (tTest (tOp rEq (tSl rSlS (tVar 0) tNoPart (tPart (tC (.int 1)))) (tC (.str "-"))))
   (tAsg (tSl rSlS (tVar 0) (tPart (tC (.int 1))) tNoPart) (gName 1))
   tNext)
  (tSeq (tIfS (tOr (tNot (tTest (tChain rLeI rLeI (tC (.int 1)) (tCB rLenStr (tCons (tVar 1) tNil)) (tC (.int 21))))) (tAnd (tTest (tOp rEq (tOp rIxS (tVar 1) (tC (.int 0))) (tC (.str "0")))) (tTest (tOp rNe (tVar 0) (tC (.str "0"))))))
   (tRz E (He.ga K "NoNote"))
   tNext)
  (tSeq (tFor (iStr (tVar 1)) (gName 2)
   (tIfS (tTest (tOp rNoInSg (tVar 2) (tC (.str "0123456789"))))
    (tRz E (He.ga K "NoNote"))
    tNext))
  (tRet (tCB rIntStr (tCons (tVar 0) tNil)))))))
def N_number_of : List Str := ["word", "figures", "sign"]
def t_read (K : PySem.W.Frag) (E : XK) : TS :=
  (tSeq (tAsg (tLc (iList K (tM1 rSplit (tVar 0) (tC (.str " ")))) (gName 2) tYes (tCall (sp_number_of K) [] E (tCons (tVar 2) tNil)) [2]) (gName 1))
  (tSeq (tTryO K E (He.ga K "NoRow")
   (fun W => (tDrop (tCallS (sp_ask_row K) (WE W) (tCons (tVar 1) tNil))))
   (fun _ _ _ => (tRz E (He.ga K "NoNote"))))
  (tRet (tVar 1))))
def N_read : List Str := ["text", "row", "word"]
def t_law_cell_at (K : PySem.W.Frag) : TS :=
  (tSeq (tIfS (tTest (tOp rLtI (tVar 1) (tCB (rLenS K) (tCons (tVar 0) tNil))))
   (tRet (tOp (rIxL K) (tVar 0) (tVar 1)))
   tNext)
  (tRet (tC (.int 0))))
def N__law_cell_at : List Str := ["script", "k"]
def t_law_next (K : PySem.W.Frag) : TS :=
  (tSeq (tAsg (tOp rModI (tOp rAddI (tVar 0) (tC (.int 7919))) (tC (.int 2147483647))) (gName 0))
  (tRet (tOp rModI (tOp rAddI (tOp rAddI (tOp rMulI (tVar 0) (tVar 0)) (tOp rMulI (tC (.int 48271)) (tVar 0))) (tC (.int 12345))) (tC (.int 2147483629)))))
def N__law_next : List Str := ["seed"]
def t_law_row (K : PySem.W.Frag) : TS :=
  (tSeq (tAsg (tLst tNil) (gName 4))
  (tSeq (tFor (iRng1 (tCons (tOp (rIxL K) (tLst (tCons (tC (.int 1)) (tCons (tC (.int 2)) (tCons (tC (.int 4)) (tCons (tC (.int 8)) (tCons (tC (.int 16)) (tCons (tC (.int 32)) tNil))))))) (tVar 1)) tNil)) (gName 5)
   (tSeq (tAsg (tCall (sp_law_next K) [] E0 (tCons (tOp rAddI (tOp rModI (tVar 0) (tC (.int 1000003))) (tOp rMulI (tC (.int 31)) (tVar 5))) tNil)) (gName 0))
   (tSeq (tAsg (tOp rSubI (tOp rModI (tOp rDivI (tVar 0) (tC (.int 7))) (tC (.int 2000001))) (tC (.int 1000000))) (gName 6))
   (tSeq (tIfS (tTest (tOp rEq (tOp rModI (tOp rDivI (tVar 2) (tC (.int 4))) (tC (.int 2))) (tC (.int 1))))
    (tAsg (tOp rAddI (tOp rMulI (tVar 6) (tVar 3)) (tOp rMulI (tOp rSubI (tC (.int 1)) (tOp rMulI (tC (.int 2)) (tCB rInt1 (tCons (tOp rLtI (tVar 6) (tC (.int 0))) tNil)))) (tOp rModI (tOp rDivI (tVar 0) (tC (.int 64))) (tVar 3)))) (gName 6))
    tNext)
   (tSeq (tIfS (tTest (tOp rEq (tOp rModI (tVar 2) (tC (.int 4))) (tC (.int 0))))
    (tAsg (tOp rSubI (tC (.int 1)) (tOp rMulI (tC (.int 2)) (tOp rModI (tOp rDivI (tVar 0) (tC (.int 7))) (tC (.int 2))))) (gName 6))
    tNext)
   (tSeq (tIfS (tTest (tOp rEq (tOp rModI (tVar 2) (tC (.int 4))) (tC (.int 1))))
    (tAsg (tOp rSubI (tOp rModI (tOp rDivI (tVar 0) (tC (.int 7))) (tC (.int 9))) (tC (.int 4))) (gName 6))
    tNext)
   (tSeq (tIfS (tAnd (tTest (tOp rEq (tOp rModI (tVar 2) (tC (.int 4))) (tC (.int 3)))) (tTest (tOp rGtI (tOp rModI (tOp rDivI (tVar 0) (tC (.int 14000007))) (tC (.int 3))) (tC (.int 0)))))
    (tAsg (tC (.int 0)) (gName 6))
    tNext)
   (tDrop (tBM K "list" rAppend (tVar 4) (tCons (tVar 6) tNil))))))))))
  (tRet (tVar 4))))
def N__law_row : List Str := ["cell", "steps", "way", "great", "found", "place", "number"]
def t_law_text (K : PySem.W.Frag) : TS :=
  (tSeq (tAsg (tC (.str "")) (gName 1))
  (tSeq (tFor (iList K (tVar 0)) (gName 2)
   (tAsg (tOp rAddStr (tOp rAddStr (tVar 1) (tC (.str " "))) (tCB rStrInt (tCons (tVar 2) tNil))) (gName 1)))
  (tRet (tSl rSlS (tVar 1) (tPart (tC (.int 1))) tNoPart))))
def N__law_text : List Str := ["row", "text", "number"]
def t_law_kind (K : PySem.W.Frag) (D a : Addr) : TS :=
  (tSeq (tAsg (tLst (tCons (tCB (rIsE K D a) (tCons (tVar 0) (tCons (tC (.ref (He.ga K "NoRow"))) tNil))) (tCons (tCB (rIsE K D a) (tCons (tVar 0) (tCons (tC (.ref (He.ga K "NoSums"))) tNil))) (tCons (tCB (rIsE K D a) (tCons (tVar 0) (tCons (tC (.ref (He.ga K "NoMatch"))) tNil))) (tCons (tCB (rIsE K D a) (tCons (tVar 0) (tCons (tC (.ref (He.ga K "TooLong"))) tNil))) tNil))))) (gName 1))
  (tSeq (tAsg (tOp rCat (tVar 1) (tLst (tCons (tCB (rIsE K D a) (tCons (tVar 0) (tCons (tC (.ref (He.ga K "NoStep"))) tNil))) (tCons (tCB (rIsE K D a) (tCons (tVar 0) (tCons (tC (.ref (He.ga K "NoSigns"))) tNil))) (tCons (tCB (rIsE K D a) (tCons (tVar 0) (tCons (tC (.ref (He.ga K "NoChoice"))) tNil))) (tCons (tCB (rIsE K D a) (tCons (tVar 0) (tCons (tC (.ref (He.ga K "NoFlat"))) tNil))) tNil)))))) (gName 1))
  (tSeq (tDrop (tBM K "list" rAppend (tVar 1) (tCons (tCB (rIsE K D a) (tCons (tVar 0) (tCons (tC (.ref (He.ga K "NoNote"))) tNil))) tNil)))
  (tSeq (tIfS (tOr (tNot (tB (tCB (rIsE K D a) (tCons (tVar 0) (tCons (tC (.ty "ValueError")) tNil))))) (tTest (tOp rNe (tBM K "list" (rCountV K) (tVar 1) (tCons (tC (.bl true)) tNil)) (tC (.int 1)))))
   (tRet (tC (.str "other")))
   tNext)
  (tRet (tOp (rIxL K) (tLst (tCons (tC (.str "row")) (tCons (tC (.str "sums")) (tCons (tC (.str "match")) (tCons (tC (.str "long")) (tCons (tC (.str "step")) (tCons (tC (.str "signs")) (tCons (tC (.str "choice")) (tCons (tC (.str "flat")) (tCons (tC (.str "note")) tNil)))))))))) (tBM K "list" (rIndex K) (tVar 1) (tCons (tC (.bl true)) tNil))))))))
def N__law_kind : List Str := ["e", "kinds"]
def t_law_tried (K : PySem.W.Frag) : TS :=
  (tSeq (tTryE K (He.ga K "SignError") 1
   (fun W => (tDrop (tCallS (sp_read K) (WE W) (tCons (tVar 0) tNil))))
   (fun a cls d => (tRet (tCallP a cls d (KindR K) (tCons (tVar 1) tNil)))))
  (tRet (tC (.str "read"))))
def N__law_tried : List Str := ["text", "e"]
def t_law_spoiled (K : PySem.W.Frag) : TS :=
  (tSeq (tAsg (tLc (iList K (tVar 0)) (gName 7) tYes (tCB rStrInt (tCons (tVar 7) tNil)) [7]) (gName 3))
  (tSeq (tAsg (tCall (sp_law_text K) [] E0 (tCons (tVar 0) tNil)) (gName 4))
  (tSeq (tAsg (tOp rModI (tVar 2) (tCB (rLenS K) (tCons (tVar 3) tNil))) (gName 5))
  (tSeq (tIfS (tTest (tOp rEq (tVar 1) (tC (.int 0))))
   (tSeq (tAsg (tLst (tCons (tCB rStrInt (tCons (tOp rAddI (tOp rPowI (tC (.int 10)) (tC (.int 20))) (tC (.int 1))) tNil)) (tCons (tOp rAddStr (tC (.str "-")) (tCB rStrInt (tCons (tOp rAddI (tOp rPowI (tC (.int 10)) (tC (.int 20))) (tC (.int 1))) tNil))) (tCons (tC (.str "00")) (tCons (tC (.str "-0")) (tCons (tC (.str "01")) (tCons (tC (.str "-07")) (tCons (tC (.str "+1")) (tCons (tC (.str "--1")) tNil))))))))) (gName 6))
   (tSeq (tAsg (tOp rCat (tVar 6) (tLst (tCons (tC (.str "")) (tCons (tC (.str "-")) (tCons (tC (.str "x")) (tCons (tC (.str "1_0")) (tCons (tC (.str "1.0")) (tCons (tC (.str "1e1")) (tCons (tC (.str "1\t")) (tCons (tC (.str "0x1")) tNil)))))))))) (gName 6))
   (tSeq (tAsg (tOp (rIxL K) (tVar 6) (tOp rModI (tOp rDivI (tVar 2) (tC (.int 32))) (tC (.int 16)))) (gSub (tVar 3) (tVar 5) rSetL))
   (tRet (tM1 (rJoin K) (tC (.str " ")) (tVar 3))))))
   tNext)
   (tSeq (tIfS (tTest (tOp rEq (tVar 1) (tC (.int 1))))
   (tRet (tOp (rIxL K) (tLst (tCons (tOp rAddStr (tC (.str " ")) (tVar 4)) (tCons (tOp rAddStr (tVar 4) (tC (.str " "))) (tCons (tOp rAddStr (tVar 4) (tC (.str "\n"))) (tCons (tOp rAddStr (tC (.str "\t")) (tVar 4)) (tCons (tOp rAddStr (tVar 4) (tC (.str ","))) (tCons (tOp rAddStr (tC (.str "(")) (tVar 4)) tNil))))))) (tOp rModI (tOp rDivI (tVar 2) (tC (.int 32))) (tC (.int 6)))))
   tNext)
   (tSeq (tIfS (tAnd (tTest (tOp rEq (tVar 1) (tC (.int 2)))) (tTest (tOp rGtI (tCB (rLenS K) (tCons (tVar 0) tNil)) (tC (.int 1)))))
   (tRet (tReplI (tVar 4) " " "  " "," "\t" ", " "\n" (tOp rModI (tOp rDivI (tVar 2) (tC (.int 32))) (tC (.int 5)))))
   tNext)
   (tSeq (tIfS (tAnd (tTest (tOp rEq (tVar 1) (tC (.int 3)))) (tTest (tOp rGtI (tCB (rLenS K) (tCons (tVar 0) tNil)) (tC (.int 2)))))
   (tRet (tOp (rIxL K) (tLst (tCons (tOp rAddStr (tVar 4) (tC (.str " 1"))) (tCons (tM1 (rJoin K) (tC (.str " ")) (tSl (rSlL K) (tVar 3) (tPart (tC (.int 1))) tNoPart)) (tCons (tM1 (rJoin K) (tC (.str " ")) (tOp rCat (tSl (rSlL K) (tVar 3) tNoPart (tPart (tVar 5))) (tSl (rSlL K) (tVar 3) (tPart (tOp rAddI (tVar 5) (tC (.int 1)))) tNoPart))) tNil)))) (tOp rModI (tOp rDivI (tVar 2) (tC (.int 32))) (tC (.int 3)))))
   tNext)
   (tRet (tOp (rIxL K) (tLst (tCons (tC (.str "")) (tCons (tC (.str " ")) (tCons (tC (.str "-")) (tCons (tC (.str "a")) (tCons (tC (.str "1 2 3")) (tCons (tC (.str "1 1 1 1 1")) (tCons (tC (.str "1;1")) (tCons (tC (.str "1 -")) (tCons (tC (.str "0 0 ")) tNil)))))))))) (tOp rModI (tOp rDivI (tVar 2) (tC (.int 32))) (tC (.int 9))))))))))))
def N__law_spoiled : List Str := ["row", "way", "cell", "words", "text", "at", "some", "number"]
def t_law (K : PySem.W.Frag) : TS :=
  (tSeq (tAsg (tCall (sp_law_row K) [] E0 (tCons (tCall (sp_law_cell_at K) [] E0 (tCons (tVar 0) (tCons (tC (.int 1)) tNil))) (tCons (tOp rModI (tCall (sp_law_cell_at K) [] E0 (tCons (tVar 0) (tCons (tC (.int 0)) tNil))) (tC (.int 6))) (tCons (tCall (sp_law_cell_at K) [] E0 (tCons (tVar 0) (tCons (tC (.int 2)) tNil))) (tCons (tOp rMulI (tC (.int 9)) (tOp rPowI (tC (.int 10)) (tC (.int 11)))) tNil))))) (gName 1))
  (tSeq (tAsg (tCall (sp_law_spoiled K) [] E0 (tCons (tVar 1) (tCons (tOp rModI (tCall (sp_law_cell_at K) [] E0 (tCons (tVar 0) (tCons (tC (.int 3)) tNil))) (tC (.int 5))) (tCons (tOp rModI (tCall (sp_law_cell_at K) [] E0 (tCons (tVar 0) (tCons (tC (.int 4)) tNil))) (tC (.int 1000003))) tNil)))) (gName 2))
  (tSeq (tIfS (tOr (tTest (tOp rNe (tCall (sp_law_tried K) [] E0 (tCons (tVar 2) tNil)) (tC (.str "note")))) (tTest (tOp rNe (tCall (sp_law_tried K) [] E0 (tCons (tVar 2) tNil)) (tC (.str "note")))))
   (tRet (tC (.bl false)))
   tNext)
  (tRet (tOp rEq (tCall (sp_law_tried K) [] E0 (tCons (tCall (sp_law_text K) [] E0 (tCons (tVar 1) tNil)) tNil)) (tC (.str "read")))))))
def N_law : List Str := ["script", "row", "bad"]
end Sg
namespace Sg
open PySem PySem.Spec PyProof.Rows L2 Evl
/-! ### the program: ask_row, summed, sums -/
theorem inV_six (n : Nat) : inV (.int n) [.int 1, .int 2, .int 4, .int 8, .int 16, .int 32] = decide (n ∈ [1, 2, 4, 8, 16, 32]) := by
  by_cases h : n ∈ [1, 2, 4, 8, 16, 32]
  · rw [decide_eq_true h]
    simp only [List.mem_cons, List.not_mem_nil, or_false] at h
    rcases h with rfl | rfl | rfl | rfl | rfl | rfl <;> rfl
  · rw [decide_eq_false h]
    simp only [List.mem_cons, List.not_mem_nil, or_false, not_or] at h
    simp [inV, eqV]
    omega
theorem pure_ask_row {K : PySem.W.Frag} (hT : ∀ H : Hp, SqT K H (He.ga K "LENGTHS") [.int 1, .int 2, .int 4, .int 8, .int 16, .int 32]) (vs : List V) (H : Hp) (Q : VK) (E : XK) (h : sp_ask_row K vs H Q E) : t_ask_row K E { nx := fun _ H' => Q .non H', rt := Q } (start N_ask_row vs) H := by
  obtain ⟨a, ns, rfl, hS, q1, q2⟩ := h
  refine q_when (b := !decide (ns.length ∈ [1, 2, 4, 8, 16, 32])) (et_test (ev_is (ev_op (ev_lenM (ev_var rfl) hS) ev_c (rv_niT (hT H) rfl rfl)) (by rw [inV_six]))) (fun hb H1 e1 => ?_) (fun hb H1 e1 => ?_)
  · have hne := not_t hb
    exact q2 (fun z => hne z.1) H1 e1
  · have hlen := not_f hb
    refine s_forLn (xs := ns.map V.int) (ev_var rfl) (ex_l e1 hS) (fun i σ H' => (∃ y, σ = [some (.ref a), y]) ∧ Ex H H' ∧ ∀ k, k < i → ∀ x, ns[k]? = some x → -100000000000000000000 ≤ x ∧ x ≤ 100000000000000000000)
      (fun H2 e2 => ⟨⟨none, rfl⟩, e1.trans e2, fun k hk => absurd hk (Nat.not_lt_zero _)⟩) (fun i σ H' _ hp => ex_l hp.2.1 hS) (fun i x σ H' hx hp => ?_) (fun σ H' hp => ?_)
    · obtain ⟨⟨y, rfl⟩, ex, hh⟩ := hp
      obtain ⟨z, hz, rfl⟩ : ∃ z, ns[i]? = some z ∧ x = V.int z := by
        rw [List.getElem?_map] at hx
        cases e : ns[i]? with
        | none => rw [e] at hx; cases hx
        | some z => rw [e] at hx; exact ⟨z, rfl, (Option.some.inj hx).symm⟩
      refine s_when (b := !(decide (-100000000000000000000 ≤ z) && decide (z ≤ 100000000000000000000))) (et_not (et_test (ev_chain (ev_neg ev_c) (ev_var rfl) rv_le ev_c rv_le))) (fun hb2 H2 e2 => ?_) (fun hb2 H2 e2 => ?_)
      · refine q2 (fun r => ?_) H2 (ex.trans e2)
        have := r.2 z (List.mem_of_getElem? hz)
        simp [this.1, this.2] at hb2
      · refine ⟨⟨some (.int z), rfl⟩, ex.trans e2, fun k hk x hx => ?_⟩
        by_cases hki : k = i
        · rw [hki, hz] at hx
          cases hx
          simpa using hb2
        · exact hh k (by omega) x hx
    · obtain ⟨⟨y, rfl⟩, ex, hh⟩ := hp
      refine q1 ⟨hlen, fun x hx => ?_⟩ H' ex
      obtain ⟨k, hk⟩ := List.mem_iff_getElem?.mp hx
      refine hh k ?_ x hk
      rw [List.length_map]
      exact (List.getElem?_eq_some_iff.mp hk).1
end Sg
namespace Sg
open PySem PySem.Spec PyProof.Rows L2 Evl
theorem fig_iff (c : Nat) : c ∈ (Str.ofString "0123456789").cps.toList ↔ 48 ≤ c ∧ c ≤ 57 := by
  have e : (Str.ofString "0123456789").cps.toList = [48, 49, 50, 51, 52, 53, 54, 55, 56, 57] := by decide +kernel
  rw [e]
  simp only [List.mem_cons, List.not_mem_nil, or_false]
  omega
theorem pure_number_of {K : PySem.W.Frag} (vs : List V) (H : Hp) (Q : VK) (E : XK) (h : sp_number_of K vs H Q E) : t_number_of K E { nx := fun _ H' => Q .non H', rt := Q } (start N_number_of vs) H := by
  obtain ⟨w, rfl, hz, q1, q2, q3⟩ := h
  refine q_asg (v := .str w) (ev_var rfl) fun H1 e1 => ?_
  have em : decide (cutS w none (some 1) = Str.ofString "-") = decide ((TL.tl w).take 1 = [45]) := by
    refine decide_eq_decide.mpr ?_
    rw [str_eq, tl_head, tl_lit]
    exact Iff.rfl
  -- the figures
  obtain ⟨f, hf, fz⟩ : ∃ f : Str, f = (if (TL.tl w).take 1 = [45] then cutS w (some 1) none else w) ∧ f.length ≤ 100000 := ⟨_, rfl, by
    split
    · exact Nat.le_trans (cutS_length w _ _) hz
    · exact hz⟩
  have tf : TL.tl f = figs (TL.tl w) := by
    unfold figs
    rw [hf]
    split
    · exact tl_rest w
    · rfl
  refine q_ifAsg (b := decide ((TL.tl w).take 1 = [45])) (v := .str f) (et_is (et_test (ev_op (ev_slS (ev_var rfl) eo_none (eo_some ev_c) hz) ev_c rv_eqS)) em) (fun hb => ev_is (ev_slS (ev_var rfl) (eo_some ev_c) eo_none hz) (by rw [hf, if_pos (of_decide_eq_true hb)])) (fun hb => by rw [hf, if_neg (of_decide_eq_false hb)] <;> rfl) fun H2 e2 => ?_
  have ew : decide (w = Str.ofString "0") = (TL.tl w == [48]) := by
    have e : (w = Str.ofString "0") ↔ TL.tl w = [48] := by
      rw [str_eq, tl_lit]
      exact Iff.rfl
    by_cases z : TL.tl w = [48]
    · rw [decide_eq_true (e.mpr z), z] <;> rfl
    · rw [decide_eq_false fun y => z (e.mp y), beq_eq_false_iff_ne.mpr z]
  have fl : f.length = (figs (TL.tl w)).length := by rw [TL.len_tl, tf]
  refine q_when (b := !decide (1 ≤ (figs (TL.tl w)).length ∧ (figs (TL.tl w)).length ≤ 21) || ((figs (TL.tl w)).head? == some 48 && !(TL.tl w == [48]))) (et_or (et_is (et_not (et_test (ev_chain ev_c (ev_lenStr (ev_var rfl) fz) rv_le ev_c rv_le))) (by
    rw [← fl, ← Bool.decide_and]
    exact congrArg not (decide_eq_decide.mpr (by omega)))) fun hb => ?_) (fun hb H3 e3 => ?_) (fun hb H3 e3 => ?_)
  · have hb := not_f hb
    cases ef : figs (TL.tl w) with
    | nil =>
      rw [ef] at hb
      exact absurd hb.1 (by decide)
    | cons c r =>
      have at0 : atI f.cps.toList 0 = some c := by
        have : f.cps.toList = c :: r := tf.trans ef
        rw [this]
        exact atI_nat (show (c :: r)[0]? = some c from rfl)
      refine et_is (et_and (et_test (ev_op (ev_op (ev_var rfl) ev_c (rv_ixS fz at0)) ev_c rv_eqS)) fun _ => et_test (ev_op (ev_var rfl) ev_c rv_neS)) ?_
      rw [ew]
      congr 1
      have e : ((⟨#[c]⟩ : Str) = Str.ofString "0") ↔ c = 48 := by
        rw [str_eq, tl_lit]
        show [c] = [48] ↔ _
        simp
      by_cases z : c = 48
      · rw [decide_eq_true (e.mpr z), z] <;> rfl
      · rw [decide_eq_false fun y => z (e.mp y)]
        show false = (some c == some 48)
        rw [beq_eq_false_iff_ne.mpr fun y => z (Option.some.inj y)]
  · refine q2 ?_ H3 ((e1.trans e2).trans e3)
    unfold chkL
    cases h1 : decide (1 ≤ (figs (TL.tl w)).length ∧ (figs (TL.tl w)).length ≤ 21) with
    | false => rfl
    | true =>
      rw [h1] at hb
      have hb : ((figs (TL.tl w)).head? == some 48 && !(TL.tl w == [48])) = true := hb
      rw [hb] <;> rfl
  · have hb1 := (Bool.or_eq_false_iff.mp hb).1
    have hb2 := (Bool.or_eq_false_iff.mp hb).2
    have hb1 := not_f hb1
    have e13 := (e1.trans e2).trans e3
    refine q_forS (w := f) (ev_var rfl) (fun i σ H' => (∃ x2 : Option V, σ = [some (.str w), some (.str f), x2]) ∧ Ex H H' ∧ ∀ c ∈ (figs (TL.tl w)).take i, 48 ≤ c ∧ c ≤ 57)
      (fun H4 e4 => ⟨⟨none, rfl⟩, e13.trans e4, fun c hc => by rw [List.take_zero] at hc; cases hc⟩) (fun i c σ H' hc hp => ?_) (fun σ H' hp => ?_)
    · obtain ⟨⟨x2, rfl⟩, ex, all⟩ := hp
      rw [tf] at hc
      have ei : decide (c ∈ (Str.ofString "0123456789").cps.toList) = decide (48 ≤ c ∧ c ≤ 57) := decide_eq_decide.mpr (fig_iff c)
      refine s_when (b := !decide (48 ≤ c ∧ c ≤ 57)) (et_is (et_test (ev_op (ev_var rfl) ev_c rv_noIn)) (by rw [ei])) (fun hb4 H4 e4 => ?_) (fun hb4 H4 e4 => ?_)
      · have n := not_t hb4
        refine q2 ?_ H4 (ex.trans e4)
        unfold chkL
        rw [decide_eq_true hb1, hb2]
        show (figs (TL.tl w)).all _ = false
        exact List.all_eq_false.mpr ⟨c, List.mem_of_getElem? hc, by rw [decide_eq_false n]; decide⟩
      · have n := not_f hb4
        refine ⟨⟨_, rfl⟩, ex.trans e4, fun x hx => ?_⟩
        rw [List.take_add_one, hc] at hx
        rcases List.mem_append.mp hx with hx | hx
        · exact all x hx
        · cases List.mem_singleton.mp hx
          exact n
    · obtain ⟨⟨x2, rfl⟩, ex, all⟩ := hp
      rw [tf, List.take_length] at all
      obtain ⟨i, hi, rfl⟩ := q3 (by
        unfold chkL
        rw [decide_eq_true hb1, hb2]
        exact List.all_eq_true.mpr fun c hc => decide_eq_true (all c hc))
      refine s_ret (v := .int i) (fun H5 e5 Q5 q5 => ⟨_, rfl, _, i, rfl, int_text hi, Nat.le_trans (text_len hi) (by decide), q5 H5 (Ex.refl H5)⟩) fun H5 e5 => q1 i hi rfl H5 (ex.trans e5)
end Sg
namespace Sg
open PySem PySem.Spec PyProof.Rows L2 Evl
/-! ### the readings of the law's helpers -/
theorem pure_law_cell_at {K : PySem.W.Frag} (vs : List V) (H : Hp) (Q : VK) (E : XK) (h : sp_law_cell_at K vs H Q E) : t_law_cell_at K { nx := fun _ H' => Q .non H', rt := Q } (start N__law_cell_at vs) H := by
  obtain ⟨a, ns, k, rfl, hS, q⟩ := h
  refine q_when (b := decide ((k : Int) < ns.length)) (et_test (ev_op (ev_var rfl) (ev_lenM (ev_var rfl) hS) rv_lt)) (fun hb H1 e1 => ?_) (fun hb H1 e1 => ?_)
  · have hk : k < ns.length := by have := of_decide_eq_true hb; omega
    exact s_ret (ev_op (ev_var rfl) (ev_var rfl) (rv_ixN (ex_l e1 hS) rfl hk)) fun H2 e2 => q H2 (e1.trans e2)
  · have hk : ¬ k < ns.length := by have := of_decide_eq_false hb; omega
    have e0 : cellAt ns k = 0 := by
      unfold cellAt
      rw [List.getD_eq_getElem?_getD, List.getElem?_eq_none (by omega)] <;> rfl
    rw [e0] at q
    exact s_ret ev_c fun H2 e2 => q H2 (e1.trans e2)
end Sg
namespace Sg
open PySem PySem.Spec PyProof.Rows L2 Evl
theorem pure_law_next {K : PySem.W.Frag} (vs : List V) (H : Hp) (Q : VK) (E : XK) (h : sp_law_next K vs H Q E) : t_law_next K { nx := fun _ H' => Q .non H', rt := Q } (start N__law_next vs) H := by
  obtain ⟨i, rfl, q⟩ := h
  refine q_asg (ev_op (ev_op (ev_var rfl) ev_c rv_add) ev_c (rv_mod (by decide))) fun H1 e1 => ?_
  have b1 : ((i + 7919) % 2147483647).natAbs < 2 ^ 40 := by omega
  refine s_ret (ev_op (ev_op (ev_op (ev_op (ev_var rfl) (ev_var rfl) (rv_mul b1 b1 (by decide) (by decide) (by decide))) (ev_op ev_c (ev_var rfl) (rv_mul (a := 20) (by decide) b1 (by decide) (by decide) (by decide))) rv_add) ev_c rv_add) ev_c (rv_mod (by decide))) fun H2 e2 => ?_
  exact q H2 (e1.trans e2)
end Sg
namespace Sg
open PySem PySem.Spec PyProof.Rows L2 Evl
theorem pure_law_row {K : PySem.W.Frag} (vs : List V) (H : Hp) (Q : VK) (E : XK) (h : sp_law_row K vs H Q E) : t_law_row K { nx := fun _ H' => Q .non H', rt := Q } (start N__law_row vs) H := by
  obtain ⟨c, s, w, g, rfl, hs, hg, hg2, q⟩ := h
  have h32 : 2 ^ s ≤ 32 := by
    rcases pow_cases hs with rfl | rfl | rfl | rfl | rfl | rfl <;> decide
  have ha := at_six hs
  generalize 2 ^ s = n at ha h32 q
  refine q_asgL (el_lst ea_nil (by decide)) fun o H1 ho e1 h1 => ?_
  refine q_forR1 (n := (n : Int)) (ea_cons (ev_tab el_six (ev_var rfl) ha) ea_nil) ⟨by omega, by omega⟩
    (fun i σ H' => (∃ y z, σ = [some (.int (lawCell c i)), some (.int s), some (.int w), some (.int g), some (.ref o), y, z]) ∧ Ex H H' ∧ H' o = some (.lst (((lawRow c n w g).take i).map V.int)))
    (fun H2 e2 => ⟨⟨none, none, rfl⟩, e1.trans e2, e2 o _ h1⟩) (fun i σ H' hi hp => ?_) (fun σ H' hp => ?_)
  · obtain ⟨⟨y, z, rfl⟩, ex, hH⟩ := hp
    have hi1 : i < n := by omega
    have hbd := lawCell_bd c i
    refine q_asg (v := .int (lawCell c (i + 1))) (ev_call1 (ev_op (ev_op (ev_var rfl) ev_c (rv_mod (by decide))) (ev_op ev_c (ev_var rfl) (rv_mul (a := 5) (b := 6) (by decide) (by omega) (by decide) (by decide) (by decide))) rv_add) (spv fun H3 _ Q3 E3 q3 => ⟨_, rfl, q3⟩)) fun H2 e2 => ?_
    generalize hc : lawCell c (i + 1) = cell at hbd ⊢
    refine q_asg (v := .int (cell / 7 % 2000001 - 1000000)) (ev_op (ev_op (ev_op (ev_var rfl) ev_c (rv_div (by decide) (by decide))) ev_c (rv_mod (by decide))) ev_c rv_sub) fun H3 e3 => ?_
    have bn : (cell / 7 % 2000001 - 1000000).natAbs < 2 ^ 21 := by omega
    have bg : g.natAbs < 2 ^ 60 := by omega
    have b64 : (cell / 64 % g).natAbs < 2 ^ 60 := by
      have z1 := Int.emod_nonneg (cell / 64) (show g ≠ 0 by omega)
      have z2 := Int.emod_lt_of_pos (cell / 64) hg
      generalize cell / 64 % g = z at z1 z2
      omega
    refine q_ifAsg (b := decide (w / 4 % 2 = 1)) (v := .int (num1 cell w g)) (et_test (ev_op (ev_op (ev_op (ev_var rfl) ev_c (rv_div (by decide) (by decide))) ev_c (rv_mod (by decide))) ev_c rv_eqI)) (fun hb => ?_) (fun hb => ?_) fun H4 e4 => ?_
    · refine ev_is (ev_op (ev_op (ev_var rfl) (ev_var rfl) (rv_mul bn bg (by decide) (by decide) (by decide))) (ev_op (ev_op ev_c (ev_op ev_c (ev_int1b (ev_op (ev_var rfl) ev_c rv_lt)) (rv_mul (a := 2) (b := 2) (by decide) (by split <;> decide) (by decide) (by decide) (by decide))) rv_sub) (ev_op (ev_op (ev_var rfl) ev_c (rv_div (by decide) (by decide))) (ev_var rfl) (rv_mod hg)) (rv_mul (a := 2) (by split <;> decide) b64 (by decide) (by decide) (by decide))) rv_add) ?_
      unfold num1
      rw [if_pos (of_decide_eq_true hb)]
      simp only [decide_eq_true_eq]
    · unfold num1
      rw [if_neg (of_decide_eq_false hb)]
      rfl
    generalize hn1 : num1 cell w g = n1
    refine q_ifAsg (b := decide (w % 4 = 0)) (v := .int (num2 cell w n1)) (et_test (ev_op (ev_op (ev_var rfl) ev_c (rv_mod (by decide))) ev_c rv_eqI)) (fun hb => ?_) (fun hb => ?_) fun H5 e5 => ?_
    · refine ev_is (ev_op ev_c (ev_op ev_c (ev_op (ev_op (ev_var rfl) ev_c (rv_div (by decide) (by decide))) ev_c (rv_mod (by decide))) (rv_mul (a := 2) (b := 2) (by decide) (by omega) (by decide) (by decide) (by decide))) rv_sub) ?_
      unfold num2
      rw [if_pos (of_decide_eq_true hb)]
    · unfold num2
      rw [if_neg (of_decide_eq_false hb)]
      rfl
    generalize hn2 : num2 cell w n1 = n2
    refine q_ifAsg (b := decide (w % 4 = 1)) (v := .int (num3 cell w n2)) (et_test (ev_op (ev_op (ev_var rfl) ev_c (rv_mod (by decide))) ev_c rv_eqI)) (fun hb => ?_) (fun hb => ?_) fun H6 e6 => ?_
    · refine ev_is (ev_op (ev_op (ev_op (ev_var rfl) ev_c (rv_div (by decide) (by decide))) ev_c (rv_mod (by decide))) ev_c rv_sub) ?_
      unfold num3
      rw [if_pos (of_decide_eq_true hb)]
    · unfold num3
      rw [if_neg (of_decide_eq_false hb)]
      rfl
    generalize hn3 : num3 cell w n2 = n3
    refine q_ifAsg (b := decide (w % 4 = 3) && decide (0 < cell / 14000007 % 3)) (v := .int (num4 cell w n3)) (et_and (et_test (ev_op (ev_op (ev_var rfl) ev_c (rv_mod (by decide))) ev_c rv_eqI)) (fun _ => et_test (ev_op (ev_op (ev_op (ev_var rfl) ev_c (rv_div (by decide) (by decide))) ev_c (rv_mod (by decide))) ev_c rv_gt))) (fun hb => ?_) (fun hb => ?_) fun H7 e7 => ?_
    · refine ev_is ev_c ?_
      unfold num4
      rw [if_pos (by simpa using hb)]
    · unfold num4
      rw [if_neg (by simpa using hb)]
      rfl
    generalize hn4 : num4 cell w n3 = n4
    have eH : H7 o = some (.lst (((lawRow c n w g).take i).map V.int)) := e7 o _ (e6 o _ (e5 o _ (e4 o _ (e3 o _ (e2 o _ hH)))))
    refine s_app eH (ev_var rfl) (ev_var (v := .int n4) rfl) (by rw [List.length_map, List.length_take]; omega) fun H8 e8 => ?_
    refine ⟨⟨some (.int i), some (.int n4), ?_⟩, Ex.mut ((((((((ex.trans e2).trans e3).trans e4).trans e5).trans e6).trans e7)).trans e8) ho, ?_⟩
    · rfl
    · rw [upd_same]
      have en : lawNum (lawCell c (i + 1)) w g = n4 := by
        unfold lawNum
        rw [hc, hn1, hn2, hn3, hn4]
      unfold lawRow
      rw [range_take _ hi1, en]
  · obtain ⟨⟨y, z, rfl⟩, ex, hH⟩ := hp
    refine s_ret (ev_var rfl) fun H2 e2 => q o H2 ho (ex.trans e2) (e2 o _ ?_)
    rw [hH, Int.toNat_natCast]
    unfold lawRow
    rw [range_take_all]
end Sg
namespace Sg
open PySem PySem.Spec PyProof.Rows L2 Evl
theorem pure_law_text {K : PySem.W.Frag} (vs : List V) (H : Hp) (Q : VK) (E : XK) (h : sp_law_text K vs H Q E) : t_law_text K { nx := fun _ H' => Q .non H', rt := Q } (start N__law_text vs) H := by
  obtain ⟨a, ns, rfl, hS, r, q⟩ := h
  have p := row_pos r
  have hb := row_text r
  refine q_asg (v := .str (Str.ofString "")) ev_c fun H1 e1 => ?_
  refine q_forLn (xs := ns.map V.int) (ev_var rfl) (ex_l e1 hS) (fun i σ H' => (∃ (t : Str) (x2 : Option V), σ = [some (.ref a), some (.str t), x2] ∧ TL.tl t = backT (ns.take i)) ∧ Ex H H')
    (fun H2 e2 => ⟨⟨_, none, rfl, by rw [List.take_zero]; decide +kernel⟩, e1.trans e2⟩) (fun i σ H' _ hp => ex_l hp.2 hS) (fun i x σ H' hx hp => ?_) (fun σ H' hp => ?_)
  · obtain ⟨⟨t, x2, rfl, ht⟩, ex⟩ := hp
    obtain ⟨n, hn, rfl⟩ := int_of_map hx
    have hnb := hb n (List.mem_of_getElem? hn)
    have tl := backT_len (ns := ns.take i) fun x hx => hb x (List.mem_of_mem_take hx)
    have til : (ns.take i).length ≤ 32 := Nat.le_trans (List.length_take_le' _ _) p.2
    have t1 : t.length ≤ 736 := by rw [TL.len_tl, ht]; omega
    have one : (Str.ofString " ").length = 1 := by decide +kernel
    have nl := text_len hnb
    refine s_asg (v := .str ((t ++ Str.ofString " ") ++ textI n)) (fun H2 e2 Q2 q2 => ?_) fun H2 e2 => ⟨⟨_, some (.int n), rfl, ?_⟩, ex.trans e2⟩
    · refine ⟨_, rfl, t, Str.ofString " ", rfl, rfl, sz_of (by omega), ?_⟩
      refine ev_strI (ev_var rfl) hnb H2 e2 _ fun H3 e3 => ⟨_, _, rfl, rfl, sz_of ?_, q2 H3 e3⟩
      have : (t ++ Str.ofString " ").length = t.length + 1 := by
        rw [TL.len_tl, TL.tl_append, List.length_append, ← TL.len_tl, ← TL.len_tl, one]
      omega
    · rw [TL.tl_append, TL.tl_append, ht, tl_text, List.take_add_one, hn]
      show _ = backT (ns.take i ++ [n])
      rw [backT_snoc, List.append_assoc]
      congr 1
  · obtain ⟨⟨t, x2, rfl, ht⟩, ex⟩ := hp
    rw [List.length_map, List.take_length] at ht
    have ne : ns ≠ [] := fun z => by
      rw [z] at p
      exact absurd p.1 (by decide)
    have tl := backT_len (ns := ns) hb
    refine s_ret (v := .str (textL ns)) (ev_is (ev_slS (ev_var rfl) (eo_some ev_c) eo_none (by rw [TL.len_tl, ht]; omega)) (congrArg V.str ?_)) fun H2 e2 => q H2 (ex.trans e2)
    refine TL.ext_tl ?_
    rw [tl_rest, ht, tl_textL, ← joinT ns ne]
    rfl
end Sg
namespace Sg
open PySem PySem.Spec PyProof.Rows L2 Evl
section
variable {K : PySem.W.Frag} {σ : L2.St} {H : Hp} {ta tb te : TE}
theorem el_cat {l : Addr} {xs zs : List V} (ha : Ev ta σ H (.ref l)) (hl : H l = some (.lst xs)) (hb : EvL tb σ H zs) (hz : xs.length + zs.length ≤ 100000) : EvL (tOp rCat ta tb) σ H (xs ++ zs) := fun H0 e0 Q q =>
  ha H0 e0 _ fun H1 e1 => hb H1 (e0.trans e1) _ fun p H2 np e2 hp => ⟨l, p, xs, zs, rfl, rfl, (e0.trans (e1.trans e2)) l _ hl, hp, sz_of hz, fun r hr => q r _ (fresh_back (e1.trans e2) hr) ((e1.trans e2).trans (Ex.new hr)) upd_same⟩
theorem ev_isE {D a : Addr} {c : V} {cv : Value} {b : Bool} {i : Nat} (h : σ[i]? = some (some (.ref a))) (hc : ∀ u, RelV c u → u = cv) (hk : PySem.W.kitOne K (.ref D) cv = some b) : Ev (tCB (rIsE K D a) (tCons (tVar i) (tCons (tC c) tNil))) σ H (.bl b) := fun H1 e Q q =>
  ⟨_, h, c, cv, b, rfl, hc, hk, q H1 (Ex.refl H1)⟩
theorem ev_countV {l : Addr} {xs : List V} {y : V} {n : Nat} (ha : Ev ta σ H (.ref l)) (hl : SqL K H l xs) (hb : Ev tb σ H y) (fy : flatV y = true) (fx : xs.all flatV = true) (hn : (xs.countP fun z => eqV z y) = n) : Ev (tBM K "list" (rCountV K) ta (tCons tb tNil)) σ H (.int (n : Int)) := fun H0 e0 Q q =>
  ha H0 e0 _ fun H1 e1 => ⟨Or.inl ⟨rfl, xs, ex_l (e0.trans e1) hl⟩, hb H1 (e0.trans e1) _ fun H2 e2 => ⟨l, xs, y, rfl, rfl, ex_l ((e0.trans e1).trans e2) hl, fy, fx, by
    rw [hn]
    exact q H2 (e1.trans e2)⟩⟩
theorem ev_indexV {l : Addr} {xs : List V} {y z : V} {j : Nat} (ha : Ev ta σ H (.ref l)) (hl : SqL K H l xs) (hb : Ev tb σ H y) (fy : flatV y = true) (fx : xs.all flatV = true) (hj : xs[j]? = some z) (hz : eqV z y = true) (hno : ∀ (m : Nat) (z' : V), m < j → xs[m]? = some z' → eqV z' y = false) :
    Ev (tBM K "list" (rIndex K) ta (tCons tb tNil)) σ H (.int (j : Int)) := fun H0 e0 Q q =>
  ha H0 e0 _ fun H1 e1 => ⟨Or.inl ⟨rfl, xs, ex_l (e0.trans e1) hl⟩, hb H1 (e0.trans e1) _ fun H2 e2 => ⟨l, xs, y, j, z, rfl, rfl, ex_l ((e0.trans e1).trans e2) hl, fy, fx, hj, hz, hno, q H2 (e1.trans e2)⟩⟩
end
def kindBs (c : Str) : List Bool := [c == "NoRow", c == "NoSums", c == "NoMatch", c == "TooLong", c == "NoStep", c == "NoSigns", c == "NoChoice", c == "NoFlat", c == "NoNote"]
def kindWs : List V := [.str "row", .str "sums", .str "match", .str "long", .str "step", .str "signs", .str "choice", .str "flat", .str "note"]
theorem kind_flat (bs : List Bool) : (bs.map V.bl).all flatV = true := by
  rw [List.all_map]
  exact List.all_eq_true.mpr fun _ _ => rfl
def oneHot (j : Nat) : List Bool := (List.range 9).map (fun i => i == j)
theorem kind_at {c t : Str} (h : (c, t) ∈ kindTab) : ∃ j, j < 9 ∧ kindBs c = oneHot j ∧ kindWs[j]? = some (.str t) := by
  unfold kindTab at h
  simp only [List.mem_cons, List.not_mem_nil, or_false, Prod.mk.injEq] at h
  rcases h with ⟨rfl, rfl⟩ | ⟨rfl, rfl⟩ | ⟨rfl, rfl⟩ | ⟨rfl, rfl⟩ | ⟨rfl, rfl⟩ | ⟨rfl, rfl⟩ | ⟨rfl, rfl⟩ | ⟨rfl, rfl⟩ | ⟨rfl, rfl⟩
  · exact ⟨0, by decide, by decide +kernel, rfl⟩
  · exact ⟨1, by decide, by decide +kernel, rfl⟩
  · exact ⟨2, by decide, by decide +kernel, rfl⟩
  · exact ⟨3, by decide, by decide +kernel, rfl⟩
  · exact ⟨4, by decide, by decide +kernel, rfl⟩
  · exact ⟨5, by decide, by decide +kernel, rfl⟩
  · exact ⟨6, by decide, by decide +kernel, rfl⟩
  · exact ⟨7, by decide, by decide +kernel, rfl⟩
  · exact ⟨8, by decide, by decide +kernel, rfl⟩
theorem hot_count : ∀ j, j < 9 → (((oneHot j).map V.bl).countP fun z => eqV z (.bl true)) = 1 := by decide
theorem hot_at {j : Nat} (h : j < 9) : ((oneHot j).map V.bl)[j]? = some (.bl true) := by
  unfold oneHot
  rw [List.getElem?_map, List.getElem?_map, List.getElem?_range h]
  show some (V.bl (j == j)) = _
  rw [beq_self_eq_true]
theorem hot_no {j : Nat} (h : j < 9) (m : Nat) (z : V) (hm : m < j) (hz : ((oneHot j).map V.bl)[m]? = some z) : eqV z (.bl true) = false := by
  unfold oneHot at hz
  rw [List.getElem?_map, List.getElem?_map, List.getElem?_range (by omega)] at hz
  cases hz
  show eqV (V.bl (m == j)) (.bl true) = false
  rw [beq_eq_false_iff_ne.mpr (by omega)] <;> rfl
theorem kind_in {x y : Str} {j : Nat} (h : kindTab[j]? = some (x, y)) : (x, y) ∈ kindTab := List.mem_of_getElem? h
theorem pure_law_kind {K : PySem.W.Frag} (T : KindsOk K) (c : Str) (a : Addr) (t : Str) (hc : (c, t) ∈ kindTab) (H : Hp) (Q : VK) (E : XK) (q : RetV (.str t) H Q) : t_law_kind K (He.ga K c) a { nx := fun _ H' => Q .non H', rt := Q } (start N__law_kind [.ref a]) H := by
  have rel : ∀ (x : Addr) (u : Value), RelV (.ref x) u → u = .ref x := fun _ _ h => h
  have one : ∀ {σ : L2.St} {H : Hp} {x y : Str} (j : Nat), σ[0]? = some (some (.ref a)) → kindTab[j]? = some (x, y) → Ev (tCB (rIsE K (He.ga K c) a) (tCons (tVar 0) (tCons (tC (.ref (He.ga K x))) tNil))) σ H (.bl (c == x)) := fun {σ H x y} j hσ hj =>
    ev_isE hσ (rel _) (T.is (c, t) hc (x, y) (kind_in hj))
  obtain ⟨j, hj, hb, hw⟩ := kind_at hc
  refine q_asgL (xs := [.bl (c == "NoRow"), .bl (c == "NoSums"), .bl (c == "NoMatch"), .bl (c == "TooLong")]) (el_lst (ea_cons (one 0 rfl rfl) (ea_cons (one 1 rfl rfl) (ea_cons (one 2 rfl rfl) (ea_cons (one 3 rfl rfl) ea_nil)))) (by show 4 ≤ 100000; decide)) fun p H1 np e1 h1 => ?_
  refine q_asgL (el_cat (ev_var rfl) h1 (zs := [.bl (c == "NoStep"), .bl (c == "NoSigns"), .bl (c == "NoChoice"), .bl (c == "NoFlat")]) (el_lst (ea_cons (one 4 rfl rfl) (ea_cons (one 5 rfl rfl) (ea_cons (one 6 rfl rfl) (ea_cons (one 7 rfl rfl) ea_nil)))) (by show 4 ≤ 100000; decide)) (by show 4 + 4 ≤ 100000; decide)) fun r H2 nr e2 h2 => ?_
  refine q_app h2 (ev_var rfl) (one 8 rfl rfl) (by show 8 < 100000; decide) fun H3 e3 => ?_
  have hl : (upd H3 r (.lst (([.bl (c == "NoRow"), .bl (c == "NoSums"), .bl (c == "NoMatch"), .bl (c == "TooLong")] ++ [.bl (c == "NoStep"), .bl (c == "NoSigns"), .bl (c == "NoChoice"), .bl (c == "NoFlat")]) ++ [.bl (c == "NoNote")]))) r = some (.lst ((oneHot j).map V.bl)) := by
    rw [upd_same, ← hb]
    rfl
  have ex0 : Ex H (upd H3 r (.lst (([.bl (c == "NoRow"), .bl (c == "NoSums"), .bl (c == "NoMatch"), .bl (c == "TooLong")] ++ [.bl (c == "NoStep"), .bl (c == "NoSigns"), .bl (c == "NoChoice"), .bl (c == "NoFlat")]) ++ [.bl (c == "NoNote")]))) := Ex.mut ((e1.trans e2).trans e3) (fresh_back e1 nr)
  revert hl ex0
  generalize upd H3 r (.lst (([.bl (c == "NoRow"), .bl (c == "NoSums"), .bl (c == "NoMatch"), .bl (c == "TooLong")] ++ [.bl (c == "NoStep"), .bl (c == "NoSigns"), .bl (c == "NoChoice"), .bl (c == "NoFlat")]) ++ [.bl (c == "NoNote")])) = H4
  intro hl ex0
  have ve : ∀ u, RelV (.ty "ValueError") u → u = .type "ValueError" := fun _ h => h
  refine q_when (b := false) (et_is (et_or (et_not (et_B (ev_isE (by rfl) ve (T.ve (c, t) hc)))) fun _ => et_test (ev_op (ev_countV (ev_var rfl) (sq_of hl) ev_c rfl (kind_flat _) (hot_count j hj)) ev_c rv_neI)) rfl) (fun hb => nomatch hb) (fun _ H5 e5 => ?_)
  refine s_ret (ev_tab (xs := kindWs) (i := (j : Int)) (el_lst (ea_cons ev_c (ea_cons ev_c (ea_cons ev_c (ea_cons ev_c (ea_cons ev_c (ea_cons ev_c (ea_cons ev_c (ea_cons ev_c (ea_cons ev_c ea_nil))))))))) (by decide)) (ev_indexV (ev_var rfl) (ex_l e5 (sq_of hl)) ev_c rfl (kind_flat _) (hot_at hj) rfl (hot_no hj)) (atI_nat hw)) fun H6 e6 => q H6 ((ex0.trans e5).trans e6)
end Sg
namespace Sg
open PySem PySem.Spec PyProof.Rows L2 Evl
theorem yes_if {σ : L2.St} {H : Hp} {A B : Hp → Prop} (h : A H) : tYes σ H (fun b H3 => if b = true then A H3 else B H3) := by
  show (if true = true then A H else B H)
  rw [if_pos rfl]
  exact h
theorem pure_read {K : PySem.W.Frag} (c1 : PySem.W.exmOne K (.ref (He.ga K "NoRow")) (.ref (He.ga K "NoRow")) = some true) (vs : List V) (H : Hp) (Q : VK) (E : XK) (h : sp_read K vs H Q E) : t_read K E { nx := fun _ H' => Q .non H', rt := Q } (start N_read vs) H := by
  obtain ⟨t, rfl, ht, qg, qb⟩ := h
  obtain ⟨wl, wz⟩ := words_len t
  refine ⟨_, rfl, ⟨_, rfl⟩, _, _, rfl, rfl, by decide +kernel, sz_of (by omega), fun p np => ⟨p, rfl, ⟨_, sq_of upd_same⟩, fun Dl hD => ?_⟩⟩
  have exp : Ex H (upd H p (.lst ((wordsOf t).map V.str))) := Ex.new np
  have npD : p ≠ Dl := fun z => by
    rw [← z, upd_same] at hD
    cases hD
  have hp1 : (upd H p (.lst ((wordsOf t).map V.str))) p = some (.lst ((wordsOf t).map V.str)) := upd_same
  revert exp hp1 hD
  generalize upd H p (.lst ((wordsOf t).map V.str)) = H1
  intro hD exp hp1
  refine lc_list (xs := (wordsOf t).map V.str) (fun i H' => Ex H1 H' ∧ ∃ ns : List Int, (wordsOf t).take i = ns.map textI ∧ Small ns ∧ H' Dl = some (.lst (ns.map V.int)))
    ⟨Ex.new hD, [], by rw [List.take_zero]; rfl, (fun x hx => by cases hx), upd_same⟩ (fun i H2 _ pv => sq_of (pv.1 p _ hp1)) (fun i x H2 hx pv => ?_) (fun H2 pv => ?_)
  · obtain ⟨ex, ns, hw, hsm, hL⟩ := pv
    rw [List.getElem?_map] at hx
    cases e : (wordsOf t)[i]? with
    | none => rw [e] at hx; cases hx
    | some w =>
      rw [e] at hx
      cases hx
      have hm : w ∈ wordsOf t := List.mem_of_getElem? e
      have hil : i < (wordsOf t).length := (List.getElem?_eq_some_iff.mp e).1
      have hnl : ns.length ≤ 9001 := by
        have z := congrArg List.length hw
        rw [List.length_take, List.length_map] at z
        omega
      refine ⟨rfl, ?_⟩
      refine yes_if ?_
      refine ⟨_, rfl, w, rfl, by have := wz w hm; omega, fun n hn ew H3 e3 => ?_, fun bad H3 e3 => qb (.inl ⟨w, hm, bad⟩) H3 ((exp.trans ex).trans e3), fun ok => canon ok⟩
      refine ⟨_, e3 Dl _ hL, by rw [List.length_map]; exact sz_lt (by omega), Ex.mut (ex.trans e3) hD, ns ++ [n], ?_, fun y hy => ?_, by rw [upd_same, List.map_append] <;> rfl⟩
      · rw [List.take_add_one, e, hw, List.map_append, ew]
        rfl
      · rcases List.mem_append.mp hy with hy | hy
        · exact hsm y hy
        · rw [List.mem_singleton.mp hy]
          exact hn
  · obtain ⟨ex, ns, hw, hsm, hL⟩ := pv
    rw [List.length_map, List.take_length] at hw
    have ex2 := exp.trans ex
    refine ⟨_, rfl, Dl, ns, rfl, sq_of hL, fun r H3 e3 => ?_, fun r H3 e3 => ⟨true, c1, fun _ a na => qb (.inr ⟨ns, hw, hsm, r⟩) H3 (ex2.trans e3), fun z => nomatch z⟩⟩
    exact s_ret (ev_var rfl) fun H4 e4 => qg ⟨ns, hw, hsm, r⟩ _ H4 ((ex2.trans e3).trans e4)
theorem pure_law_tried {K : PySem.W.Frag} (c1 : PySem.W.exmOne K (.ref (He.ga K "NoNote")) (.ref (He.ga K "SignError")) = some true) (vs : List V) (H : Hp) (Q : VK) (E : XK) (h : sp_law_tried K vs H Q E) : t_law_tried K { nx := fun _ H' => Q .non H', rt := Q } (start N__law_tried vs) H := by
  obtain ⟨t, rfl, ht, hb⟩ := h
  rcases hb with ⟨r, q⟩ | ⟨u, q⟩
  · have nu : ¬ Unread t := fun z => by
      obtain ⟨ns, e, hs, hr⟩ := r
      rcases z with ⟨w, hw, hc⟩ | ⟨ms, e2, hs2, hr2⟩
      · rw [e] at hw
        obtain ⟨i, hi, rfl⟩ := List.mem_map.mp hw
        rw [tl_text, chk_num (hs i hi)] at hc
        cases hc
      · have same : ns = ms := by
          have z := e.symm.trans e2
          have inj : ∀ {a b : List Int}, Small a → Small b → a.map textI = b.map textI → a = b := by
            intro a
            induction a with
            | nil =>
              intro b _ _ h
              cases b with
              | nil => rfl
              | cons y b => cases h
            | cons x a ih =>
              intro b ha hb h
              cases b with
              | nil => cases h
              | cons y b =>
                injection h with h1 h2
                have hx := int_text (ha x List.mem_cons_self)
                rw [h1, int_text (hb y List.mem_cons_self)] at hx
                cases hx
                rw [ih (fun z hz => ha z (List.mem_cons_of_mem _ hz)) (fun z hz => hb z (List.mem_cons_of_mem _ hz)) h2]
          exact inj hs hs2 z
        exact hr2 (same ▸ hr)
    have fin : ∀ {H' : Hp}, Ex H H' → tRet (tC (.str "read")) { nx := fun _ H' => Q .non H', rt := Q } [some (.str t), none] H' := fun e => s_ret ev_c fun H2 e2 => q H2 (e.trans e2)
    exact ⟨_, rfl, t, rfl, ht, fun _ v H1 e1 => fin e1, fun z => absurd z nu⟩
  · have nr : ¬ Reads t := fun r => by
      obtain ⟨ns, e, hs, hr⟩ := r
      rcases u with ⟨w, hw, hc⟩ | ⟨ms, e2, hs2, hr2⟩
      · rw [e] at hw
        obtain ⟨i, hi, rfl⟩ := List.mem_map.mp hw
        rw [tl_text, chk_num (hs i hi)] at hc
        cases hc
      · have z := congrArg (List.map PySem.intText?) (e.symm.trans e2)
        rw [List.map_map, List.map_map] at z
        have f : ∀ {a : List Int}, Small a → a.map (PySem.intText? ∘ textI) = a.map some := fun {a} ha => List.map_congr_left fun x hx => int_text (ha x hx)
        rw [f hs, f hs2] at z
        have same : ns = ms := by
          have y := congrArg (List.map fun o : Option Int => o.getD 0) z
          rw [List.map_map, List.map_map] at y
          have g : ∀ a : List Int, a.map ((fun o : Option Int => o.getD 0) ∘ some) = a := fun a => by
            have : ((fun o : Option Int => o.getD 0) ∘ some) = id := rfl
            rw [this, List.map_id]
          rw [g, g] at y
          exact y
        exact hr2 (same ▸ hr)
    refine ⟨_, rfl, t, rfl, ht, fun r => absurd r nr, fun _ H1 e1 => ?_⟩
    refine ⟨true, c1, fun _ x nx => ?_, fun z => nomatch z⟩
    exact ⟨_, rfl, rfl, _, _, rfl, rfl, ⟨"NoNote", kind_in (j := 8) rfl, rfl⟩, fun H2 e2 => q H2 (e1.trans e2)⟩
end Sg
namespace Sg
open PySem PySem.Spec PyProof.Rows L2 Evl
section
variable {K : PySem.W.Frag} {σ : L2.St} {H : Hp} {ta tb te : TE}
theorem rv_addS {a b : Str} (h : a.length + b.length ≤ 100000) : RV rAddStr (.str a) (.str b) H (.str (a ++ b)) := fun H1 _ _ q => ⟨a, b, rfl, rfl, sz_of h, q H1 (Ex.refl H1)⟩
theorem ev_joinV {ys : List Str} {a : Str} {p : Addr} (h : Ev ta σ H (.str a)) (h2 : Ev te σ H (.ref p)) (hp : SqL K H p (ys.map V.str)) (hz : (ys.map (·.length)).sum + ys.length * a.length ≤ 16777216) : Ev (tM1 (rJoin K) ta te) σ H (.str (Txt.join a ys)) := fun H0 e0 Q q =>
  h H0 e0 _ fun H1 e1 => ⟨⟨a, rfl⟩, h2 H1 (e0.trans e1) _ fun H2 e2 => ⟨a, p, ys, rfl, rfl, .inl (ex_l ((e0.trans e1).trans e2) hp), hz, q H2 (e1.trans e2)⟩⟩
theorem el_catN {xs zs : List V} (ha : EvL ta σ H xs) (hb : ∀ H1, Ex H H1 → EvL tb σ H1 zs) (hz : xs.length + zs.length ≤ 100000) : EvL (tOp rCat ta tb) σ H (xs ++ zs) := fun H0 e0 Q q =>
  ha H0 e0 _ fun l H1 nl e1 hl => hb H1 (e0.trans e1) H1 (Ex.refl H1) _ fun p H2 np e2 hp => ⟨l, p, xs, zs, rfl, rfl, e2 l _ hl, hp, sz_of hz, fun r hr => q r _ (fresh_back (e1.trans e2) hr) ((e1.trans e2).trans (Ex.new hr)) upd_same⟩
theorem ev_pickS {L : List Str} {i : Nat} {n : Int} (l : EvL ta σ H (L.map V.str)) (hi : Ev tb σ H (.int n)) (e : n = (i : Int)) (h : i < L.length) : Ev (tOp (rIxL K) ta tb) σ H (.str (L.getD i Str.empty)) := by
  refine ev_tab l hi ?_
  rw [e]
  refine atI_nat ?_
  rw [List.getElem?_map, List.getD_eq_getElem?_getD, List.getElem?_eq_getElem h]
  rfl
end
theorem cut_from (L : List Str) (k : Nat) : cutV (L.map V.str) (some (k : Int)) none = (L.drop k).map V.str := by
  unfold cutV
  rw [HT.sIx_none, HT.sIx_nat, List.length_map, ← List.map_drop, ← List.map_take]
  congr 1
  by_cases h : k ≤ L.length
  · rw [Nat.min_eq_left h]
    exact List.take_of_length_le (by rw [List.length_drop]; omega)
  · rw [Nat.min_eq_right (by omega), List.drop_of_length_le (Nat.le_refl _), List.drop_of_length_le (by omega)]
    exact List.take_nil
theorem cut_to (L : List Str) (k : Nat) : cutV (L.map V.str) none (some (k : Int)) = (L.take k).map V.str := by
  unfold cutV
  rw [HT.sIx_none, HT.sIx_nat, List.length_map, List.drop_zero, Nat.sub_zero, ← List.map_take]
  congr 1
  by_cases h : k ≤ L.length
  · rw [Nat.min_eq_left h]
  · rw [Nat.min_eq_right (by omega), List.take_of_length_le (Nat.le_refl _), List.take_of_length_le (by omega)]
theorem join_words {ws : List Str} (ne : ws ≠ []) (h : ∀ w ∈ ws, 32 ∉ TL.tl w) : wordsOf (Txt.join (Str.ofString " ") ws) = ws := by
  have e : TL.tl (Str.ofString " ") = 32 :: [] := by decide +kernel
  exact TL.split_join e (by decide +kernel) ne h
theorem text_no (i : Int) : 32 ∉ TL.tl (textI i) := by
  rw [tl_text]
  unfold numI
  split
  · intro z
    rcases List.mem_cons.mp z with z | z
    · exact absurd z (by decide)
    · exact TL.numL_free (Or.inl (by decide)) z
  · exact TL.numL_free (Or.inl (by decide))
theorem sum_le : ∀ {ws : List Str} {k : Nat}, (∀ w ∈ ws, w.length ≤ k) → (ws.map (·.length)).sum ≤ k * ws.length
  | [], _, _ => Nat.zero_le _
  | w :: ws, k, h => by
    have a := h w List.mem_cons_self
    have b := sum_le fun x hx => h x (List.mem_cons_of_mem w hx)
    rw [List.map_cons, List.sum_cons, List.length_cons, Nat.mul_succ]
    omega
theorem one_sp : (Str.ofString " ").length = 1 := by decide +kernel
theorem join_le {ws : List Str} {k : Nat} (h : ∀ w ∈ ws, w.length ≤ k) : (Txt.join (Str.ofString " ") ws).length ≤ (k + 1) * ws.length := by
  have a := join_len (Str.ofString " ") ws
  have b := sum_le h
  rw [TL.len_tl]
  rw [one_sp] at a
  rw [Nat.succ_mul]
  omega
/-- what is put in a word's place -/
def someL : List Str := [textI 100000000000000000001, Str.ofString "-" ++ textI 100000000000000000001, "00", "-0", "01", "-07", "+1", "--1", "", "-", "x", "1_0", "1.0", "1e1", "1\t", "0x1"]
theorem some_bad : ∀ z ∈ someL.drop 2, chkL (TL.tl z) = false := by decide +kernel
theorem some_small : ∀ z ∈ someL, z.length ≤ 22 ∧ ¬ 32 ∈ TL.tl z := by decide +kernel
theorem some_neg : Str.ofString "-" ++ textI 100000000000000000001 = textI (-100000000000000000001) := by decide +kernel
theorem getD_mem {L : List Str} {i : Nat} (h : i < L.length) : L.getD i Str.empty ∈ L := by
  rw [List.getD_eq_getElem?_getD, List.getElem?_eq_getElem h]
  exact List.getElem_mem h
theorem set_unread {ns : List Int} {j i : Nat} (hr : IsRow ns) (hj : j < ns.length) (hi : i < 16) : Unread (Txt.join (Str.ofString " ") ((ns.map textI).set j (someL.getD i Str.empty))) := by
  have ne : (ns.map textI).set j (someL.getD i Str.empty) ≠ [] := fun z => by
    have := congrArg List.length z
    rw [List.length_set, List.length_map] at this
    rw [List.length_nil] at this
    omega
  have hm : someL.getD i Str.empty ∈ someL := getD_mem hi
  have jw := join_words ne fun w hw => by
    rcases List.mem_or_eq_of_mem_set hw with hw | rfl
    · obtain ⟨x, _, rfl⟩ := List.mem_map.mp hw
      exact text_no x
    · exact (some_small _ hm).2
  have far : ∀ v : Int, v.natAbs = 100000000000000000001 → someL.getD i Str.empty = textI v → Unread (Txt.join (Str.ofString " ") ((ns.map textI).set j (someL.getD i Str.empty))) := fun v hv e => by
    refine .inr ⟨ns.set j v, ?_, fun x hx => ?_, fun r => ?_⟩
    · rw [jw, e, List.map_set]
    · rcases List.mem_or_eq_of_mem_set hx with hx | rfl
      · exact row_text hr x hx
      · rw [hv]; decide
    · have hvm : v ∈ ns.set j v := List.mem_iff_getElem?.mpr ⟨j, by rw [List.getElem?_set_self hj]⟩
      have := r.2 v hvm
      omega
  match i, hi with
  | 0, _ => exact far 100000000000000000001 (by decide) rfl
  | 1, _ => exact far (-100000000000000000001) (by decide) some_neg
  | i + 2, hi =>
    refine .inl ⟨someL.getD (i + 2) Str.empty, ?_, some_bad _ ?_⟩
    · rw [jw]
      exact List.mem_iff_getElem?.mpr ⟨j, by rw [List.getElem?_set_self (by rw [List.length_map]; exact hj)]⟩
    · have h2 : i < (someL.drop 2).length := by show i < 14; omega
      have e : someL.getD (i + 2) Str.empty = (someL.drop 2).getD i Str.empty := by
        rw [List.getD_eq_getElem?_getD, List.getD_eq_getElem?_getD, List.getElem?_drop, Nat.add_comm]
      rw [e]
      exact getD_mem h2
/-- signs around -/
def aroundL (t : Str) : List Str := [Str.ofString " " ++ t, t ++ Str.ofString " ", t ++ Str.ofString "\n", Str.ofString "\t" ++ t, t ++ Str.ofString ",", Str.ofString "(" ++ t]
theorem around_unread (t : Str) : ∀ z ∈ aroundL t, Unread z := by
  have e1 : TL.tl (Str.ofString " ") = [32] := by decide +kernel
  have e2 : TL.tl (Str.ofString "\n") = [10] := by decide +kernel
  have e3 : TL.tl (Str.ofString "\t") = [9] := by decide +kernel
  have e4 : TL.tl (Str.ofString ",") = [44] := by decide +kernel
  have e5 : TL.tl (Str.ofString "(") = [40] := by decide +kernel
  intro z hz
  unfold aroundL at hz
  simp only [List.mem_cons, List.not_mem_nil, or_false] at hz
  rcases hz with rfl | rfl | rfl | rfl | rfl | rfl
  · refine unread_of (w := []) ?_ (by decide)
    rw [TL.tl_append, e1]
    show [] ∈ spw [] (32 :: TL.tl t)
    rw [spw_sep]
    exact List.mem_cons_self
  · refine unread_of (w := []) ?_ (by decide)
    rw [TL.tl_append, e1]
    exact spw_end _ _
  · exact unread_char (c := 10) (by rw [TL.tl_append, e2]; exact List.mem_append_right _ List.mem_cons_self) (by decide) (by decide) (by decide)
  · exact unread_char (c := 9) (by rw [TL.tl_append, e3]; exact List.mem_append_left _ List.mem_cons_self) (by decide) (by decide) (by decide)
  · exact unread_char (c := 44) (by rw [TL.tl_append, e4]; exact List.mem_append_right _ List.mem_cons_self) (by decide) (by decide) (by decide)
  · exact unread_char (c := 40) (by rw [TL.tl_append, e5]; exact List.mem_append_left _ List.mem_cons_self) (by decide) (by decide) (by decide)
theorem around_len (t : Str) : ∀ z ∈ aroundL t, z.length ≤ t.length + 1 := by
  have one : ∀ s ∈ ([" ", "\n", "\t", ",", "("] : List Str), s.length = 1 := by decide +kernel
  intro z hz
  unfold aroundL at hz
  simp only [List.mem_cons, List.not_mem_nil, or_false] at hz
  have ap : ∀ a b : Str, (a ++ b).length = a.length + b.length := fun a b => by rw [TL.len_tl, TL.tl_append, List.length_append, ← TL.len_tl, ← TL.len_tl]
  rcases hz with rfl | rfl | rfl | rfl | rfl | rfl <;> rw [ap]
  · rw [one (Str.ofString " ") (by simp)]; omega
  · rw [one (Str.ofString " ") (by simp)]; omega
  · rw [one (Str.ofString "\n") (by simp)]; omega
  · rw [one (Str.ofString "\t") (by simp)]; omega
  · rw [one (Str.ofString ",") (by simp)]; omega
  · rw [one (Str.ofString "(") (by simp)]; omega
/-- other signs between -/
def betweenL : List Str := ["  ", ",", "\t", ", ", "\n"]
theorem between_unread {ns : List Int} (h : 1 < ns.length) : ∀ z ∈ betweenL, Unread (Txt.replace (textL ns) (Str.ofString " ") z) := by
  have e0 : TL.tl (Str.ofString " ") = [32] := by decide +kernel
  intro z hz
  have e : TL.tl (Txt.replace (textL ns) (Str.ofString " ") z) = PySem.StrLaws.replL [32] (TL.tl z) (TL.tl (textL ns)) := by
    have g := PySem.StrLaws.replace_list (x := textL ns) (y := Str.ofString " ") (z := z) (by rw [one_sp]; decide)
    refine g.trans ?_
    show PySem.StrLaws.replL (TL.tl (Str.ofString " ")) _ _ = _
    rw [e0]
  obtain ⟨a, b, r⟩ := repl_in (TL.tl z) _ (text_sep h)
  rw [r] at e
  have key : TL.tl z = [32, 32] ∨ ∃ c ∈ TL.tl z, c ≠ 32 ∧ ¬ (48 ≤ c ∧ c ≤ 57) ∧ c ≠ 45 := by
    have tab : ∀ z ∈ betweenL, TL.tl z = [32, 32] ∨ ∃ c ∈ TL.tl z, c ≠ 32 ∧ ¬ (48 ≤ c ∧ c ≤ 57) ∧ c ≠ 45 := by decide +kernel
    exact tab z hz
  rcases key with k | ⟨c, hc, c1, c2, c3⟩
  · refine unread_of (w := []) ?_ (by decide)
    rw [e, k]
    exact spw_two _ _ _
  · exact unread_char (c := c) (by rw [e]; exact List.mem_append_right _ (List.mem_append_left _ hc)) c1 c2 c3
/-- texts that write nothing -/
def otherL : List Str := ["", " ", "-", "a", "1 2 3", "1 1 1 1 1", "1;1", "1 -", "0 0 "]
theorem other_unread : ∀ z ∈ otherL, Unread z := by
  have w1 : ∀ z ∈ ([("", []), (" ", []), ("-", [45]), ("a", [97]), ("1;1", [49, 59, 49]), ("1 -", [45]), ("0 0 ", [])] : List (Str × List Nat)), z.2 ∈ spw [] (TL.tl z.1) ∧ chkL z.2 = false := by decide +kernel
  have one : ∀ (t : Str) (w : List Nat), (t, w) ∈ ([("", []), (" ", []), ("-", [45]), ("a", [97]), ("1;1", [49, 59, 49]), ("1 -", [45]), ("0 0 ", [])] : List (Str × List Nat)) → Unread t := fun t w h => unread_of (w1 _ h).1 (w1 _ h).2
  have r1 : TL.tl (Str.ofString "1 2 3") = TL.joinL [32] (([1, 2, 3] : List Int).map numI) := by decide +kernel
  have r2 : TL.tl (Str.ofString "1 1 1 1 1") = TL.joinL [32] (([1, 1, 1, 1, 1] : List Int).map numI) := by decide +kernel
  intro z hz
  unfold otherL at hz
  simp only [List.mem_cons, List.not_mem_nil, or_false] at hz
  rcases hz with rfl | rfl | rfl | rfl | rfl | rfl | rfl | rfl | rfl
  · exact one _ [] (by simp)
  · exact one _ [] (by simp)
  · exact one _ [45] (by simp)
  · exact one _ [97] (by simp)
  · exact unread_row r1 (by simp) (fun x hx => by
      simp only [List.mem_cons, List.not_mem_nil, or_false] at hx
      omega) fun r => absurd r.1 (by decide)
  · exact unread_row r2 (by simp) (fun x hx => by
      simp only [List.mem_cons, List.not_mem_nil, or_false] at hx
      omega) fun r => absurd r.1 (by decide)
  · exact one _ [49, 59, 49] (by simp)
  · exact one _ [45] (by simp)
  · exact one _ [] (by simp)
theorem other_len : ∀ z ∈ otherL, z.length ≤ 9000 := by decide +kernel
end Sg
namespace Sg
open PySem PySem.Spec PyProof.Rows L2 Evl
theorem pure_law_spoiled {K : PySem.W.Frag} (vs : List V) (H : Hp) (Q : VK) (E : XK) (h : sp_law_spoiled K vs H Q E) : t_law_spoiled K { nx := fun _ H' => Q .non H', rt := Q } (start N__law_spoiled vs) H := by
  obtain ⟨a, ns, w, c, rfl, hS, hr, hw, hc, q⟩ := h
  have p := row_pos hr
  have hb := row_text hr
  have tz := textL_len hb
  have wl : (ns.map textI).length = ns.length := List.length_map ..
  have wz : ∀ x ∈ ns.map textI, x.length ≤ 22 := fun x hx => by
    obtain ⟨i, hi, rfl⟩ := List.mem_map.mp hx
    exact text_len (hb i hi)
  refine q_asgL (el_strs (evs_var rfl hS) (by omega) hb (fun _ => rfl) fun _ => rfl) fun wp H1 nw e1 h1 => ?_
  refine q_asg (v := .str (textL ns)) (ev_call1 (ev_var rfl) (spv fun H2 e2 Q2 E2 q2 => ⟨a, ns, rfl, ex_l (e1.trans e2) hS, hr, q2⟩)) fun H2 e2 => ?_
  obtain ⟨j, hj, ej⟩ := mod_at3 (c : Int) ns.length p.1
  have hW2 := e2 wp _ h1
  refine q_asg (v := .int (j : Int)) (ev_is (ev_op (ev_var rfl) (ev_is (ev_len (ev_var rfl) (sq_of hW2)) (by rw [List.length_map, wl])) (rv_mod (by omega))) (congrArg V.int ej)) fun H3 e3 => ?_
  have hW3 := e3 wp _ hW2
  have e13 := (e1.trans e2).trans e3
  have pick : ∀ (n : Nat), 0 < n → ∃ i : Nat, i < n ∧ ∀ {σ : L2.St} {H : Hp}, σ[2]? = some (some (.int (c : Int))) → Ev (tOp rModI (tOp rDivI (tVar 2) (tC (.int 32))) (tC (.int (n : Int)))) σ H (.int (i : Int)) := fun n hn => by
    obtain ⟨i, hi, ei⟩ := mod_at3 ((c : Int) / 32) n hn
    exact ⟨i, hi, fun hs => ev_is (ev_op (ev_op (ev_var hs) ev_c (rv_div (by decide) (by decide))) ev_c (rv_mod (by omega))) (congrArg V.int ei)⟩
  refine q_when (b := decide ((w : Int) = 0)) (et_test (ev_op (ev_var rfl) ev_c rv_eqI)) (fun hb0 H4 e4 => ?_) (fun hb0 H4 e4 => ?_)
  · -- a word in another's place
    obtain ⟨i, hi, ei⟩ := pick 16 (by decide)
    have e14 := e13.trans e4
    have big : ∀ {σ : L2.St} {H : Hp}, Ev (tCB rStrInt (tCons (tOp rAddI (tOp rPowI (tC (.int 10)) (tC (.int 20))) (tC (.int 1))) tNil)) σ H (.str (textI 100000000000000000001)) := ev_strI (ev_op (ev_pow (n := 0) (by decide) (by decide) ev_c ev_c) ev_c rv_add) (by decide)
    have bl := text_len (i := 100000000000000000001) (by decide)
    have ml : (Str.ofString "-").length = 1 := by decide +kernel
    refine q_asgL (xs := (someL.take 8).map V.str) (el_lst (ea_cons big (ea_cons (ev_op ev_c big (rv_addS (by omega))) (ea_cons ev_c (ea_cons ev_c (ea_cons ev_c (ea_cons ev_c (ea_cons ev_c (ea_cons ev_c ea_nil)))))))) (by show 8 ≤ 100000; decide)) fun sp H5 nsp e5 h5 => ?_
    refine q_asgL (xs := someL.map V.str) (el_cat (ev_var rfl) h5 (zs := (someL.drop 8).map V.str) (el_lst (ea_cons ev_c (ea_cons ev_c (ea_cons ev_c (ea_cons ev_c (ea_cons ev_c (ea_cons ev_c (ea_cons ev_c (ea_cons ev_c ea_nil)))))))) (by show 8 ≤ 100000; decide)) (by show 8 + 8 ≤ 100000; decide)) fun tp H6 ntp e6 h6 => ?_
    have e46 := (e4.trans e5).trans e6
    have hW6 := e46 wp _ hW3
    refine q_setL (j := j) (v := .str (someL.getD i Str.empty)) hW6 (by
      refine ev_op (ev_var rfl) (ei rfl) (rv_ixL (sq_of h6) (atI_nat ?_))
      rw [List.getElem?_map, List.getD_eq_getElem?_getD, List.getElem?_eq_getElem (show i < someL.length from hi)]
      rfl) (ev_var rfl) (ev_var rfl) (by rw [List.length_map, wl]; exact hj) fun H7 e7 => ?_
    have hU : (upd H7 wp (.lst (((ns.map textI).map V.str).set j (.str (someL.getD i Str.empty))))) wp = some (.lst (((ns.map textI).set j (someL.getD i Str.empty)).map V.str)) := by
      rw [upd_same, List.map_set]
    have exU : Ex H (upd H7 wp (.lst (((ns.map textI).map V.str).set j (.str (someL.getD i Str.empty))))) := Ex.mut ((e13.trans e46).trans e7) nw
    have zl : ∀ x ∈ (ns.map textI).set j (someL.getD i Str.empty), x.length ≤ 22 := fun x hx => by
      rcases List.mem_or_eq_of_mem_set hx with hx | rfl
      · exact wz x hx
      · exact (some_small _ (getD_mem hi)).1
    have l1 := join_le zl
    have l2 := sum_le zl
    rw [List.length_set, wl] at l1 l2
    refine s_ret (v := .str (Txt.join (Str.ofString " ") ((ns.map textI).set j (someL.getD i Str.empty)))) (ev_joinV ev_c (ev_var rfl) (sq_of hU) (by rw [List.length_set, wl, one_sp]; omega)) fun H8 e8 => q _ (by omega) (set_unread hr hj hi) H8 (exU.trans e8)
  · have w0 : ¬ w = 0 := by have := of_decide_eq_false hb0; omega
    have e14 := e13.trans e4
    refine q_when (b := decide ((w : Int) = 1)) (et_test (ev_op (ev_var rfl) ev_c rv_eqI)) (fun hb1 H5 e5 => ?_) (fun hb1 H5 e5 => ?_)
    · -- a sign around
      obtain ⟨i, hi, ei⟩ := pick 6 (by decide)
      have ls : ∀ s ∈ ([" ", "\n", "\t", ",", "("] : List Str), s.length = 1 := by decide +kernel
      have l0 := ls (Str.ofString " ") (by simp)
      have l1 := ls (Str.ofString "\n") (by simp)
      have l2 := ls (Str.ofString "\t") (by simp)
      have l3 := ls (Str.ofString ",") (by simp)
      have l4 := ls (Str.ofString "(") (by simp)
      have hm : (aroundL (textL ns)).getD i Str.empty ∈ aroundL (textL ns) := getD_mem hi
      have al := around_len (textL ns) _ hm
      refine s_ret (v := .str ((aroundL (textL ns)).getD i Str.empty)) (ev_pickS (L := aroundL (textL ns)) (el_lst (ea_cons (ev_op ev_c (ev_var rfl) (rv_addS (by omega))) (ea_cons (ev_op (ev_var rfl) ev_c (rv_addS (by omega))) (ea_cons (ev_op (ev_var rfl) ev_c (rv_addS (by omega))) (ea_cons (ev_op ev_c (ev_var rfl) (rv_addS (by omega))) (ea_cons (ev_op (ev_var rfl) ev_c (rv_addS (by omega))) (ea_cons (ev_op ev_c (ev_var rfl) (rv_addS (by omega))) ea_nil)))))) (by show 6 ≤ 100000; decide)) (ei rfl) rfl hi) fun H6 e6 => q _ (by omega) (around_unread _ _ hm) H6 ((e14.trans e5).trans e6)
    · have w1 : ¬ w = 1 := by have := of_decide_eq_false hb1; omega
      have e15 := e14.trans e5
      have hS5 := ex_l e15 hS
      refine q_when (b := decide ((w : Int) = 2) && decide ((1 : Int) < (ns.length : Int))) (et_and (et_test (ev_op (ev_var rfl) ev_c rv_eqI)) fun _ => et_test (ev_op (ev_lenS (evs_var rfl hS5)) ev_c rv_gt)) (fun hb2 H6 e6 => ?_) (fun hb2 H6 e6 => ?_)
      · -- other signs between
        rw [Bool.and_eq_true] at hb2
        have n1 : 1 < ns.length := by have := of_decide_eq_true hb2.2; omega
        obtain ⟨i, hi, ei⟩ := pick 5 (by decide)
        have bl : ∀ z ∈ betweenL, z.length ≤ 2 := by decide +kernel
        have hm : betweenL.getD i Str.empty ∈ betweenL := getD_mem hi
        have rl := TK.replace_len (textL ns) (Str.ofString " ") (betweenL.getD i Str.empty)
        have rl2 : ∀ z ∈ betweenL, (textL ns).length + ((textL ns).length + 1) * z.length ≤ 2300 := fun z hz => by
          have := Nat.mul_le_mul_left ((textL ns).length + 1) (bl z hz)
          omega
        have rl3 := rl2 _ hm
        refine ⟨_, rfl, _, rfl, fun z hz => Nat.le_trans (rl2 z hz) (by decide), fun l ob nl => ?_⟩
        refine ei rfl (upd H6 l ob) (Ex.refl _) _ fun H7 e7 => ⟨i, rfl, e7 l _ upd_same, betweenL.getD i Str.empty, ?_, ?_⟩
        · rw [List.getD_eq_getElem?_getD]
          show betweenL[i]? = _
          rw [List.getElem?_eq_getElem (show i < betweenL.length from hi)]
          rfl
        · exact q _ (by omega) (between_unread n1 _ hm) H7 (((e15.trans e6).trans (Ex.new nl)).trans e7)
      · have e16 := e15.trans e6
        have hS6 := ex_l e6 hS5
        have hW6 := ((e4.trans e5).trans e6) wp _ hW3
        refine q_when (b := decide ((w : Int) = 3) && decide ((2 : Int) < (ns.length : Int))) (et_and (et_test (ev_op (ev_var rfl) ev_c rv_eqI)) fun _ => et_test (ev_op (ev_lenS (evs_var rfl hS6)) ev_c rv_gt)) (fun hb3 H7 e7 => ?_) (fun hb3 H7 e7 => ?_)
        · -- one more or less
          rw [Bool.and_eq_true] at hb3
          have n2 : 2 < ns.length := by have := of_decide_eq_true hb3.2; omega
          obtain ⟨i, hi, ei⟩ := pick 3 (by decide)
          have e17 := e16.trans e7
          have hW7 : SqL K H7 wp ((ns.map textI).map V.str) := sq_of (e7 wp _ hW6)
          have l1 : (Str.ofString " 1").length = 2 := by decide +kernel
          have cut : ∀ {ws : List Str}, (∀ x ∈ ws, x ∈ ns.map textI) → ws.length ≤ 32 → (ws.map (·.length)).sum + ws.length * (Str.ofString " ").length ≤ 16777216 ∧ (Txt.join (Str.ofString " ") ws).length ≤ 9000 := fun {ws} hws hl => by
            have g : ∀ x ∈ ws, x.length ≤ 22 := fun x hx => wz x (hws x hx)
            have a1 := sum_le g
            have a2 := join_le g
            rw [one_sp]
            omega
          have c1 := cut (ws := (ns.map textI).drop 1) (fun x hx => List.mem_of_mem_drop hx) (by rw [List.length_drop, wl]; omega)
          have c2 := cut (ws := (ns.map textI).take j ++ (ns.map textI).drop (j + 1)) (fun x hx => by
            rcases List.mem_append.mp hx with hx | hx
            · exact List.mem_of_mem_take hx
            · exact List.mem_of_mem_drop hx) (by rw [List.length_append, List.length_take, List.length_drop, wl]; omega)
          have u0 : Unread (textL ns ++ Str.ofString " 1") := by
            refine unread_row (ns := ns ++ [1]) ?_ (by simp) (fun x hx => ?_) (row_len_not hr.1 n2 (.inl (by rw [List.length_append]; rfl)))
            · have ne : ns ≠ [] := fun z => by rw [z] at n2; exact absurd n2 (by decide)
              have a1 := joinT ns ne
              have a2 := joinT (ns ++ [1]) (by simp)
              rw [backT_snoc, ← a1] at a2
              have l : TL.tl (Str.ofString " 1") = 32 :: numI 1 := by decide +kernel
              rw [TL.tl_append, tl_textL, l]
              injection a2 with _ a3
              rw [a3]
              rfl
            · rcases List.mem_append.mp hx with hx | hx
              · exact hb x hx
              · rw [List.mem_singleton.mp hx]; decide
          have uw : ∀ ms : List Int, ms.length + 1 = ns.length → (∀ x ∈ ms, x ∈ ns) → Unread (Txt.join (Str.ofString " ") (ms.map textI)) := fun ms hl hm => by
            refine .inr ⟨ms, texts_split fun z => ?_, fun x hx => hb x (hm x hx), row_len_not hr.1 n2 (.inr hl)⟩
            rw [z] at hl
            simp at hl
            omega
          have u1 := uw (ns.drop 1) (by rw [List.length_drop]; omega) fun x hx => List.mem_of_mem_drop hx
          have u2 := uw (ns.take j ++ ns.drop (j + 1)) (by rw [List.length_append, List.length_take, List.length_drop]; omega) fun x hx => by
            rcases List.mem_append.mp hx with hx | hx
            · exact List.mem_of_mem_take hx
            · exact List.mem_of_mem_drop hx
          rw [List.map_drop] at u1
          rw [List.map_append, List.map_take, List.map_drop] at u2
          have tot : (textL ns ++ Str.ofString " 1").length ≤ 9000 := by
            rw [TL.len_tl, TL.tl_append, List.length_append, ← TL.len_tl, ← TL.len_tl, l1]
            omega
          have sl1 := el_sl (K := K) (σ := [some (.ref a), some (.int (w : Int)), some (.int (c : Int)), some (.ref wp), some (.str (textL ns)), some (.int (j : Int)), none, none]) (H := H7) (te := tVar 3) (tl := tPart (tC (.int 1))) (th := tNoPart) (ev_var rfl) (eo_some ev_c) eo_none hW7
          rw [show (1 : Int) = ((1 : Nat) : Int) from rfl, cut_from] at sl1
          have slA := el_sl (K := K) (σ := [some (.ref a), some (.int (w : Int)), some (.int (c : Int)), some (.ref wp), some (.str (textL ns)), some (.int (j : Int)), none, none]) (H := H7) (te := tVar 3) (tl := tNoPart) (th := tPart (tVar 5)) (ev_var rfl) eo_none (eo_some (ev_var rfl)) hW7
          rw [cut_to] at slA
          have slB := el_sl (K := K) (σ := [some (.ref a), some (.int (w : Int)), some (.int (c : Int)), some (.ref wp), some (.str (textL ns)), some (.int (j : Int)), none, none]) (H := H7) (te := tVar 3) (tl := tPart (tOp rAddI (tVar 5) (tC (.int 1)))) (th := tNoPart) (ev_var rfl) (eo_some (ev_op (ev_var rfl) ev_c rv_add)) eo_none hW7
          rw [show ((j : Int) + 1) = ((j + 1 : Nat) : Int) from rfl, cut_from] at slB
          have all3 : ∀ z ∈ ([textL ns ++ Str.ofString " 1", Txt.join (Str.ofString " ") ((ns.map textI).drop 1), Txt.join (Str.ofString " ") ((ns.map textI).take j ++ (ns.map textI).drop (j + 1))] : List Str), z.length ≤ 9000 ∧ Unread z := fun z hz => by
            simp only [List.mem_cons, List.not_mem_nil, or_false] at hz
            rcases hz with rfl | rfl | rfl
            · exact ⟨tot, u0⟩
            · exact ⟨c1.2, u1⟩
            · exact ⟨c2.2, u2⟩
          refine s_ret (ev_pickS (L := [textL ns ++ Str.ofString " 1", Txt.join (Str.ofString " ") ((ns.map textI).drop 1), Txt.join (Str.ofString " ") ((ns.map textI).take j ++ (ns.map textI).drop (j + 1))]) (el_lst (ea_cons (ev_op (ev_var rfl) ev_c (rv_addS (by omega))) (ea_cons (ev_join ev_c sl1 c1.1) (ea_cons (ev_join ev_c (by
            rw [List.map_append]
            exact el_catN slA (fun _ e => slB.mono e) (by rw [List.length_map, List.length_map, List.length_take, List.length_drop, wl]; omega)) c2.1) ea_nil))) (by show 3 ≤ 100000; decide)) (ei rfl) rfl hi) fun H8 e8 => ?_
          have m := all3 _ (getD_mem (L := [textL ns ++ Str.ofString " 1", Txt.join (Str.ofString " ") ((ns.map textI).drop 1), Txt.join (Str.ofString " ") ((ns.map textI).take j ++ (ns.map textI).drop (j + 1))]) hi)
          exact q _ m.1 m.2 H8 (e17.trans e8)
        · -- any other
          obtain ⟨i, hi, ei⟩ := pick 9 (by decide)
          have hm : otherL.getD i Str.empty ∈ otherL := getD_mem hi
          exact s_ret (ev_pickS (L := otherL) (el_lst (ea_cons ev_c (ea_cons ev_c (ea_cons ev_c (ea_cons ev_c (ea_cons ev_c (ea_cons ev_c (ea_cons ev_c (ea_cons ev_c (ea_cons ev_c ea_nil))))))))) (by show 9 ≤ 100000; decide)) (ei rfl) rfl hi) fun H8 e8 => q _ (other_len _ hm) (other_unread _ hm) H8 ((e16.trans e7).trans e8)
theorem q_spoil {K : PySem.W.Frag} {σ : L2.St} {H : Hp} {ta tb tc : TE} {D : Ends} {tz : TS} {E : XK} {i : Nat} {a : Addr} {ns : List Int} {w c : Nat} (h1 : Ev ta σ H (.ref a)) (h2 : Ev tb σ H (.int (w : Int))) (h3 : Ev tc σ H (.int (c : Int))) (hS : SqL K H a (ns.map V.int)) (hr : IsRow ns) (hw : w < 5) (hc : c < 1000003)
    (k : ∀ t : Str, t.length ≤ 9000 → Unread t → ∀ H1, Ex H H1 → tz D (σ.set i (some (.str t))) H1) : tSeq (tAsg (tCall (sp_law_spoiled K) [] E (tCons ta (tCons tb (tCons tc tNil)))) (gName i)) tz D σ H :=
  h1 H (Ex.refl H) _ fun H1 e1 => h2 H1 e1 _ fun H2 e2 => h3 H2 (e1.trans e2) _ fun H3 e3 => ⟨a, ns, w, c, rfl, ex_l ((e1.trans e2).trans e3) hS, hr, hw, hc, fun t ht hu H4 e4 => k t ht hu H4 (((e1.trans e2).trans e3).trans e4)⟩
theorem pure_law {K : PySem.W.Frag} (vs : List V) (H : Hp) (Q : VK) (E : XK) (h : sp_law K vs H Q E) : t_law K { nx := fun _ H' => Q .non H', rt := Q } (start N_law vs) H := by
  obtain ⟨a, ns, rfl, hS, hl, q⟩ := h
  obtain ⟨s, hs, es⟩ := mod_at3 (cellAt ns 0) 6 (by decide)
  have h32 := pow_le' hs
  have pw : 2 ^ s ∈ [1, 2, 4, 8, 16, 32] := pow_mem (by omega)
  refine q_asgL (el_law_row (g := 900000000000) (s := s) (ev_cell (k := 1) (ev_var rfl) ev_c hS) (ev_is (ev_op (ev_cell (k := 0) (ev_var rfl) ev_c hS) ev_c (rv_mod (by decide))) (congrArg V.int es)) (ev_cell (k := 2) (ev_var rfl) ev_c hS) (ev_op (x := .int 9) ev_c (ev_pow (n := 0) (by decide) (by decide) ev_c ev_c) (rv_mul (a := 4) (b := 40) (by decide) (by decide) (by decide) (by decide) (by decide))) (by omega) (by decide) (by decide)) fun rp H1 nrp e1 h1 => ?_
  have hir := lawRow_isRow (s := s) (c := cellAt ns 1) (way := cellAt ns 2) (g := 900000000000) (by omega) (by decide) (by decide)
  generalize lawRow (cellAt ns 1) (2 ^ s) (cellAt ns 2) 900000000000 = row at h1 hir
  have hS1 := ex_l e1 hS
  have hR1 : SqL K H1 rp (row.map V.int) := sq_of h1
  obtain ⟨w, hw, ew⟩ := mod_at3 (cellAt ns 3) 5 (by decide)
  obtain ⟨c, hc, ec⟩ := mod_at3 (cellAt ns 4) 1000003 (by decide)
  refine q_spoil (ev_var rfl) (ev_is (ev_op (ev_cell (k := 3) (ev_var rfl) ev_c hS1) ev_c (rv_mod (by decide))) (congrArg V.int ew)) (ev_is (ev_op (ev_cell (k := 4) (ev_var rfl) ev_c hS1) ev_c (rv_mod (by decide))) (congrArg V.int ec)) hR1 hir hw hc fun t ht hu H5 e5 => ?_
  have hp := row_pos hir
  have tl := textL_len (row_text hir)
  have hR5 := ex_l e5 hR1
  have bad : ∀ {σ : L2.St} {H : Hp} {E : XK}, σ[2]? = some (some (.str t)) → Ev (tCall (sp_law_tried K) [] E (tCons (tVar 2) tNil)) σ H (.str (Str.ofString "note")) := fun h => ev_call1 (ev_var h) (spv fun H6 e6 Q6 E6 q6 => ⟨t, rfl, ht, .inr ⟨hu, q6⟩⟩)
  refine q_when (b := false) (et_is (et_or (et_test (ev_op (bad rfl) ev_c rv_neS)) fun _ => et_test (ev_op (bad rfl) ev_c rv_neS)) (by rw [decide_eq_true rfl] <;> rfl)) (fun z => nomatch z) (fun _ H6 e6 => ?_)
  have rd : Reads (textL row) := ⟨row, texts_split fun z => by rw [z] at hp; exact absurd hp.1 (by decide), row_text hir, hir⟩
  exact s_ret (v := .bl true) (ev_is (ev_op (ev_call1 (x := .str (textL row)) (z := .str (Str.ofString "read")) (ev_call1 (ev_var rfl) (spv fun H7 e7 Q7 E7 q7 => ⟨rp, row, rfl, ex_l (e6.trans e7) hR5, hir, q7⟩)) (spv fun H7 e7 Q7 E7 q7 => ⟨textL row, rfl, by omega, .inl ⟨rd, q7⟩⟩)) ev_c rv_eqS) (by rw [decide_eq_true rfl])) fun H7 _ => q H7
end Sg
namespace Sg
open PySem PySem.Spec PyProof.Rows L2 Evl
/-! ### the text -/
def topS (i : Nat) : Stmt := PySem.Challenge.pw_signsums_k14_unread.main.body.getD i (.Pass ⟨0, 0, 0, 0⟩)
abbrev s_ask_row : Stmt := topS 14
theorem sc_ask_row : FnScope N_ask_row ["row"] (defScope s_ask_row) := ⟨rfl, rfl, rfl, by decide +kernel, rfl, by decide +kernel, by decide +kernel⟩
abbrev s_number_of : Stmt := topS 17
theorem sc_number_of : FnScope N_number_of ["word"] (defScope s_number_of) := ⟨rfl, rfl, rfl, by decide +kernel, rfl, by decide +kernel, by decide +kernel⟩
abbrev s_read : Stmt := topS 18
theorem sc_read : FnScope N_read ["text"] (defScope s_read) := ⟨rfl, rfl, rfl, by decide +kernel, rfl, by decide +kernel, by decide +kernel⟩
abbrev s__law_cell_at : Stmt := topS 20
theorem sc__law_cell_at : FnScope N__law_cell_at ["script", "k"] (defScope s__law_cell_at) := ⟨rfl, rfl, rfl, by decide +kernel, rfl, by decide +kernel, by decide +kernel⟩
abbrev s__law_next : Stmt := topS 21
theorem sc__law_next : FnScope N__law_next ["seed"] (defScope s__law_next) := ⟨rfl, rfl, rfl, by decide +kernel, rfl, by decide +kernel, by decide +kernel⟩
abbrev s__law_row : Stmt := topS 22
theorem sc__law_row : FnScope N__law_row ["cell", "steps", "way", "great"] (defScope s__law_row) := ⟨rfl, rfl, rfl, by decide +kernel, rfl, by decide +kernel, by decide +kernel⟩
abbrev s__law_text : Stmt := topS 23
theorem sc__law_text : FnScope N__law_text ["row"] (defScope s__law_text) := ⟨rfl, rfl, rfl, by decide +kernel, rfl, by decide +kernel, by decide +kernel⟩
abbrev s__law_kind : Stmt := topS 24
theorem sc__law_kind : FnScope N__law_kind ["e"] (defScope s__law_kind) := ⟨rfl, rfl, rfl, by decide +kernel, rfl, by decide +kernel, by decide +kernel⟩
abbrev s__law_tried : Stmt := topS 25
theorem sc__law_tried : FnScope N__law_tried ["text"] (defScope s__law_tried) := ⟨rfl, rfl, rfl, by decide +kernel, rfl, by decide +kernel, by decide +kernel⟩
abbrev s__law_spoiled : Stmt := topS 26
theorem sc__law_spoiled : FnScope N__law_spoiled ["row", "way", "cell"] (defScope s__law_spoiled) := ⟨rfl, rfl, rfl, by decide +kernel, rfl, by decide +kernel, by decide +kernel⟩
abbrev s_law : Stmt := topS 27
theorem sc_law : FnScope N_law ["script"] (defScope s_law) := ⟨rfl, rfl, rfl, by decide +kernel, rfl, by decide +kernel, by decide +kernel⟩
/-! ### what the top has written -/
structure Txt (K : PySem.W.Frag) (mg : Str → Option Value) where
  ValueError : mg "ValueError" = none
  int : mg "int" = none
  isinstance : mg "isinstance" = none
  len : mg "len" = none
  range : mg "range" = none
  str : mg "str" = none
  m_SignError : mg "SignError" = some (.ref (He.ga K "SignError"))
  x_SignError : XOk K (He.ga K "SignError")
  m_NoRow : mg "NoRow" = some (.ref (He.ga K "NoRow"))
  x_NoRow : XOk K (He.ga K "NoRow")
  m_NoSums : mg "NoSums" = some (.ref (He.ga K "NoSums"))
  x_NoSums : XOk K (He.ga K "NoSums")
  m_NoMatch : mg "NoMatch" = some (.ref (He.ga K "NoMatch"))
  x_NoMatch : XOk K (He.ga K "NoMatch")
  m_TooLong : mg "TooLong" = some (.ref (He.ga K "TooLong"))
  x_TooLong : XOk K (He.ga K "TooLong")
  m_NoStep : mg "NoStep" = some (.ref (He.ga K "NoStep"))
  x_NoStep : XOk K (He.ga K "NoStep")
  m_NoSigns : mg "NoSigns" = some (.ref (He.ga K "NoSigns"))
  x_NoSigns : XOk K (He.ga K "NoSigns")
  m_NoChoice : mg "NoChoice" = some (.ref (He.ga K "NoChoice"))
  x_NoChoice : XOk K (He.ga K "NoChoice")
  m_NoFlat : mg "NoFlat" = some (.ref (He.ga K "NoFlat"))
  x_NoFlat : XOk K (He.ga K "NoFlat")
  m_NoNote : mg "NoNote" = some (.ref (He.ga K "NoNote"))
  x_NoNote : XOk K (He.ga K "NoNote")
  m_LENGTHS : mg "LENGTHS" = some (.ref (He.ga K "LENGTHS"))
  v_LENGTHS : ∀ H : Hp, SqT K H (He.ga K "LENGTHS") [.int 1, .int 2, .int 4, .int 8, .int 16, .int 32]
  m_MOST : ∃ t, mg "MOST" = some (.int 100000000000000000000 t)
  m_FIGURES : ∃ t, mg "FIGURES" = some (.str "0123456789" t)
  kinds : KindsOk K
  e_NoRow : PySem.W.exmOne K (.ref (He.ga K "NoRow")) (.ref (He.ga K "NoRow")) = some true
  c_NoRow : PySem.W.exmOne K (.ref (He.ga K "NoRow")) (.ref (He.ga K "SignError")) = some true
  c_NoSums : PySem.W.exmOne K (.ref (He.ga K "NoSums")) (.ref (He.ga K "SignError")) = some true
  c_NoMatch : PySem.W.exmOne K (.ref (He.ga K "NoMatch")) (.ref (He.ga K "SignError")) = some true
  c_TooLong : PySem.W.exmOne K (.ref (He.ga K "TooLong")) (.ref (He.ga K "SignError")) = some true
  c_NoStep : PySem.W.exmOne K (.ref (He.ga K "NoStep")) (.ref (He.ga K "SignError")) = some true
  c_NoSigns : PySem.W.exmOne K (.ref (He.ga K "NoSigns")) (.ref (He.ga K "SignError")) = some true
  c_NoChoice : PySem.W.exmOne K (.ref (He.ga K "NoChoice")) (.ref (He.ga K "SignError")) = some true
  c_NoFlat : PySem.W.exmOne K (.ref (He.ga K "NoFlat")) (.ref (He.ga K "SignError")) = some true
  c_NoNote : PySem.W.exmOne K (.ref (He.ga K "NoNote")) (.ref (He.ga K "SignError")) = some true
  d_ask_row : FuncData
  g_ask_row : mg "ask_row" = some (.ref (He.ga K "ask_row"))
  F_ask_row : Fun K "ask_row" "ask_row" s_ask_row (He.ga K "ask_row") d_ask_row
  b_ask_row : Binds K d_ask_row ["row"] []
  d_number_of : FuncData
  g_number_of : mg "number_of" = some (.ref (He.ga K "number_of"))
  F_number_of : Fun K "number_of" "number_of" s_number_of (He.ga K "number_of") d_number_of
  b_number_of : Binds K d_number_of ["word"] []
  d_read : FuncData
  g_read : mg "read" = some (.ref (He.ga K "read"))
  F_read : Fun K "read" "read" s_read (He.ga K "read") d_read
  b_read : Binds K d_read ["text"] []
  d__law_cell_at : FuncData
  g__law_cell_at : mg "_law_cell_at" = some (.ref (He.ga K "_law_cell_at"))
  F__law_cell_at : Fun K "_law_cell_at" "_law_cell_at" s__law_cell_at (He.ga K "_law_cell_at") d__law_cell_at
  b__law_cell_at : Binds K d__law_cell_at ["script", "k"] []
  d__law_next : FuncData
  g__law_next : mg "_law_next" = some (.ref (He.ga K "_law_next"))
  F__law_next : Fun K "_law_next" "_law_next" s__law_next (He.ga K "_law_next") d__law_next
  b__law_next : Binds K d__law_next ["seed"] []
  d__law_row : FuncData
  g__law_row : mg "_law_row" = some (.ref (He.ga K "_law_row"))
  F__law_row : Fun K "_law_row" "_law_row" s__law_row (He.ga K "_law_row") d__law_row
  b__law_row : Binds K d__law_row ["cell", "steps", "way", "great"] []
  d__law_text : FuncData
  g__law_text : mg "_law_text" = some (.ref (He.ga K "_law_text"))
  F__law_text : Fun K "_law_text" "_law_text" s__law_text (He.ga K "_law_text") d__law_text
  b__law_text : Binds K d__law_text ["row"] []
  d__law_kind : FuncData
  g__law_kind : mg "_law_kind" = some (.ref (He.ga K "_law_kind"))
  F__law_kind : Fun K "_law_kind" "_law_kind" s__law_kind (He.ga K "_law_kind") d__law_kind
  b__law_kind : Binds K d__law_kind ["e"] []
  d__law_tried : FuncData
  g__law_tried : mg "_law_tried" = some (.ref (He.ga K "_law_tried"))
  F__law_tried : Fun K "_law_tried" "_law_tried" s__law_tried (He.ga K "_law_tried") d__law_tried
  b__law_tried : Binds K d__law_tried ["text"] []
  d__law_spoiled : FuncData
  g__law_spoiled : mg "_law_spoiled" = some (.ref (He.ga K "_law_spoiled"))
  F__law_spoiled : Fun K "_law_spoiled" "_law_spoiled" s__law_spoiled (He.ga K "_law_spoiled") d__law_spoiled
  b__law_spoiled : Binds K d__law_spoiled ["row", "way", "cell"] []
  d_law : FuncData
  g_law : mg "law" = some (.ref (He.ga K "law"))
  F_law : Fun K "law" "law" s_law (He.ga K "law") d_law
  b_law : Binds K d_law ["script"] []
end Sg
namespace Sg
open PySem PySem.Spec PyProof.Rows L2 Evl
section
variable {P : Program} {w : World} {K : PySem.W.Frag} {mg : Str → Option Value} {base : Heap}
theorem ok_ask_row (T : Txt K mg) : FnOk P w K mg base (L2N.CX P w) 1 (He.ga K "ask_row") T.d_ask_row ["row"] (sp_ask_row K) := by
  refine fun_okN T.F_ask_row sc_ask_row len_ask_row (fun cdv A outer s H vs Q E hr h => ⟨t_ask_row K E, ?_, pure_ask_row (T.v_LENGTHS) vs H Q E h⟩)
  exact (pss_cons (ps_if (pt_cmpR op_notIn_seq (pe_callB call_len_seq (by rfl) T.len PySem.boot_len (pa_cons (pv 0) pa_nil)) (pe_glob (v := .ref (He.ga K "LENGTHS")) (by rfl) T.m_LENGTHS rfl) (by rfl))
   (pss_one (L2N.ps_raise rfl (L2N.takes_of rfl rfl rfl rfl) (L2N.pmk_own PySem.F.excBase_ValueError T.x_NoRow.ok T.m_NoRow T.x_NoRow.kp (raises_own T.x_NoRow.sb T.x_NoRow.ty) (by exact rfl))))
   pss_nil)
  (pss_one (ps_for (passes_of rfl) rfl (pi_list (pv 0)) (pg_name (i := 1) sc_ask_row.nd rfl (Or.inl rfl))
   (pss_one (ps_if (pt_not (pt_chain op_le op_le (pe_un un_neg (pe_glob (by rfl) T.m_MOST.choose_spec ⟨_, rfl⟩)) (pv 1) (pe_glob (by rfl) T.m_MOST.choose_spec ⟨_, rfl⟩)))
    (pss_one (L2N.ps_raise rfl (L2N.takes_of rfl rfl rfl rfl) (L2N.pmk_own PySem.F.excBase_ValueError T.x_NoRow.ok T.m_NoRow T.x_NoRow.kp (raises_own T.x_NoRow.sb T.x_NoRow.ty) (by exact rfl))))
    pss_nil)))))
theorem ok_number_of (T : Txt K mg) : FnOk P w K mg base (L2.CX P w) 1 (He.ga K "number_of") T.d_number_of ["word"] (sp_number_of K) := by
  refine T.F_number_of.okX sc_number_of len_number_of (fun cdv A outer s H vs Q E hr h => ⟨t_number_of K E, ?_, pure_number_of vs H Q E h⟩)
  exact (pss_cons (ps_set (i := 1) sc_number_of.nd rfl (Or.inl rfl) (pv 0))
  (pss_cons (ps_if (pt_cmpR op_eq (pe_slice sl_str (pv 0) po_none (po_some pe_int)) pe_str (nomark _))
   (pss_one (ps_set (i := 1) sc_number_of.nd rfl (Or.inl rfl) (pe_slice sl_str (pv 0) (po_some pe_int) po_none)))
   pss_nil)
  (pss_cons (ps_if (PW.pt (pw_or (pt_not (pt_chain op_le op_le pe_int (pe_callB call_len_str (by rfl) T.len PySem.boot_len (pa_cons (pv 1) pa_nil)) pe_int)) (pw_or1 (PW.pt (pw_and (pt_cmpR op_eq (pe_ix ix_str (pv 1) pe_int (fun _ _ => rfl)) pe_str (nomark _)) (pw_and1 (pt_cmpR op_ne (pv 0) pe_str (nomark _))))))))
   (pss_one (ps_raise rfl (takes_of rfl rfl rfl rfl) (pmk_own PySem.F.excBase_ValueError T.x_NoNote.ok T.m_NoNote T.x_NoNote.kp (raises_own T.x_NoNote.sb T.x_NoNote.ty) (by exact rfl))))
   pss_nil)
  (pss_cons (ps_for (passes_of rfl) rfl (pi_str (pv 1)) (pg_name (i := 2) sc_number_of.nd rfl (Or.inl rfl))
   (pss_one (ps_if (pt_cmpR op_notIn_sign (pv 2) (pe_glob (by rfl) T.m_FIGURES.choose_spec ⟨_, rfl⟩) (by rfl))
    (pss_one (ps_raise rfl (takes_of rfl rfl rfl rfl) (pmk_own PySem.F.excBase_ValueError T.x_NoNote.ok T.m_NoNote T.x_NoNote.kp (raises_own T.x_NoNote.sb T.x_NoNote.ty) (by exact rfl))))
    pss_nil)))
  (pss_one (ps_ret (pe_callTy call_int_str (by rfl) T.int (by decide +kernel) (pa_cons (pv 0) pa_nil))))))))
theorem ok_read (T : Txt K mg) (G_number_of : FnOk P w K mg base (L2.CX P w) 1 (He.ga K "number_of") T.d_number_of ["word"] (sp_number_of K)) (G_ask_row : FnOk P w K mg base (L2N.CX P w) 1 (He.ga K "ask_row") T.d_ask_row ["row"] (sp_ask_row K)) : FnOk P w K mg base (L2.CX P w) 2 (He.ga K "read") T.d_read ["text"] (sp_read K) := by
  refine T.F_read.okX sc_read len_read (fun cdv A outer s H vs Q E hr h => ⟨t_read K E, ?_, pure_read T.e_NoRow vs H Q E h⟩)
  exact (pss_cons (ps_setLcX (i := 1) (own := [("word", 2)]) (g := (gName 2)) rfl rfl (takes_of rfl rfl rfl rfl) rfl sc_read.nd rfl rfl (sw_true rfl rfl rfl (by decide +kernel)) (pi_list (pe_split (pv 0) pe_str)) (blkOk_by (own := [("word", 2)]) (N := N_read) (sc := defScope s_read) (by decide +kernel)) (fun _ _ _ _ _ => pg_name (i := 2) sc_read.nd rfl (Or.inl rfl)) (fun _ _ _ _ _ xe tk => (pe_call G_number_of (hr.mono (by decide)) (by rfl) T.g_number_of T.F_number_of.kp T.b_number_of .nil tk (pa_cons (pv 2) pa_nil))))
  (pss_cons (L2H.ps_try_onlyX (tb := (fun W => (tDrop (tCallS (sp_ask_row K) (WE W) (tCons (tVar 1) tNil))))) (ts := (fun _ _ _ => (tRz E (He.ga K "NoNote")))) (Wout := fun cls d _ H => E cls d H) rfl rfl ⟨rfl, by decide, .inl T.m_NoRow⟩ (L2H.passesAt_of rfl) (takes_of rfl rfl rfl rfl)
   (fun W pn xe tkN tk2 _ => (pss_one (ps_expr (pe_callS G_ask_row (hr.mono (by decide)) (by rfl) T.g_ask_row T.F_ask_row.kp T.b_ask_row (fun σ => L2N.passAt tkN σ) (pa_cons (pv 1) pa_nil)))))
   (fun a oe cls d pn hz hf tkS hot => (pss_one (L2H.ps_raiseH hot tkS (L2N.pmk_own PySem.F.excBase_ValueError T.x_NoNote.ok T.m_NoNote T.x_NoNote.kp (raises_own T.x_NoNote.sb T.x_NoNote.ty) (by exact rfl))))))
  (pss_one (ps_ret (pv 1)))))
theorem ok_law_cell_at (T : Txt K mg) : FnOk P w K mg base CX0 1 (He.ga K "_law_cell_at") T.d__law_cell_at ["script", "k"] (sp_law_cell_at K) := by
  refine T.F__law_cell_at.ok sc__law_cell_at len_law_cell_at (fun cdv A outer s H vs Q E hr h => ⟨t_law_cell_at K, ?_, pure_law_cell_at vs H Q E h⟩)
  exact (pss_cons (ps_if (pt_cmpR op_lt (pv 1) (pe_callB call_len_seq (by rfl) T.len PySem.boot_len (pa_cons (pv 0) pa_nil)) (nomark _))
   (pss_one (ps_ret (pe_ix ix_list (pv 0) (pv 1) (fun _ _ => rfl))))
   pss_nil)
  (pss_one (ps_ret pe_int)))
theorem ok_law_next (T : Txt K mg) : FnOk P w K mg base CX0 1 (He.ga K "_law_next") T.d__law_next ["seed"] (sp_law_next K) := by
  refine T.F__law_next.ok sc__law_next len_law_next (fun cdv A outer s H vs Q E hr h => ⟨t_law_next K, ?_, pure_law_next vs H Q E h⟩)
  exact (pss_cons (ps_set (i := 0) sc__law_next.nd rfl (Or.inl rfl) (pe_op op_mod (pe_op op_add (pv 0) pe_int) pe_int))
  (pss_one (ps_ret (pe_op op_mod (pe_op op_add (pe_op op_add (pe_op op_mulW (pv 0) (pv 0)) (pe_op op_mulW pe_int (pv 0))) pe_int) pe_int))))
theorem ok_law_row (T : Txt K mg) (G_law_next : FnOk P w K mg base CX0 1 (He.ga K "_law_next") T.d__law_next ["seed"] (sp_law_next K)) : FnOk P w K mg base CX0 2 (He.ga K "_law_row") T.d__law_row ["cell", "steps", "way", "great"] (sp_law_row K) := by
  refine T.F__law_row.ok sc__law_row len_law_row (fun cdv A outer s H vs Q E hr h => ⟨t_law_row K, ?_, pure_law_row vs H Q E h⟩)
  exact (pss_cons (ps_set (i := 4) sc__law_row.nd rfl (Or.inl rfl) (pe_lst pa_nil))
  (pss_cons (ps_for PassesOwn.never rfl (pi_range1 (by rfl) T.range (pa_cons (pe_ix ix_list (pe_lst (pa_cons pe_int (pa_cons pe_int (pa_cons pe_int (pa_cons pe_int (pa_cons pe_int (pa_cons pe_int pa_nil))))))) (pv 1) (fun _ _ => rfl)) pa_nil)) (pg_name (i := 5) sc__law_row.nd rfl (Or.inl rfl))
   (pss_cons (ps_set (i := 0) sc__law_row.nd rfl (Or.inl rfl) (pe_call G_law_next (hr.mono (by decide)) (by rfl) T.g__law_next T.F__law_next.kp T.b__law_next .nil pass0 (pa_cons (pe_op op_add (pe_op op_mod (pv 0) pe_int) (pe_op op_mulW pe_int (pv 5))) pa_nil)))
   (pss_cons (ps_set (i := 6) sc__law_row.nd rfl (Or.inl rfl) (pe_op op_sub (pe_op op_mod (pe_op op_fdiv (pv 0) pe_int) pe_int) pe_int))
   (pss_cons (ps_if (pt_cmpR op_eq (pe_op op_mod (pe_op op_fdiv (pv 2) pe_int) pe_int) pe_int (nomark _))
    (pss_one (ps_set (i := 6) sc__law_row.nd rfl (Or.inl rfl) (pe_op op_add (pe_op op_mulW (pv 6) (pv 3)) (pe_op op_mulW (pe_op op_sub pe_int (pe_op op_mulW pe_int (pe_callTy call_int1 (by rfl) T.int (by decide +kernel) (pa_cons (pe_cmpR op_lt (pv 6) pe_int (nomark _)) pa_nil)))) (pe_op op_mod (pe_op op_fdiv (pv 0) pe_int) (pv 3))))))
    pss_nil)
   (pss_cons (ps_if (pt_cmpR op_eq (pe_op op_mod (pv 2) pe_int) pe_int (nomark _))
    (pss_one (ps_set (i := 6) sc__law_row.nd rfl (Or.inl rfl) (pe_op op_sub pe_int (pe_op op_mulW pe_int (pe_op op_mod (pe_op op_fdiv (pv 0) pe_int) pe_int)))))
    pss_nil)
   (pss_cons (ps_if (pt_cmpR op_eq (pe_op op_mod (pv 2) pe_int) pe_int (nomark _))
    (pss_one (ps_set (i := 6) sc__law_row.nd rfl (Or.inl rfl) (pe_op op_sub (pe_op op_mod (pe_op op_fdiv (pv 0) pe_int) pe_int) pe_int)))
    pss_nil)
   (pss_cons (ps_if (PW.pt (pw_and (pt_cmpR op_eq (pe_op op_mod (pv 2) pe_int) pe_int (nomark _)) (pw_and1 (pt_cmpR op_gt (pe_op op_mod (pe_op op_fdiv (pv 0) pe_int) pe_int) pe_int (nomark _)))))
    (pss_one (ps_set (i := 6) sc__law_row.nd rfl (Or.inl rfl) pe_int))
    pss_nil)
   (pss_one (ps_expr (pe_bm PySem.F.plainAttrs_list PySem.F.slot_list_append PySem.F.type_list_append mt_append (pv 4) (pa_cons (pv 6) pa_nil)))))))))))
  (pss_one (ps_ret (pv 4)))))
theorem ok_law_text (T : Txt K mg) : FnOk P w K mg base CX0 1 (He.ga K "_law_text") T.d__law_text ["row"] (sp_law_text K) := by
  refine T.F__law_text.ok sc__law_text len_law_text (fun cdv A outer s H vs Q E hr h => ⟨t_law_text K, ?_, pure_law_text vs H Q E h⟩)
  exact (pss_cons (ps_set (i := 1) sc__law_text.nd rfl (Or.inl rfl) pe_str)
  (pss_cons (ps_for PassesOwn.never rfl (pi_list (pv 0)) (pg_name (i := 2) sc__law_text.nd rfl (Or.inl rfl))
   (pss_one (ps_set (i := 1) sc__law_text.nd rfl (Or.inl rfl) (pe_op op_add_str (pe_op op_add_str (pv 1) pe_str) (pe_callTy call_str_int (by rfl) T.str (by decide +kernel) (pa_cons (pv 2) pa_nil))))))
  (pss_one (ps_ret (pe_slice sl_str (pv 1) (po_some pe_int) po_none)))))
theorem ok_law_kind (T : Txt K mg) : FnP P w K mg base 1 (He.ga K "_law_kind") T.d__law_kind "e" (KindR K) := by
  refine fun_okP T.F__law_kind sc__law_kind fun cdv A outer s H Q E p D t hz hf h q => ?_
  obtain ⟨c, hc, rfl⟩ := h
  refine ⟨t_law_kind K (He.ga K c) p.1, ?_, pure_law_kind T.kinds c p.1 t hc H Q E q⟩
  exact (pss_cons (ps_set (i := 1) sc__law_kind.nd rfl (Or.inl rfl) (pe_lst (pa_cons (pe_callB (call_isP (T.kinds.ex _ hc) List.mem_cons_self hz hf) (by rfl) T.isinstance (by decide +kernel) (pa_cons (pv 0) (pa_cons (pe_glob (v := .ref (He.ga K "NoRow")) (by rfl) T.m_NoRow rfl) pa_nil))) (pa_cons (pe_callB (call_isP (T.kinds.ex _ hc) List.mem_cons_self hz hf) (by rfl) T.isinstance (by decide +kernel) (pa_cons (pv 0) (pa_cons (pe_glob (v := .ref (He.ga K "NoSums")) (by rfl) T.m_NoSums rfl) pa_nil))) (pa_cons (pe_callB (call_isP (T.kinds.ex _ hc) List.mem_cons_self hz hf) (by rfl) T.isinstance (by decide +kernel) (pa_cons (pv 0) (pa_cons (pe_glob (v := .ref (He.ga K "NoMatch")) (by rfl) T.m_NoMatch rfl) pa_nil))) (pa_cons (pe_callB (call_isP (T.kinds.ex _ hc) List.mem_cons_self hz hf) (by rfl) T.isinstance (by decide +kernel) (pa_cons (pv 0) (pa_cons (pe_glob (v := .ref (He.ga K "TooLong")) (by rfl) T.m_TooLong rfl) pa_nil))) pa_nil))))))
  (pss_cons (ps_set (i := 1) sc__law_kind.nd rfl (Or.inl rfl) (pe_op op_cat (pv 1) (pe_lst (pa_cons (pe_callB (call_isP (T.kinds.ex _ hc) List.mem_cons_self hz hf) (by rfl) T.isinstance (by decide +kernel) (pa_cons (pv 0) (pa_cons (pe_glob (v := .ref (He.ga K "NoStep")) (by rfl) T.m_NoStep rfl) pa_nil))) (pa_cons (pe_callB (call_isP (T.kinds.ex _ hc) List.mem_cons_self hz hf) (by rfl) T.isinstance (by decide +kernel) (pa_cons (pv 0) (pa_cons (pe_glob (v := .ref (He.ga K "NoSigns")) (by rfl) T.m_NoSigns rfl) pa_nil))) (pa_cons (pe_callB (call_isP (T.kinds.ex _ hc) List.mem_cons_self hz hf) (by rfl) T.isinstance (by decide +kernel) (pa_cons (pv 0) (pa_cons (pe_glob (v := .ref (He.ga K "NoChoice")) (by rfl) T.m_NoChoice rfl) pa_nil))) (pa_cons (pe_callB (call_isP (T.kinds.ex _ hc) List.mem_cons_self hz hf) (by rfl) T.isinstance (by decide +kernel) (pa_cons (pv 0) (pa_cons (pe_glob (v := .ref (He.ga K "NoFlat")) (by rfl) T.m_NoFlat rfl) pa_nil))) pa_nil)))))))
  (pss_cons (ps_expr (pe_bm PySem.F.plainAttrs_list PySem.F.slot_list_append PySem.F.type_list_append mt_append (pv 1) (pa_cons (pe_callB (call_isP (T.kinds.ex _ hc) List.mem_cons_self hz hf) (by rfl) T.isinstance (by decide +kernel) (pa_cons (pv 0) (pa_cons (pe_glob (v := .ref (He.ga K "NoNote")) (by rfl) T.m_NoNote rfl) pa_nil))) pa_nil)))
  (pss_cons (ps_if (PW.pt (pw_or (pt_not (pt_val (pe_callB (call_isP (T.kinds.ex _ hc) List.mem_cons_self hz hf) (by rfl) T.isinstance (by decide +kernel) (pa_cons (pv 0) (pa_cons (pe_bltn (v := .ty "ValueError") (by rfl) T.ValueError (by decide +kernel) rfl) pa_nil))))) (pw_or1 (pt_cmpR op_ne (pe_bm PySem.F.plainAttrs_list PySem.F.slot_list_count PySem.F.type_list_count mt_countV (pv 1) (pa_cons pe_bl pa_nil)) pe_int (nomark _)))))
   (pss_one (ps_ret pe_str))
   pss_nil)
  (pss_one (ps_ret (pe_ix ix_list (pe_lst (pa_cons pe_str (pa_cons pe_str (pa_cons pe_str (pa_cons pe_str (pa_cons pe_str (pa_cons pe_str (pa_cons pe_str (pa_cons pe_str (pa_cons pe_str pa_nil)))))))))) (pe_bm PySem.F.plainAttrs_list PySem.F.slot_list_index PySem.F.type_list_index mt_index (pv 1) (pa_cons pe_bl pa_nil)) (fun _ _ => rfl))))))))
theorem ok_law_tried (T : Txt K mg) (G_read : FnOk P w K mg base (L2.CX P w) 2 (He.ga K "read") T.d_read ["text"] (sp_read K)) (G_law_kind : FnP P w K mg base 1 (He.ga K "_law_kind") T.d__law_kind "e" (KindR K)) : FnOk P w K mg base CX0 3 (He.ga K "_law_tried") T.d__law_tried ["text"] (sp_law_tried K) := by
  refine T.F__law_tried.ok sc__law_tried len_law_tried (fun cdv A outer s H vs Q E hr h => ⟨t_law_tried K, ?_, pure_law_tried T.c_NoNote vs H Q E h⟩)
  exact (pss_cons (ps_try_as (i := 1) (tb := (fun W => (tDrop (tCallS (sp_read K) (WE W) (tCons (tVar 0) tNil))))) (ts := (fun a cls d => (tRet (tCallP a cls d (KindR K) (tCons (tVar 1) tNil))))) (Wout := fun _ _ _ _ => False) rfl rfl sc__law_tried.nd rfl rfl ⟨rfl, by decide, .inl T.m_SignError⟩ takes0
   (fun W pn xe tk _ => (pss_one (ps_expr (pe_callS G_read (hr.mono (by decide)) (by rfl) T.g_read T.F_read.kp T.b_read (fun σ => passAt tk σ) (pa_cons (pv 0) pa_nil)))))
   (fun a oe cls d pn hz hf => (pss_one (ps_ret (pe_callP (p := (a, oe)) List.mem_cons_self hz hf G_law_kind (roomP hr (by decide)) (by rfl) T.g__law_kind T.F__law_kind.kp T.b__law_kind (pa_cons (pv 1) pa_nil))))))
  (pss_one (ps_ret pe_str)))
theorem ok_law_spoiled (T : Txt K mg) (G_law_text : FnOk P w K mg base CX0 1 (He.ga K "_law_text") T.d__law_text ["row"] (sp_law_text K)) : FnOk P w K mg base CX0 2 (He.ga K "_law_spoiled") T.d__law_spoiled ["row", "way", "cell"] (sp_law_spoiled K) := by
  refine T.F__law_spoiled.ok sc__law_spoiled len_law_spoiled (fun cdv A outer s H vs Q E hr h => ⟨t_law_spoiled K, ?_, pure_law_spoiled vs H Q E h⟩)
  exact (pss_cons (ps_setLc (i := 3) (own := [("number", 7)]) (g := (gName 7)) (tt := tYes) rfl sc__law_spoiled.nd rfl rfl (sw_true rfl rfl rfl (by decide +kernel)) (pi_list (pv 0)) (blkOk_by (own := [("number", 7)]) (N := N__law_spoiled) (sc := defScope s__law_spoiled) (by decide +kernel)) (fun _ _ _ _ _ => pg_name (i := 7) sc__law_spoiled.nd rfl (Or.inl rfl)) (fun _ _ _ _ _ => pts_nil) (fun _ _ _ _ _ => (pe_callTy call_str_int (by rfl) T.str (by decide +kernel) (pa_cons (pv 7) pa_nil))))
  (pss_cons (ps_set (i := 4) sc__law_spoiled.nd rfl (Or.inl rfl) (pe_call G_law_text (hr.mono (by decide)) (by rfl) T.g__law_text T.F__law_text.kp T.b__law_text .nil pass0 (pa_cons (pv 0) pa_nil)))
  (pss_cons (ps_set (i := 5) sc__law_spoiled.nd rfl (Or.inl rfl) (pe_op op_mod (pv 2) (pe_callB call_len_seq (by rfl) T.len PySem.boot_len (pa_cons (pv 3) pa_nil))))
  (pss_tokIf op_eq (pv 1)
   (PSsT.of (pss_cons (ps_set (i := 6) sc__law_spoiled.nd rfl (Or.inl rfl) (pe_lst (pa_cons (pe_callTy call_str_int (by rfl) T.str (by decide +kernel) (pa_cons (pe_op op_add (pe_op op_pow pe_int pe_int) pe_int) pa_nil)) (pa_cons (pe_op op_add_str pe_str (pe_callTy call_str_int (by rfl) T.str (by decide +kernel) (pa_cons (pe_op op_add (pe_op op_pow pe_int pe_int) pe_int) pa_nil))) (pa_cons pe_str (pa_cons pe_str (pa_cons pe_str (pa_cons pe_str (pa_cons pe_str (pa_cons pe_str pa_nil))))))))))
   (pss_cons (ps_set (i := 6) sc__law_spoiled.nd rfl (Or.inl rfl) (pe_op op_cat (pv 6) (pe_lst (pa_cons pe_str (pa_cons pe_str (pa_cons pe_str (pa_cons pe_str (pa_cons pe_str (pa_cons pe_str (pa_cons pe_str (pa_cons pe_str pa_nil)))))))))))
   (pss_cons (ps_asg (pe_ix ix_list (pv 6) (pe_op op_mod (pe_op op_fdiv (pv 2) pe_int) pe_int) (fun _ _ => rfl)) (pg_sub (pv 3) (pv 5) set_list))
   (pss_one (ps_ret (pe_join pe_str (pv 3))))))))
   CwR.psst_nil
   (psst_cons (PST.of (ps_if (pt_cmpR op_eq (pv 1) pe_int (nomark _))
   (pss_one (ps_ret (pe_ix ix_list (pe_lst (pa_cons (pe_op op_add_str pe_str (pv 4)) (pa_cons (pe_op op_add_str (pv 4) pe_str) (pa_cons (pe_op op_add_str (pv 4) pe_str) (pa_cons (pe_op op_add_str pe_str (pv 4)) (pa_cons (pe_op op_add_str (pv 4) pe_str) (pa_cons (pe_op op_add_str pe_str (pv 4)) pa_nil))))))) (pe_op op_mod (pe_op op_fdiv (pv 2) pe_int) pe_int) (fun _ _ => rfl))))
   pss_nil))
   (psst_cons (CwR.pst_if (PW.pt (pw_and (pt_cmpR op_eq (pv 1) pe_int (nomark _)) (pw_and1 (pt_cmpR op_gt (pe_callB call_len_seq (by rfl) T.len PySem.boot_len (pa_cons (pv 0) pa_nil)) pe_int (nomark _)))))
   (CwR.psst_one (CwR.pst_ret (pet_replI (pv 4) (pe_op op_mod (pe_op op_fdiv (pv 2) pe_int) pe_int) (by decide +kernel) (fun _ _ => rfl))))
   CwR.psst_nil)
   (psst_cons (PST.of (ps_if (PW.pt (pw_and (pt_cmpR op_eq (pv 1) pe_int (nomark _)) (pw_and1 (pt_cmpR op_gt (pe_callB call_len_seq (by rfl) T.len PySem.boot_len (pa_cons (pv 0) pa_nil)) pe_int (nomark _)))))
   (pss_one (ps_ret (pe_ix ix_list (pe_lst (pa_cons (pe_op op_add_str (pv 4) pe_str) (pa_cons (pe_join pe_str (pe_slice sl_list (pv 3) (po_some pe_int) po_none)) (pa_cons (pe_join pe_str (pe_op op_cat (pe_slice sl_list (pv 3) po_none (po_some (pv 5))) (pe_slice sl_list (pv 3) (po_some (pe_op op_add (pv 5) pe_int)) po_none))) pa_nil)))) (pe_op op_mod (pe_op op_fdiv (pv 2) pe_int) pe_int) (fun _ _ => rfl))))
   pss_nil))
   (PSsT.of (pss_one (ps_ret (pe_ix ix_list (pe_lst (pa_cons pe_str (pa_cons pe_str (pa_cons pe_str (pa_cons pe_str (pa_cons pe_str (pa_cons pe_str (pa_cons pe_str (pa_cons pe_str (pa_cons pe_str pa_nil)))))))))) (pe_op op_mod (pe_op op_fdiv (pv 2) pe_int) pe_int) (fun _ _ => rfl)))))))) (nomark _)))))
theorem ok_law (T : Txt K mg) (G_law_row : FnOk P w K mg base CX0 2 (He.ga K "_law_row") T.d__law_row ["cell", "steps", "way", "great"] (sp_law_row K)) (G_law_spoiled : FnOk P w K mg base CX0 2 (He.ga K "_law_spoiled") T.d__law_spoiled ["row", "way", "cell"] (sp_law_spoiled K)) (G_law_cell_at : FnOk P w K mg base CX0 1 (He.ga K "_law_cell_at") T.d__law_cell_at ["script", "k"] (sp_law_cell_at K)) (G_law_tried : FnOk P w K mg base CX0 3 (He.ga K "_law_tried") T.d__law_tried ["text"] (sp_law_tried K)) (G_law_text : FnOk P w K mg base CX0 1 (He.ga K "_law_text") T.d__law_text ["row"] (sp_law_text K)) : FnOk P w K mg base CX0 4 (He.ga K "law") T.d_law ["script"] (sp_law K) := by
  refine T.F_law.ok sc_law len_law (fun cdv A outer s H vs Q E hr h => ⟨t_law K, ?_, pure_law vs H Q E h⟩)
  exact (pss_cons (ps_set (i := 1) sc_law.nd rfl (Or.inl rfl) (pe_call G_law_row (hr.mono (by decide)) (by rfl) T.g__law_row T.F__law_row.kp T.b__law_row .nil pass0 (pa_cons (pe_call G_law_cell_at (hr.mono (by decide)) (by rfl) T.g__law_cell_at T.F__law_cell_at.kp T.b__law_cell_at .nil pass0 (pa_cons (pv 0) (pa_cons pe_int pa_nil))) (pa_cons (pe_op op_mod (pe_call G_law_cell_at (hr.mono (by decide)) (by rfl) T.g__law_cell_at T.F__law_cell_at.kp T.b__law_cell_at .nil pass0 (pa_cons (pv 0) (pa_cons pe_int pa_nil))) pe_int) (pa_cons (pe_call G_law_cell_at (hr.mono (by decide)) (by rfl) T.g__law_cell_at T.F__law_cell_at.kp T.b__law_cell_at .nil pass0 (pa_cons (pv 0) (pa_cons pe_int pa_nil))) (pa_cons (pe_op op_mulW pe_int (pe_op op_pow pe_int pe_int)) pa_nil))))))
  (pss_cons (ps_set (i := 2) sc_law.nd rfl (Or.inl rfl) (pe_call G_law_spoiled (hr.mono (by decide)) (by rfl) T.g__law_spoiled T.F__law_spoiled.kp T.b__law_spoiled .nil pass0 (pa_cons (pv 1) (pa_cons (pe_op op_mod (pe_call G_law_cell_at (hr.mono (by decide)) (by rfl) T.g__law_cell_at T.F__law_cell_at.kp T.b__law_cell_at .nil pass0 (pa_cons (pv 0) (pa_cons pe_int pa_nil))) pe_int) (pa_cons (pe_op op_mod (pe_call G_law_cell_at (hr.mono (by decide)) (by rfl) T.g__law_cell_at T.F__law_cell_at.kp T.b__law_cell_at .nil pass0 (pa_cons (pv 0) (pa_cons pe_int pa_nil))) pe_int) pa_nil)))))
  (pss_cons (ps_if (PW.pt (pw_or (pt_cmpR op_ne (pe_call G_law_tried (hr.mono (by decide)) (by rfl) T.g__law_tried T.F__law_tried.kp T.b__law_tried .nil pass0 (pa_cons (pv 2) pa_nil)) pe_str (nomark _)) (pw_or1 (pt_cmpR op_ne (pe_call G_law_tried (hr.mono (by decide)) (by rfl) T.g__law_tried T.F__law_tried.kp T.b__law_tried .nil pass0 (pa_cons (pv 2) pa_nil)) pe_str (nomark _)))))
   (pss_one (ps_ret pe_bl))
   pss_nil)
  (pss_one (ps_ret (pe_cmpR op_eq (pe_call G_law_tried (hr.mono (by decide)) (by rfl) T.g__law_tried T.F__law_tried.kp T.b__law_tried .nil pass0 (pa_cons (pe_call G_law_text (hr.mono (by decide)) (by rfl) T.g__law_text T.F__law_text.kp T.b__law_text .nil pass0 (pa_cons (pv 1) pa_nil)) pa_nil)) pe_str (nomark _)))))))
end
end Sg
namespace Sg
open PySem PySem.Spec PyProof.Rows L2
/-! ### the head: what is looked at behind the top -/
/-- a def without defaults, from the head's facts -/
theorem fun_of {K : PySem.W.Frag} {x : Str} {st : Stmt} {f : Addr} {fd : FuncData} (F : FunD K x x (defArgs st) (defBody st) (defScope st) [] [] f fd) : Fun K x x st f fd := by
  obtain ⟨oc, od, dV, kV, doc, pm, an, cdv, ct, osl, e, lk, hc, hD, hK⟩ := F.ex
  rcases hD with ⟨_, e0⟩ | ⟨e0, _⟩
  · subst e0
    exact ⟨⟨oc, od, kV, doc, pm, an, cdv, ct, osl, e, lk, hc⟩, F.kp⟩
  · exact absurd rfl e0
abbrev AlE : Type := He.AlD × Bool
def obsE (n : Nat) (fa : List He.Fa) (fn : List He.DefD) (ex : PySem.W.Frag → Bool) (g : Addr → Option Obj) : AlE :=
  (He.obsD fa fn (He.frG g (He.asD g n)), ex (He.frG g (He.asD g n)))
def SaysE (fa : List He.Fa) (fn : List He.DefD) (ex : PySem.W.Frag → Bool) (K : PySem.W.Frag) : Prop := He.SaysD fa fn K ∧ ex K = true
def hookE (n : Nat) (fa : List He.Fa) (fn : List He.DefD) (ex : PySem.W.Frag → Bool) : PySem.W.Hook where
  α := AlE
  obs := fun s => obsE n fa fn ex s.heap.get?
  val := fun _ => (He.valD fn, true)
  says := fun _ h => ∃ K : PySem.W.Frag, K.In h ∧ SaysE fa fn ex K
  of := fun _ _ e => ⟨_, He.frG_in, congrArg (fun z : AlE => z.1) e, congrArg (fun z : AlE => z.2) e⟩
  keeps := fun _ _ _ ⟨K, hK, c⟩ k => ⟨K, PySem.W.Frag.In.keeps hK k, c⟩
theorem obsE_eq {n : Nat} {fa : List He.Fa} {fn : List He.DefD} {ex : PySem.W.Frag → Bool} {g : Addr → Option Obj} {s : Shared} (h : ∀ a, g a = s.heap.get? a) : obsE n fa fn ex g = (hookE n fa fn ex).obs s := by
  rw [show g = s.heap.get? from funext h] <;> rfl
theorem xok_of {K : PySem.W.Frag} {x : Str} (c : (He.Fa.exc x).ok K = true) : XOk K (He.ga K x) := by
  obtain ⟨c1, c2⟩ := He.ba c
  obtain ⟨c3, c4⟩ := He.ba c2
  obtain ⟨c5, c6⟩ := He.ba c4
  exact ⟨c1, c3, of_decide_eq_true c5, of_decide_eq_true c6⟩
end Sg
namespace Sg
open PySem PySem.Spec PyProof.Rows L2
def D_ask_row : He.DefD := ⟨("ask_row", none), "ask_row", "ask_row", defArgs s_ask_row, defBody s_ask_row, defScope s_ask_row, [], []⟩
def D_number_of : He.DefD := ⟨("number_of", none), "number_of", "number_of", defArgs s_number_of, defBody s_number_of, defScope s_number_of, [], []⟩
def D_read : He.DefD := ⟨("read", none), "read", "read", defArgs s_read, defBody s_read, defScope s_read, [], []⟩
def D__law_cell_at : He.DefD := ⟨("_law_cell_at", none), "_law_cell_at", "_law_cell_at", defArgs s__law_cell_at, defBody s__law_cell_at, defScope s__law_cell_at, [], []⟩
def D__law_next : He.DefD := ⟨("_law_next", none), "_law_next", "_law_next", defArgs s__law_next, defBody s__law_next, defScope s__law_next, [], []⟩
def D__law_row : He.DefD := ⟨("_law_row", none), "_law_row", "_law_row", defArgs s__law_row, defBody s__law_row, defScope s__law_row, [], []⟩
def D__law_text : He.DefD := ⟨("_law_text", none), "_law_text", "_law_text", defArgs s__law_text, defBody s__law_text, defScope s__law_text, [], []⟩
def D__law_kind : He.DefD := ⟨("_law_kind", none), "_law_kind", "_law_kind", defArgs s__law_kind, defBody s__law_kind, defScope s__law_kind, [], []⟩
def D__law_tried : He.DefD := ⟨("_law_tried", none), "_law_tried", "_law_tried", defArgs s__law_tried, defBody s__law_tried, defScope s__law_tried, [], []⟩
def D__law_spoiled : He.DefD := ⟨("_law_spoiled", none), "_law_spoiled", "_law_spoiled", defArgs s__law_spoiled, defBody s__law_spoiled, defScope s__law_spoiled, [], []⟩
def D_law : He.DefD := ⟨("law", none), "law", "law", defArgs s_law, defBody s_law, defScope s_law, [], []⟩
def headFn : List He.DefD := [D_ask_row, D_number_of, D_read, D__law_cell_at, D__law_next, D__law_row, D__law_text, D__law_kind, D__law_tried, D__law_spoiled, D_law]
def headFa : List He.Fa := [.glo "ask_row", .glo "number_of", .glo "read", .glo "_law_cell_at", .glo "_law_next", .glo "_law_row", .glo "_law_text", .glo "_law_kind", .glo "_law_tried", .glo "_law_spoiled", .glo "law", .glo "SignError", .exc "SignError", .glo "NoRow", .exc "NoRow", .glo "NoSums", .exc "NoSums", .glo "NoMatch", .exc "NoMatch", .glo "TooLong", .exc "TooLong", .glo "NoStep", .exc "NoStep", .glo "NoSigns", .exc "NoSigns", .glo "NoChoice", .exc "NoChoice", .glo "NoFlat", .exc "NoFlat", .glo "NoNote", .exc "NoNote", .glo "LENGTHS", .int "MOST" 100000000000000000000, .str "FIGURES" "0123456789", .free "ValueError", .free "int", .free "isinstance", .free "len", .free "range", .free "str", .exm "NoRow" "SignError" true, .exm "NoSums" "SignError" true, .exm "NoMatch" "SignError" true, .exm "TooLong" "SignError" true, .exm "NoStep" "SignError" true, .exm "NoSigns" "SignError" true, .exm "NoChoice" "SignError" true, .exm "NoFlat" "SignError" true, .exm "NoNote" "SignError" true, .exm "NoRow" "NoRow" true]
def headEx (K : PySem.W.Frag) : Bool := (He.tupB K "LENGTHS" [.int (1), .int (2), .int (4), .int (8), .int (16), .int (32)]) && (kindsB K)
abbrev headR : PySem.W.OpenRow := PySem.W.OpenLaw.row PySem.Challenge.rw_signsums_k14_unread
abbrev headHk : PySem.W.Hook := hookE 4 headFa headFn headEx
def headOb (s : PySem.W.SharedT) : AlE := obsE 4 headFa headFn headEx (HandSHeadRun.getT s)
theorem headOb_eq (s : PySem.W.SharedT) : headOb s = headHk.obs s.abs := obsE_eq (HandSHeadRun.getT_eq s)
def headLooseA : List PySem.Str := ["SignError", "NoRow", "NoSums", "NoMatch", "TooLong", "NoStep", "NoSigns", "NoChoice", "NoFlat", "NoNote", "LENGTHS", "MOST", "ask_row", "FIGURES", "number_of", "read", "_law_cell_at", "_law_next", "_law_row", "_law_text", "_law_kind", "_law_tried", "_law_spoiled"]
def headLooseB : List PySem.Str := []
def headLoose : List PySem.Str := headLooseA ++ headLooseB
theorem headRun (w : World) : HandSHeadRun.RunEq headR (PySem.W.view headR.prog [27]) headHk headOb 3000 headLoose w := by
  intro os
  kernel_rfl
theorem head_txt {K : PySem.W.Frag} {h : Heap} {mg : Str → Option Value} (X : K.In h) (G : h.Ns mainGlobals mg) (c : SaysE headFa headFn headEx K) : Nonempty (Txt K mg) := by
  have fct : ∀ f : He.Fa, f ∈ headFa → f.ok K = true := fun f hf => by
    obtain ⟨i, hi⟩ := List.mem_iff_getElem?.mp hf
    exact c.1.fact i hi
  have hx := c.2
  unfold headEx at hx
  simp only [Bool.and_eq_true] at hx
  obtain ⟨d_ask_row, FD_ask_row⟩ := c.1.def_ 0 (d := D_ask_row) rfl
  have F_ask_row : Fun K "ask_row" "ask_row" s_ask_row (He.ga K "ask_row") d_ask_row := fun_of FD_ask_row
  obtain ⟨d_number_of, FD_number_of⟩ := c.1.def_ 1 (d := D_number_of) rfl
  have F_number_of : Fun K "number_of" "number_of" s_number_of (He.ga K "number_of") d_number_of := fun_of FD_number_of
  obtain ⟨d_read, FD_read⟩ := c.1.def_ 2 (d := D_read) rfl
  have F_read : Fun K "read" "read" s_read (He.ga K "read") d_read := fun_of FD_read
  obtain ⟨d__law_cell_at, FD__law_cell_at⟩ := c.1.def_ 3 (d := D__law_cell_at) rfl
  have F__law_cell_at : Fun K "_law_cell_at" "_law_cell_at" s__law_cell_at (He.ga K "_law_cell_at") d__law_cell_at := fun_of FD__law_cell_at
  obtain ⟨d__law_next, FD__law_next⟩ := c.1.def_ 4 (d := D__law_next) rfl
  have F__law_next : Fun K "_law_next" "_law_next" s__law_next (He.ga K "_law_next") d__law_next := fun_of FD__law_next
  obtain ⟨d__law_row, FD__law_row⟩ := c.1.def_ 5 (d := D__law_row) rfl
  have F__law_row : Fun K "_law_row" "_law_row" s__law_row (He.ga K "_law_row") d__law_row := fun_of FD__law_row
  obtain ⟨d__law_text, FD__law_text⟩ := c.1.def_ 6 (d := D__law_text) rfl
  have F__law_text : Fun K "_law_text" "_law_text" s__law_text (He.ga K "_law_text") d__law_text := fun_of FD__law_text
  obtain ⟨d__law_kind, FD__law_kind⟩ := c.1.def_ 7 (d := D__law_kind) rfl
  have F__law_kind : Fun K "_law_kind" "_law_kind" s__law_kind (He.ga K "_law_kind") d__law_kind := fun_of FD__law_kind
  obtain ⟨d__law_tried, FD__law_tried⟩ := c.1.def_ 8 (d := D__law_tried) rfl
  have F__law_tried : Fun K "_law_tried" "_law_tried" s__law_tried (He.ga K "_law_tried") d__law_tried := fun_of FD__law_tried
  obtain ⟨d__law_spoiled, FD__law_spoiled⟩ := c.1.def_ 9 (d := D__law_spoiled) rfl
  have F__law_spoiled : Fun K "_law_spoiled" "_law_spoiled" s__law_spoiled (He.ga K "_law_spoiled") d__law_spoiled := fun_of FD__law_spoiled
  obtain ⟨d_law, FD_law⟩ := c.1.def_ 10 (d := D_law) rfl
  have F_law : Fun K "law" "law" s_law (He.ga K "law") d_law := fun_of FD_law
  exact ⟨{
    ValueError := He.free_ok X G (c.1.fact 34 (f := .free "ValueError") rfl)
    int := He.free_ok X G (c.1.fact 35 (f := .free "int") rfl)
    isinstance := He.free_ok X G (c.1.fact 36 (f := .free "isinstance") rfl)
    len := He.free_ok X G (c.1.fact 37 (f := .free "len") rfl)
    range := He.free_ok X G (c.1.fact 38 (f := .free "range") rfl)
    str := He.free_ok X G (c.1.fact 39 (f := .free "str") rfl)
    m_SignError := He.glo_ok X G (c.1.fact 11 (f := .glo "SignError") rfl)
    x_SignError := xok_of (c.1.fact 12 (f := .exc "SignError") rfl)
    m_NoRow := He.glo_ok X G (c.1.fact 13 (f := .glo "NoRow") rfl)
    x_NoRow := xok_of (c.1.fact 14 (f := .exc "NoRow") rfl)
    m_NoSums := He.glo_ok X G (c.1.fact 15 (f := .glo "NoSums") rfl)
    x_NoSums := xok_of (c.1.fact 16 (f := .exc "NoSums") rfl)
    m_NoMatch := He.glo_ok X G (c.1.fact 17 (f := .glo "NoMatch") rfl)
    x_NoMatch := xok_of (c.1.fact 18 (f := .exc "NoMatch") rfl)
    m_TooLong := He.glo_ok X G (c.1.fact 19 (f := .glo "TooLong") rfl)
    x_TooLong := xok_of (c.1.fact 20 (f := .exc "TooLong") rfl)
    m_NoStep := He.glo_ok X G (c.1.fact 21 (f := .glo "NoStep") rfl)
    x_NoStep := xok_of (c.1.fact 22 (f := .exc "NoStep") rfl)
    m_NoSigns := He.glo_ok X G (c.1.fact 23 (f := .glo "NoSigns") rfl)
    x_NoSigns := xok_of (c.1.fact 24 (f := .exc "NoSigns") rfl)
    m_NoChoice := He.glo_ok X G (c.1.fact 25 (f := .glo "NoChoice") rfl)
    x_NoChoice := xok_of (c.1.fact 26 (f := .exc "NoChoice") rfl)
    m_NoFlat := He.glo_ok X G (c.1.fact 27 (f := .glo "NoFlat") rfl)
    x_NoFlat := xok_of (c.1.fact 28 (f := .exc "NoFlat") rfl)
    m_NoNote := He.glo_ok X G (c.1.fact 29 (f := .glo "NoNote") rfl)
    x_NoNote := xok_of (c.1.fact 30 (f := .exc "NoNote") rfl)
    m_LENGTHS := He.glo_ok X G (c.1.fact 31 (f := .glo "LENGTHS") rfl)
    v_LENGTHS := fun H => He.tupB_ok hx.1 H
    m_MOST := He.int_ok X G (c.1.fact 32 (f := .int "MOST" 100000000000000000000) rfl)
    m_FIGURES := He.str_ok X G (c.1.fact 33 (f := .str "FIGURES" "0123456789") rfl)
    d_ask_row := d_ask_row
    g_ask_row := He.glo_ok X G (c.1.fact 0 (f := .glo "ask_row") rfl)
    F_ask_row := F_ask_row
    b_ask_row := F_ask_row.binds fun _ _ _ _ _ _ us hl => match us, hl with | [_], _ => rfl
    d_number_of := d_number_of
    g_number_of := He.glo_ok X G (c.1.fact 1 (f := .glo "number_of") rfl)
    F_number_of := F_number_of
    b_number_of := F_number_of.binds fun _ _ _ _ _ _ us hl => match us, hl with | [_], _ => rfl
    d_read := d_read
    g_read := He.glo_ok X G (c.1.fact 2 (f := .glo "read") rfl)
    F_read := F_read
    b_read := F_read.binds fun _ _ _ _ _ _ us hl => match us, hl with | [_], _ => rfl
    d__law_cell_at := d__law_cell_at
    g__law_cell_at := He.glo_ok X G (c.1.fact 3 (f := .glo "_law_cell_at") rfl)
    F__law_cell_at := F__law_cell_at
    b__law_cell_at := F__law_cell_at.binds fun _ _ _ _ _ _ us hl => match us, hl with | [_, _], _ => rfl
    d__law_next := d__law_next
    g__law_next := He.glo_ok X G (c.1.fact 4 (f := .glo "_law_next") rfl)
    F__law_next := F__law_next
    b__law_next := F__law_next.binds fun _ _ _ _ _ _ us hl => match us, hl with | [_], _ => rfl
    d__law_row := d__law_row
    g__law_row := He.glo_ok X G (c.1.fact 5 (f := .glo "_law_row") rfl)
    F__law_row := F__law_row
    b__law_row := F__law_row.binds fun _ _ _ _ _ _ us hl => match us, hl with | [_, _, _, _], _ => rfl
    d__law_text := d__law_text
    g__law_text := He.glo_ok X G (c.1.fact 6 (f := .glo "_law_text") rfl)
    F__law_text := F__law_text
    b__law_text := F__law_text.binds fun _ _ _ _ _ _ us hl => match us, hl with | [_], _ => rfl
    d__law_kind := d__law_kind
    g__law_kind := He.glo_ok X G (c.1.fact 7 (f := .glo "_law_kind") rfl)
    F__law_kind := F__law_kind
    b__law_kind := F__law_kind.binds fun _ _ _ _ _ _ us hl => match us, hl with | [_], _ => rfl
    d__law_tried := d__law_tried
    g__law_tried := He.glo_ok X G (c.1.fact 8 (f := .glo "_law_tried") rfl)
    F__law_tried := F__law_tried
    b__law_tried := F__law_tried.binds fun _ _ _ _ _ _ us hl => match us, hl with | [_], _ => rfl
    d__law_spoiled := d__law_spoiled
    g__law_spoiled := He.glo_ok X G (c.1.fact 9 (f := .glo "_law_spoiled") rfl)
    F__law_spoiled := F__law_spoiled
    b__law_spoiled := F__law_spoiled.binds fun _ _ _ _ _ _ us hl => match us, hl with | [_, _, _], _ => rfl
    d_law := d_law
    g_law := He.glo_ok X G (c.1.fact 10 (f := .glo "law") rfl)
    F_law := F_law
    b_law := F_law.binds fun _ _ _ _ _ _ us hl => match us, hl with | [_], _ => rfl
    kinds := kindsB_ok hx.2
    e_NoRow := He.exm_ok (c.1.fact 49 (f := .exm "NoRow" "NoRow" true) rfl)
    c_NoRow := He.exm_ok (c.1.fact 40 (f := .exm "NoRow" "SignError" true) rfl)
    c_NoSums := He.exm_ok (c.1.fact 41 (f := .exm "NoSums" "SignError" true) rfl)
    c_NoMatch := He.exm_ok (c.1.fact 42 (f := .exm "NoMatch" "SignError" true) rfl)
    c_TooLong := He.exm_ok (c.1.fact 43 (f := .exm "TooLong" "SignError" true) rfl)
    c_NoStep := He.exm_ok (c.1.fact 44 (f := .exm "NoStep" "SignError" true) rfl)
    c_NoSigns := He.exm_ok (c.1.fact 45 (f := .exm "NoSigns" "SignError" true) rfl)
    c_NoChoice := He.exm_ok (c.1.fact 46 (f := .exm "NoChoice" "SignError" true) rfl)
    c_NoFlat := He.exm_ok (c.1.fact 47 (f := .exm "NoFlat" "SignError" true) rfl)
    c_NoNote := He.exm_ok (c.1.fact 48 (f := .exm "NoNote" "SignError" true) rfl) }⟩
end Sg
namespace Sg
open PySem PySem.Spec PyProof.Rows L2 Evl
section
variable {P : Program} {w : World} {K : PySem.W.Frag} {mg : Str → Option Value} {base : Heap}
theorem law_binds (T : Txt K mg) (s : Shared) (u : Value) : BindsTo s T.d_law ⟨[u], []⟩ [("script", u)] := by
  obtain ⟨oc, od, kV, doc, pm, an, cdv, ct, osl, e, _, _⟩ := T.F_law.ex
  rw [e]
  exact .of_eq rfl
theorem all_ok (T : Txt K mg) : FnOk P w K mg base CX0 4 (He.ga K "law") T.d_law ["script"] (sp_law K) := by
  have G_ask_row := ok_ask_row (P := P) (w := w) (base := base) T
  have G_number_of := ok_number_of (P := P) (w := w) (base := base) T
  have G_law_cell_at := ok_law_cell_at (P := P) (w := w) (base := base) T
  have G_law_next := ok_law_next (P := P) (w := w) (base := base) T
  have G_law_text := ok_law_text (P := P) (w := w) (base := base) T
  have G_law_kind := ok_law_kind (P := P) (w := w) (base := base) T
  have G_read := ok_read (P := P) (w := w) (base := base) T G_number_of G_ask_row
  have G_law_row := ok_law_row (P := P) (w := w) (base := base) T G_law_next
  have G_law_spoiled := ok_law_spoiled (P := P) (w := w) (base := base) T G_law_text
  have G_law_tried := ok_law_tried (P := P) (w := w) (base := base) T G_read G_law_kind
  have G_law := ok_law (P := P) (w := w) (base := base) T G_law_row G_law_spoiled G_law_cell_at G_law_tried G_law_text
  exact G_law
end
end Sg
open PySem PySem.W PySem.Calls PyProof.Rows
set_option maxHeartbeats 0 in
theorem PySem.Challenge.cw_signsums_k14_unread_holds : PySem.Challenge.rw_signsums_k14_unread.Holds := by
  w_on; o_law
  refine HandSHeadRun.head_any (r := OpenLaw.row PySem.Challenge.rw_signsums_k14_unread) (q := view (OpenLaw.row PySem.Challenge.rw_signsums_k14_unread).prog [27]) (H := Sg.headHk) (ob := Sg.headOb) (M := 3000) (loose := Sg.headLoose) (d := HandSHeadRun.topDef (OpenLaw.row PySem.Challenge.rw_signsums_k14_unread).prog 27) (kwd := []) Sg.headOb_eq
    (by kernel_rfl) (fun s => by kernel_rfl) Sg.headRun (by kernel_rfl) (by kernel_rfl) (by kernel_rfl) (by rfl) (by first | assumption | decide +kernel) (by decide +kernel) ⟨rfl, rfl, rfl, rfl, rfl, by decide +kernel⟩ ?hw ?hc
  case hw => w_witness2
  case hc =>
    refine L2.walk_ofE (l := PySem.Challenge.rw_signsums_k14_unread) (n := 63) (k := 4) (x := "script") (CX := L2.CX0) rfl (by decide) (by kernel_rfl) ⟨rfl, by decide, by decide⟩ ?F (fun _ _ _ _ z => z)
    intro w mg fa h Y G hmg0
    obtain ⟨K, KX, c⟩ := Y
    obtain ⟨T⟩ := Sg.head_txt KX G c
    have hmg : mg ("law" : PySem.Str) = some (.ref fa) := by
      have e : (HandSHeadRun.topDef (OpenLaw.row PySem.Challenge.rw_signsums_k14_unread).prog 27).name = ("law" : PySem.Str) := by kernel_rfl
      rw [← e]
      exact hmg0
    have ea := T.g_law.symm.trans hmg
    cases ea
    have b := T.b_law
    exact ⟨K, T.d_law, Sg.sp_law K, KX, Sg.law_binds T, fun H a ns hl _ hS => ⟨a, ns, rfl, hS, hl, fun _ => rfl⟩, fun base _ _ => Sg.all_ok T⟩

