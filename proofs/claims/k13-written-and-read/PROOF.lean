import PyProof.Rows.All
import Wide.All
import OpenK.AllK
import Wide.FinOn
import Lean
import KE.KIsAll
import HandS.ForMost
import HandS.ForExc
import HandS.Evl
import HandS.Wide
import HandS.IsInst
import HandS.ExcIs
import HandS.Zip
import HandS.Conv
import HandS.Defaults
import HandS.HotCalls
import HandS.SuiteRaise
import HandS.Walk
import HandS.Head0
import HandS.Head1
import HandS.Head2
import HandS.HeadEnd
import HandS.HeadHook1
import HandS.HeadHook2
import PySem.Challenge.RW_signsums_k13_written_and_read
set_option Elab.async false
set_option linter.all false
set_option maxRecDepth 100000
set_option maxHeartbeats 4000000
namespace Sg
open PySem PySem.Spec PyProof.Rows L2 Evl
/-! ### the readings' short names -/
abbrev rAddI : R2 := rI0 fun i j => .int (i + j)
abbrev rSubI : R2 := rI0 fun i j => .int (i - j)
abbrev rMulI : R2 := rI CMulW fun i j => .int (i * j)
abbrev rModI : R2 := rI (fun _ j => 0 < j) fun i j => .int (i % j)
abbrev rDivI : R2 := rI CDiv fun i j => .int (i / j)
abbrev rPowI : R2 := rI CPow fun i j => .int (i ^ j.toNat)
abbrev rNegI : V → Hp → VK → Prop := rU fun i => .int (-i)
abbrev rLtI : R2 := rI0 fun i j => .bl (decide (i < j))
abbrev rLeI : R2 := rI0 fun i j => .bl (decide (i ≤ j))
abbrev rGtI : R2 := rI0 fun i j => .bl (decide (j < i))
abbrev rGeI : R2 := rI0 fun i j => .bl (decide (j ≤ i))
abbrev rIsNo : R2 := fun x y H Q => y = .non ∧ Q (.bl (decide (x = .non))) H
abbrev rAddStr : R2 := fun x y H Q => ∃ i j, x = .str i ∧ y = .str j ∧ i.length + j.length ≤ sizeLine ∧ Q (.str (i ++ j)) H
abbrev rAbs : List V → Hp → VK → Prop := fun xs H Q => ∃ i, xs = [.int i] ∧ Q (.int (if i < 0 then -i else i)) H
abbrev rInt1 : List V → Hp → VK → Prop := fun xs H Q => (∃ i, xs = [.int i] ∧ Q (.int i) H) ∨ ∃ k, xs = [.bl k] ∧ Q (.int (if k then 1 else 0)) H
abbrev rIntStr : List V → Hp → VK → Prop := fun xs H Q => ∃ a n, xs = [.str a] ∧ PySem.intText? a = some n ∧ a.length ≤ 640 ∧ Q (.int n) H
abbrev rStrInt : List V → Hp → VK → Prop := fun xs H Q => ∃ i, xs = [.int i] ∧ i.natAbs.log2 < 1920 ∧ Q (.str (toString i)) H
abbrev rLenStr : List V → Hp → VK → Prop := fun xs H Q => ∃ z, xs = [.str z] ∧ z.length ≤ sizeLine ∧ Q (.int z.length) H
/-- raise of an own class -/
def tRz (E : XK) (C : Addr) : TS := fun _ _ H => E (.ref C) none H
/-! ### an own class of errors, as the head tells it -/
structure XOk (K : PySem.W.Frag) (C : Addr) : Prop where
  ok : PySem.W.excIn K C [.type "ValueError", .type "Exception", .type "BaseException", .type "object"] "ValueError.__new__" = true
  kp : PySem.W.keepIn K (.ref C) = true
  sb : PySem.W.subIn K (.ref C) (.type "BaseException") = some true
  ty : PySem.W.typeIn K (.ref C) = some (.type "type")
end Sg
namespace Sg
open PySem PySem.Spec PyProof.Rows L2 Evl
/-! ### rows -/
def IsRow (ns : List Int) : Prop := ns.length ∈ [1, 2, 4, 8, 16, 32] ∧ ∀ x ∈ ns, -100000000000000000000 ≤ x ∧ x ≤ 100000000000000000000
/-- the sum of the first n values -/
def sm (n : Nat) (f : Nat → Int) : Int := ((List.range n).map f).sum
/-- the sign of a place by a choice, as the law reckons it -/
def sgStep (p c : Int) (f w : Int) : Int := if p / w % 2 = 1 ∧ c / w % 2 = 1 then 0 - f else f
def sg (p c : Int) : Int := [1, 2, 4, 8, 16].foldl (sgStep p c) 1
def sumAt (ns : List Int) (c : Nat) : Int := sm ns.length fun p => sg p c * ns.getD p 0
def sumsL (ns : List Int) : List Int := (List.range ns.length).map (sumAt ns)
/-! ### the law's draws -/
def cellAt (ns : List Int) (k : Nat) : Int := ns.getD k 0
def lawNext (s : Int) : Int := ((s + 7919) % 2147483647 * ((s + 7919) % 2147483647) + 48271 * ((s + 7919) % 2147483647) + 12345) % 2147483629
def num1 (cell way great : Int) : Int := if way / 4 % 2 = 1 then (cell / 7 % 2000001 - 1000000) * great + (1 - 2 * (if cell / 7 % 2000001 - 1000000 < 0 then 1 else 0)) * (cell / 64 % great) else cell / 7 % 2000001 - 1000000
def num2 (cell way x : Int) : Int := if way % 4 = 0 then 1 - 2 * (cell / 7 % 2) else x
def num3 (cell way x : Int) : Int := if way % 4 = 1 then cell / 7 % 9 - 4 else x
def num4 (cell way x : Int) : Int := if way % 4 = 3 ∧ 0 < cell / 14000007 % 3 then 0 else x
def lawNum (cell way great : Int) : Int := num4 cell way (num3 cell way (num2 cell way (num1 cell way great)))
/-- the cell behind i turns -/
def lawCell (cell : Int) : Nat → Int
  | 0 => cell
  | i + 1 => lawNext (lawCell cell i % 1000003 + 31 * (i : Int))
def lawRow (cell : Int) (n : Nat) (way great : Int) : List Int := (List.range n).map fun i => lawNum (lawCell cell (i + 1)) way great
end Sg
namespace Sg
theorem sg_abs_aux (p c : Int) : ∀ (l : List Int) (f : Int), f.natAbs = 1 → (l.foldl (sgStep p c) f).natAbs = 1
  | [], _, h => h
  | w :: l, f, h => by
    refine sg_abs_aux p c l _ ?_
    unfold sgStep
    split <;> omega
theorem sg_abs1 (p c : Int) : (sg p c).natAbs = 1 := sg_abs_aux p c _ 1 rfl
theorem sg_abs (p c : Int) : (sg p c).natAbs < 2 ^ 2 := by rw [sg_abs1]; decide
end Sg
namespace Sg
theorem lawNext_bd (s : Int) : 0 ≤ lawNext s ∧ lawNext s < 2147483629 := by
  unfold lawNext
  omega
theorem lawCell_bd (c : Int) (i : Nat) : 0 ≤ lawCell c (i + 1) ∧ lawCell c (i + 1) < 2147483629 := lawNext_bd _
theorem lawRow_length (c : Int) (n : Nat) (w g : Int) : (lawRow c n w g).length = n := by
  unfold lawRow
  rw [List.length_map, List.length_range]
theorem pow_cases {s : Nat} (h : s ≤ 5) : s = 0 ∨ s = 1 ∨ s = 2 ∨ s = 3 ∨ s = 4 ∨ s = 5 := by omega
end Sg
namespace Sg
/-! ### how great the law's numbers are -/
theorem num1_bd {cell way g : Int} (hc : 0 ≤ cell) (hg : 0 < g) : -(1000001 * g) ≤ num1 cell way g ∧ num1 cell way g ≤ 1000001 * g := by
  unfold num1
  have z0 : -1000000 ≤ cell / 7 % 2000001 - 1000000 ∧ cell / 7 % 2000001 - 1000000 ≤ 1000000 := by omega
  generalize cell / 7 % 2000001 - 1000000 = n at z0
  have z1 := Int.emod_nonneg (cell / 64) (show g ≠ 0 by omega)
  have z2 := Int.emod_lt_of_pos (cell / 64) hg
  generalize cell / 64 % g = r at z1 z2
  have h1 : n * g ≤ 1000000 * g := Int.mul_le_mul_of_nonneg_right z0.2 (by omega)
  have h2 : (-1000000) * g ≤ n * g := Int.mul_le_mul_of_nonneg_right z0.1 (by omega)
  generalize n * g = m at h1 h2
  split
  · split
    · rw [show (1 - 2 * 1 : Int) = -1 from rfl]
      omega
    · omega
  · omega
theorem lawNum_bd {cell way g : Int} (hc : 0 ≤ cell) (hg : 0 < g) : -(1000001 * g) ≤ lawNum cell way g ∧ lawNum cell way g ≤ 1000001 * g := by
  have h1 := num1_bd (way := way) hc hg
  unfold lawNum num4 num3 num2
  generalize num1 cell way g = n at h1
  have a1 : 0 ≤ cell / 7 % 2 ∧ cell / 7 % 2 ≤ 1 := by omega
  have a2 : 0 ≤ cell / 7 % 9 ∧ cell / 7 % 9 ≤ 8 := by omega
  repeat' split
  all_goals omega
theorem lawRow_bd {c way g : Int} {n : Nat} (hg : 0 < g) : ∀ x ∈ lawRow c n way g, -(1000001 * g) ≤ x ∧ x ≤ 1000001 * g := by
  intro x hx
  unfold lawRow at hx
  obtain ⟨i, _, rfl⟩ := List.mem_map.mp hx
  exact lawNum_bd (lawCell_bd c i).1 hg
theorem pow_mem {s : Nat} (h : s ≤ 5) : 2 ^ s ∈ [1, 2, 4, 8, 16, 32] := by
  rcases pow_cases h with rfl | rfl | rfl | rfl | rfl | rfl <;> decide
theorem lawRow_isRow {c way g : Int} {s : Nat} (hs : s ≤ 5) (hg : 0 < g) (hb : 1000001 * g ≤ 100000000000000000000) : IsRow (lawRow c (2 ^ s) way g) := by
  refine ⟨by rw [lawRow_length]; exact pow_mem hs, fun x hx => ?_⟩
  have := lawRow_bd hg x hx
  omega
/-- sums are as long as the row -/
theorem sumsL_length (ns : List Int) : (sumsL ns).length = ns.length := by
  unfold sumsL
  rw [List.length_map, List.length_range]
/-- the law's steps: a rest by n, and one more -/
theorem steps_at (i j : Int) (n : Nat) (hn : 0 < n) : ∃ s : Nat, s ≤ n ∧ i % (n : Int) + (if decide (j % 6 = 1) = true then 1 else 0) = (s : Int) := by
  have h1 := Int.emod_nonneg i (show (n : Int) ≠ 0 by omega)
  have h2 := Int.emod_lt_of_pos i (show (0 : Int) < n by omega)
  refine ⟨(i % (n : Int) + (if decide (j % 6 = 1) = true then 1 else 0)).toNat, ?_, ?_⟩ <;> split <;> omega
end Sg
namespace Sg
/-! ### sums -/
theorem sm_zero (f : Nat → Int) : sm 0 f = 0 := rfl
theorem sum_append1 (l : List Int) (x : Int) : (l ++ [x]).sum = l.sum + x := by
  induction l with
  | nil => simp
  | cons a l ih => rw [List.cons_append, List.sum_cons, List.sum_cons, ih]; omega
theorem sm_succ (n : Nat) (f : Nat → Int) : sm (n + 1) f = sm n f + f n := by
  unfold sm
  rw [List.range_succ, List.map_append]
  exact sum_append1 _ _
theorem sm_congr {n : Nat} {f g : Nat → Int} (h : ∀ i, i < n → f i = g i) : sm n f = sm n g := by
  induction n with
  | zero => rfl
  | succ n ih => rw [sm_succ, sm_succ, ih fun i hi => h i (by omega), h n (by omega)]
theorem sm_add (n : Nat) (f g : Nat → Int) : sm n (fun i => f i + g i) = sm n f + sm n g := by
  induction n with
  | zero => rfl
  | succ n ih => rw [sm_succ, sm_succ, sm_succ, ih]; omega
theorem sm_sub (n : Nat) (f g : Nat → Int) : sm n (fun i => f i - g i) = sm n f - sm n g := by
  induction n with
  | zero => rfl
  | succ n ih => rw [sm_succ, sm_succ, sm_succ, ih]; omega
theorem sm_mulL (n : Nat) (a : Int) (f : Nat → Int) : sm n (fun i => a * f i) = a * sm n f := by
  induction n with
  | zero => rw [sm_zero, sm_zero, Int.mul_zero]
  | succ n ih => rw [sm_succ, sm_succ, ih, Int.mul_add]
theorem sm_mulR (n : Nat) (a : Int) (f : Nat → Int) : sm n (fun i => f i * a) = sm n f * a := by
  rw [Int.mul_comm, ← sm_mulL]
  exact sm_congr fun i _ => Int.mul_comm _ _
theorem sm_const0 (n : Nat) : sm n (fun _ => 0) = 0 := by
  induction n with
  | zero => rfl
  | succ n ih => rw [sm_succ, ih] <;> rfl
theorem sm_swap (n m : Nat) (f : Nat → Nat → Int) : sm n (fun i => sm m (fun j => f i j)) = sm m (fun j => sm n (fun i => f i j)) := by
  induction n with
  | zero => rw [sm_zero, show sm m (fun j => sm 0 fun i => f i j) = sm m (fun _ => 0) from rfl, sm_const0]
  | succ n ih =>
    rw [sm_succ, ih, ← sm_add]
    exact sm_congr fun j _ => (sm_succ n fun i => f i j).symm
theorem sm_delta (n : Nat) (f : Nat → Int) (j : Nat) : sm n (fun p => f p * (if p = j then 1 else 0)) = if j < n then f j else 0 := by
  induction n with
  | zero => rw [sm_zero, if_neg (by omega)]
  | succ n ih =>
    rw [sm_succ, ih]
    by_cases h : n = j
    · rw [if_pos h, h, if_neg (by omega), if_pos (by omega)]; omega
    · rw [if_neg h]
      by_cases h2 : j < n
      · rw [if_pos h2, if_pos (by omega)]; omega
      · rw [if_neg h2, if_neg (by omega)]; omega
theorem sm_split (n m : Nat) (f : Nat → Int) : sm (n + m) f = sm n f + sm m (fun i => f (n + i)) := by
  induction m with
  | zero => rw [sm_zero, Nat.add_zero]; omega
  | succ m ih => rw [← Nat.add_assoc, sm_succ, ih, sm_succ]; omega
/-! ### the program's steps -/
def stepAt (w : Nat) (f : Nat → Int) (j : Nat) : Int := if j / w % 2 = 0 then f j + f (j + w) else f (j - w) - f j
def fast : Nat → (Nat → Int) → Nat → Int
  | 0, f => f
  | k + 1, f => stepAt (2 ^ k) (fast k f)
theorem fast_lin (n : Nat) (a : Nat → Int) (d : Nat → Nat → Int) : ∀ k c, fast k (fun j => sm n fun p => a p * d p j) c = sm n fun p => a p * fast k (d p) c
  | 0, _ => rfl
  | k + 1, c => by
    have ih := fast_lin n a d k
    show stepAt (2 ^ k) (fast k (fun j => sm n fun p => a p * d p j)) c = _
    unfold stepAt
    by_cases h : c / 2 ^ k % 2 = 0
    · rw [if_pos h, ih, ih, ← sm_add]
      refine sm_congr fun p _ => ?_
      show _ = a p * stepAt (2 ^ k) (fast k (d p)) c
      unfold stepAt
      rw [if_pos h, Int.mul_add]
    · rw [if_neg h, ih, ih, ← sm_sub]
      refine sm_congr fun p _ => ?_
      show _ = a p * stepAt (2 ^ k) (fast k (d p)) c
      unfold stepAt
      rw [if_neg h, Int.mul_sub]
theorem fast_basis : ∀ s, s < 6 → ∀ p, p < 2 ^ s → ∀ c, c < 2 ^ s → fast s (fun j => if p = j then 1 else 0) c = sg p c := by decide +kernel
theorem fast_eq {s : Nat} (hs : s < 6) {f : Nat → Int} (hf : ∀ j, 2 ^ s ≤ j → f j = 0) {c : Nat} (hc : c < 2 ^ s) : fast s f c = sm (2 ^ s) fun p => sg p c * f p := by
  have e : f = fun j => sm (2 ^ s) fun p => f p * (if p = j then 1 else 0) := by
    funext j
    rw [sm_delta]
    by_cases h : j < 2 ^ s
    · rw [if_pos h]
    · rw [if_neg h, hf j (by omega)]
  have e2 := fast_lin (2 ^ s) f (fun p j => if p = j then 1 else 0) s c
  rw [← e] at e2
  rw [e2]
  exact sm_congr fun p hp => by rw [fast_basis s hs p hp c hc, Int.mul_comm]
theorem half_lt {s k j : Nat} (hs : s < 6) (hk : k < s) (hj : j < 2 ^ s) (h : j / 2 ^ k % 2 = 0) : j + 2 ^ k < 2 ^ s := by
  have z : ∀ s, s < 6 → ∀ k, k < s → ∀ j, j < 2 ^ s → j / 2 ^ k % 2 = 0 → j + 2 ^ k < 2 ^ s := by decide +kernel
  exact z s hs k hk j hj h
theorem odd_ge {k j : Nat} (h : ¬ j / 2 ^ k % 2 = 0) : 2 ^ k ≤ j := by
  refine Nat.le_of_not_lt fun q => h ?_
  rw [Nat.div_eq_of_lt q]
end Sg
namespace Sg
theorem pow_le' {s : Nat} (h : s < 6) : 2 ^ s ≤ 32 := by
  have z : ∀ s, s < 6 → 2 ^ s ≤ 32 := by decide
  exact z s h
end Sg
namespace Sg
theorem row_pos {ns : List Int} (h : IsRow ns) : 0 < ns.length ∧ ns.length ≤ 32 := by
  have := h.1
  simp only [List.mem_cons, List.not_mem_nil, or_false] at this
  omega
theorem row_len {ns : List Int} (h : IsRow ns) : ns.length ∈ [1, 2, 4, 8, 16, 32] := h.1
theorem pow_of_mem {n : Nat} (h : n ∈ [1, 2, 4, 8, 16, 32]) : ∃ s, s < 6 ∧ n = 2 ^ s := by
  simp only [List.mem_cons, List.not_mem_nil, or_false] at h
  rcases h with rfl | rfl | rfl | rfl | rfl | rfl
  · exact ⟨0, by decide, rfl⟩
  · exact ⟨1, by decide, rfl⟩
  · exact ⟨2, by decide, rfl⟩
  · exact ⟨3, by decide, rfl⟩
  · exact ⟨4, by decide, rfl⟩
  · exact ⟨5, by decide, rfl⟩
theorem pow_le32 {s : Nat} (h : s < 6) : 2 ^ s ≤ 32 ∧ 1 ≤ 2 ^ s := by
  have z : ∀ s, s < 6 → 2 ^ s ≤ 32 ∧ 1 ≤ 2 ^ s := by decide
  exact z s h
theorem ints_ext {L : List Int} {n : Nat} {f : Nat → Int} (hl : L.length = n) (h : ∀ j, j < n → L.getD j 0 = f j) : L = (List.range n).map f := by
  refine List.ext_getElem (by rw [List.length_map, List.length_range, hl]) fun k h1 h2 => ?_
  have z := h k (by omega)
  rw [List.getD_eq_getElem?_getD, List.getElem?_eq_getElem h1] at z
  rw [List.getElem_map, List.getElem_range]
  exact z
theorem getD_set {L : List Int} {k j : Nat} {v : Int} (hk : k < L.length) : (L.set k v).getD j 0 = if j = k then v else L.getD j 0 := by
  rw [List.getD_eq_getElem?_getD, List.getElem?_set, List.getD_eq_getElem?_getD]
  by_cases h : k = j
  · rw [if_pos h, if_pos (by omega), if_pos h.symm] <;> rfl
  · rw [if_neg h, if_neg (fun e => h e.symm)]
end Sg
namespace Sg
open PySem PySem.Spec PyProof.Rows L2 Evl
/-! ### promises -/
def sp_ask_row (K : PySem.W.Frag) : Sp := fun vs H Q E => ∃ (a : Addr) (ns : List Int), vs = [.ref a] ∧ SqL K H a (ns.map V.int) ∧
  (IsRow ns → ∀ H', Ex H H' → Q .non H') ∧ (¬ IsRow ns → ∀ H', Ex H H' → E (.ref (He.ga K "NoRow")) none H')
def sp_summed (K : PySem.W.Frag) : Sp := fun vs H Q _ => ∃ (a : Addr) (ns : List Int), vs = [.ref a] ∧ SqL K H a (ns.map V.int) ∧ ns.length ∈ [1, 2, 4, 8, 16, 32] ∧ RetL ((sumsL ns).map V.int) H Q
def sp_sums (K : PySem.W.Frag) : Sp := fun vs H Q E => ∃ (a : Addr) (ns : List Int), vs = [.ref a] ∧ SqL K H a (ns.map V.int) ∧
  (IsRow ns → RetL ((sumsL ns).map V.int) H Q) ∧ (¬ IsRow ns → ∀ H', Ex H H' → E (.ref (He.ga K "NoRow")) none H')
def sp_law_cell_at (K : PySem.W.Frag) : Sp := fun vs H Q _ => ∃ (a : Addr) (ns : List Int) (k : Nat), vs = [.ref a, .int k] ∧ SqL K H a (ns.map V.int) ∧ RetV (.int (cellAt ns k)) H Q
def sp_law_whole (K : PySem.W.Frag) : Sp := fun vs H Q _ => ∃ i : Int, vs = [.int i] ∧ RetV (.bl true) H Q
def sp_law_next (K : PySem.W.Frag) : Sp := fun vs H Q _ => ∃ i : Int, vs = [.int i] ∧ RetV (.int (lawNext i)) H Q
def sp_law_row (K : PySem.W.Frag) : Sp := fun vs H Q _ => ∃ (c : Int) (s : Nat) (w g : Int), vs = [.int c, .int s, .int w, .int g] ∧ s ≤ 5 ∧ 0 < g ∧ g < 1073741824 * 1073741824 ∧ RetL ((lawRow c (2 ^ s) w g).map V.int) H Q
def sp_law_sign (K : PySem.W.Frag) : Sp := fun vs H Q _ => ∃ (p c : Int), vs = [.int p, .int c] ∧ RetV (.int (sg p c)) H Q
def sp_law_sums (K : PySem.W.Frag) : Sp := fun vs H Q _ => ∃ (a : Addr) (ns : List Int), vs = [.ref a] ∧ SqL K H a (ns.map V.int) ∧ ns.length ≤ 32 ∧ (∀ x ∈ ns, x.natAbs < 2 ^ 100) ∧ RetL ((sumsL ns).map V.int) H Q
def sp_law_alike (K : PySem.W.Frag) : Sp := fun vs H Q _ => ∃ (a b : Addr) (ns ms : List Int), vs = [.ref a, .ref b] ∧ SqL K H a (ns.map V.int) ∧ SqL K H b (ms.map V.int) ∧ ns.length ≤ 1000 ∧ RetV (.bl (decide (ns = ms))) H Q
def sp_law (K : PySem.W.Frag) : Sp := fun vs H Q _ => ∃ (a : Addr) (ns : List Int), vs = [.ref a] ∧ SqL K H a (ns.map V.int) ∧ ns.length ≤ 63 ∧ ∀ H', Q (.bl true) H'
/-! ### how many arguments -/
theorem len_ask_row {K : PySem.W.Frag} : ∀ vs H Q E, sp_ask_row K vs H Q E → vs.length = 1 := fun _ _ _ _ h => by
  obtain ⟨_, _, rfl, _⟩ := h; rfl
theorem len_summed {K : PySem.W.Frag} : ∀ vs H Q E, sp_summed K vs H Q E → vs.length = 1 := fun _ _ _ _ h => by
  obtain ⟨_, _, rfl, _⟩ := h; rfl
theorem len_sums {K : PySem.W.Frag} : ∀ vs H Q E, sp_sums K vs H Q E → vs.length = 1 := fun _ _ _ _ h => by
  obtain ⟨_, _, rfl, _⟩ := h; rfl
theorem len_law_cell_at {K : PySem.W.Frag} : ∀ vs H Q E, sp_law_cell_at K vs H Q E → vs.length = 2 := fun _ _ _ _ h => by
  obtain ⟨_, _, _, rfl, _⟩ := h; rfl
theorem len_law_whole {K : PySem.W.Frag} : ∀ vs H Q E, sp_law_whole K vs H Q E → vs.length = 1 := fun _ _ _ _ h => by
  obtain ⟨_, rfl, _⟩ := h; rfl
theorem len_law_next {K : PySem.W.Frag} : ∀ vs H Q E, sp_law_next K vs H Q E → vs.length = 1 := fun _ _ _ _ h => by
  obtain ⟨_, rfl, _⟩ := h; rfl
theorem len_law_row {K : PySem.W.Frag} : ∀ vs H Q E, sp_law_row K vs H Q E → vs.length = 4 := fun _ _ _ _ h => by
  obtain ⟨_, _, _, _, rfl, _⟩ := h; rfl
theorem len_law_sign {K : PySem.W.Frag} : ∀ vs H Q E, sp_law_sign K vs H Q E → vs.length = 2 := fun _ _ _ _ h => by
  obtain ⟨_, _, rfl, _⟩ := h; rfl
theorem len_law_sums {K : PySem.W.Frag} : ∀ vs H Q E, sp_law_sums K vs H Q E → vs.length = 1 := fun _ _ _ _ h => by
  obtain ⟨_, _, rfl, _⟩ := h; rfl
theorem len_law_alike {K : PySem.W.Frag} : ∀ vs H Q E, sp_law_alike K vs H Q E → vs.length = 2 := fun _ _ _ _ h => by
  obtain ⟨_, _, _, _, rfl, _⟩ := h; rfl
theorem len_law {K : PySem.W.Frag} : ∀ vs H Q E, sp_law K vs H Q E → vs.length = 1 := fun _ _ _ _ h => by
  obtain ⟨_, _, rfl, _⟩ := h; rfl
end Sg
namespace Sg
open PySem PySem.Spec PyProof.Rows L2 Evl
/-! ### readings: more words over Evl -/
section
variable {K : PySem.W.Frag} {σ : L2.St} {H : Hp} {ta tb te : TE} {x y z v : V}
theorem map_at {ns : List Int} {k : Nat} (h : k < ns.length) : (ns.map V.int)[k]? = some (.int (ns.getD k 0)) := by
  rw [List.getElem?_map, List.getElem?_eq_getElem h, List.getD_eq_getElem?_getD, List.getElem?_eq_getElem h] <;> rfl
theorem at_map {ns : List Int} {k : Nat} {i : Int} (e : i = (k : Int)) (h : k < ns.length) : atI (ns.map V.int) i = some (.int (ns.getD k 0)) := by
  rw [e]; exact atI_nat (map_at h)
theorem rv_ixN {p : Addr} {ns : List Int} {k : Nat} {i : Int} (h : SqL K H p (ns.map V.int)) (e : i = (k : Int)) (hk : k < ns.length) : RV (rIxL K) (.ref p) (.int i) H (.int (ns.getD k 0)) := rv_ixL h (at_map e hk)
theorem ev_lenM {p : Addr} {ns : List Int} (ha : Ev ta σ H (.ref p)) (h : SqL K H p (ns.map V.int)) : Ev (tCB (rLenS K) (tCons ta tNil)) σ H (.int (ns.length : Int)) := by
  have e := ev_len ha h
  rw [List.length_map] at e
  exact e
theorem rv_mul {i j : Int} {a b : Nat} (ha : i.natAbs < 2 ^ a) (hb : j.natAbs < 2 ^ b) (h0 : 0 < a) (h1 : 0 < b) (h : a + b ≤ 1000000) : RV rMulI (.int i) (.int j) H (.int (i * j)) := rv_I (C := CMulW) (g := fun i j => .int (i * j)) (wide_mul ha hb h0 h1 h)
theorem rv_mod {i j : Int} (h : 0 < j) : RV rModI (.int i) (.int j) H (.int (i % j)) := rv_I (C := fun _ j => 0 < j) (g := fun i j => .int (i % j)) h
theorem rv_div {i j : Int} (h : 0 < j) (h2 : j < 1073741824) : RV rDivI (.int i) (.int j) H (.int (i / j)) := rv_I (C := CDiv) (g := fun i j => .int (i / j)) ⟨h, h2⟩
theorem rv_add {i j : Int} : RV rAddI (.int i) (.int j) H (.int (i + j)) := rv_I0 (g := fun i j => .int (i + j))
theorem rv_sub {i j : Int} : RV rSubI (.int i) (.int j) H (.int (i - j)) := rv_I0 (g := fun i j => .int (i - j))
theorem rv_lt {i j : Int} : RV rLtI (.int i) (.int j) H (.bl (decide (i < j))) := rv_I0 (g := fun i j => .bl (decide (i < j)))
theorem rv_le {i j : Int} : RV rLeI (.int i) (.int j) H (.bl (decide (i ≤ j))) := rv_I0 (g := fun i j => .bl (decide (i ≤ j)))
theorem rv_gt {i j : Int} : RV rGtI (.int i) (.int j) H (.bl (decide (j < i))) := rv_I0 (g := fun i j => .bl (decide (j < i)))
theorem rv_ge {i j : Int} : RV rGeI (.int i) (.int j) H (.bl (decide (j ≤ i))) := rv_I0 (g := fun i j => .bl (decide (j ≤ i)))
theorem dec_V {i j : Int} : decide (V.int i = V.int j) = decide (i = j) := by
  by_cases e : i = j
  · rw [e, decide_eq_true rfl, decide_eq_true rfl]
  · rw [decide_eq_false e, decide_eq_false fun q => e (V.int.inj q)]
theorem rv_eqI {i j : Int} : RV rEq (.int i) (.int j) H (.bl (decide (i = j))) := by
  have h := rv_eq (H := H) (x := .int i) (y := .int j) rfl
  rw [dec_V] at h
  exact h
theorem rv_neI {i j : Int} : RV rNe (.int i) (.int j) H (.bl (!decide (i = j))) := by
  have h := rv_ne (H := H) (x := .int i) (y := .int j) rfl
  rw [dec_V] at h
  exact h
theorem ev_int1 {i : Int} (h : Ev te σ H (.int i)) : Ev (tCB rInt1 (tCons te tNil)) σ H (.int i) := fun H1 e Q q => h H1 e _ fun H2 e2 => .inl ⟨i, rfl, q H2 e2⟩
theorem ev_int1b {k : Bool} (h : Ev te σ H (.bl k)) : Ev (tCB rInt1 (tCons te tNil)) σ H (.int (if k then 1 else 0)) := fun H1 e Q q => h H1 e _ fun H2 e2 => .inr ⟨k, rfl, q H2 e2⟩
theorem ev_neg {i : Int} (h : Ev te σ H (.int i)) : Ev (tUn rNegI te) σ H (.int (-i)) := ev_un h ru_neg
theorem ev_chain {r r' : R2} {tc : TE} {a b c : V} {k k' : Bool} (ha : Ev ta σ H a) (hb : Ev tb σ H b) (hr : RV r a b H (.bl k)) (hc : Ev tc σ H c) (hr' : RV r' b c H (.bl k')) : Ev (tChain r r' ta tb tc) σ H (.bl (k && k')) := fun H1 e Q q =>
  ha H1 e _ fun H2 e2 => hb H2 (e.trans e2) _ fun H3 e3 => hr H3 ((e.trans e2).trans e3) _ fun H4 e4 => ⟨k, rfl, by
    cases k with
    | false => exact q H4 ((e2.trans e3).trans e4)
    | true => exact hc H4 (((e.trans e2).trans e3).trans e4) _ fun H5 e5 => hr' H5 ((((e.trans e2).trans e3).trans e4).trans e5) _ fun H6 e6 => q H6 ((((e2.trans e3).trans e4).trans e5).trans e6)⟩
/-- a slot's word after a turn -/
theorem take_fold {α β : Type} (f : β → α → β) (b : β) {l : List α} {i : Nat} {x : α} (h : l[i]? = some x) : (l.take (i + 1)).foldl f b = f ((l.take i).foldl f b) x := by
  rw [List.take_add_one, h, List.foldl_append] <;> rfl
theorem given_yes_all (n : Nat) (v : Nat → V) : given n (fun _ => true) v = (List.range n).map v := by
  unfold given
  rw [List.filter_eq_self.mpr fun _ _ => rfl]
theorem et_yes : EvT tYes σ H true := fun H1 _ _ q => q H1 (Ex.refl H1)
theorem ev_sum {p : Addr} {ns : List Int} (h : Ev te σ H (.ref p)) (hS : SqL K H p (ns.map V.int)) : Ev (tCB (rSum K) (tCons te tNil)) σ H (.int ns.sum) := fun H1 e Q q => h H1 e _ fun H2 e2 => ⟨p, ns, rfl, ex_l (e.trans e2) hS, q H2 e2⟩
theorem ev_sumL {ns : List Int} (h : EvL te σ H (ns.map V.int)) : Ev (tCB (rSum K) (tCons te tNil)) σ H (.int ns.sum) := fun H1 e Q q => h H1 e _ fun p H2 _ e2 hp => ⟨p, ns, rfl, sq_of hp, q H2 e2⟩
/-- calls -/
theorem spv {sp : Sp} {vs : List V} (h : ∀ H1, Ex H H1 → ∀ (Q : VK) (E : XK), RetV z H1 Q → sp vs H1 Q E) : SpV sp vs H z := fun H1 e Q q E => h H1 e Q E q
theorem spl {sp : Sp} {vs xs : List V} (h : ∀ H1, Ex H H1 → ∀ (Q : VK) (E : XK), RetL xs H1 Q → sp vs H1 Q E) : SpL sp vs H xs := fun H1 e Q q E => h H1 e Q E q
theorem ev_call1 {sp : Sp} {E : XK} (h : Ev te σ H x) (hs : SpV sp [x] H z) : Ev (tCall sp [] E (tCons te tNil)) σ H z := ev_call (dvs := []) (ea_cons h ea_nil) hs
theorem ev_call2 {sp : Sp} {E : XK} (h : Ev ta σ H x) (h2 : Ev tb σ H y) (hs : SpV sp [x, y] H z) : Ev (tCall sp [] E (tCons ta (tCons tb tNil))) σ H z := ev_call (dvs := []) (ea_cons h (ea_cons h2 ea_nil)) hs
theorem el_call1 {sp : Sp} {xs : List V} {E : XK} (h : Ev te σ H x) (hs : SpL sp [x] H xs) : EvL (tCall sp [] E (tCons te tNil)) σ H xs := el_call (dvs := []) (ea_cons h ea_nil) hs
end
end Sg
namespace Sg
open PySem PySem.Spec PyProof.Rows L2 Evl
section
variable {K : PySem.W.Frag} {σ : L2.St} {H : Hp} {ta tb te : TE} {x y z v : V}
theorem sql_ty {a : Addr} {xs : List V} (h : SqL K H a xs) : TyX K H (.ref a) (.type "list") := by
  rcases h with h | ⟨o, its, n, hk, hc, _⟩
  · rcases h with h | ⟨o, h⟩
    · exact .base (.lst h)
    · exact .base (.frz h)
  · exact .kList hk hc
theorem ev_isi {a b : String} {r : Bool} (h : Ev te σ H x) (ht : ∀ H1, Ex H H1 → TyX K H1 x (.type a)) (hk : kitB a b = some r) : Ev (tCB (rIsi K) (tCons te (tCons (tC (.ty b)) tNil))) σ H (.bl r) := fun H1 e Q q =>
  h H1 e _ fun H2 e2 => ⟨x, .ty b, .type a, .type b, r, rfl, .ty b, ht H2 (e.trans e2), kit_ty hk, q H2 e2⟩
theorem ev_isint {i : Int} (h : Ev te σ H (.int i)) : Ev (tCB (rIsi K) (tCons te (tCons (tC (.ty "int")) tNil))) σ H (.bl true) := ev_isi h (fun _ _ => .base (.int i)) (by decide +kernel)
theorem ev_isbool {i : Int} (h : Ev te σ H (.int i)) : Ev (tCB (rIsi K) (tCons te (tCons (tC (.ty "bool")) tNil))) σ H (.bl false) := ev_isi h (fun _ _ => .base (.int i)) (by decide +kernel)
theorem ev_islist {a : Addr} {xs : List V} (h : Ev te σ H (.ref a)) (hS : SqL K H a xs) : Ev (tCB (rIsi K) (tCons te (tCons (tC (.ty "list")) tNil))) σ H (.bl true) := ev_isi h (fun _ e => sql_ty (ex_l e hS)) (by decide +kernel)
end
end Sg
namespace Sg
open PySem PySem.Spec PyProof.Rows L2 Evl
section
variable {K : PySem.W.Frag} {σ : L2.St} {H : Hp} {ta tb te : TE} {x y z v : V}
/-- a written list's item -/
theorem ev_tab {xs : List V} {i : Int} (l : EvL ta σ H xs) (hi : Ev tb σ H (.int i)) (ha : atI xs i = some v) : Ev (tOp (rIxL K) ta tb) σ H v := ev_opL1 l (fun _ e => hi.mono e) fun p H1 hp _ => rv_ixL (sq_of hp) ha
theorem at_six {s : Nat} (h : s ≤ 5) : atI ([.int 1, .int 2, .int 4, .int 8, .int 16, .int 32] : List V) (s : Int) = some (.int ((2 ^ s : Nat) : Int)) := by
  rcases Sg.pow_cases h with rfl | rfl | rfl | rfl | rfl | rfl <;> rfl
theorem el_six : EvL (tLst (tCons (tC (.int 1)) (tCons (tC (.int 2)) (tCons (tC (.int 4)) (tCons (tC (.int 8)) (tCons (tC (.int 16)) (tCons (tC (.int 32)) tNil))))))) σ H [.int 1, .int 2, .int 4, .int 8, .int 16, .int 32] :=
  el_lst (ea_cons ev_c (ea_cons ev_c (ea_cons ev_c (ea_cons ev_c (ea_cons ev_c (ea_cons ev_c ea_nil)))))) (by decide)
theorem range_take {n i : Nat} (f : Nat → Int) (h : i < n) : (((List.range n).map f).take (i + 1)).map V.int = (((List.range n).map f).take i).map V.int ++ [.int (f i)] := by
  rw [List.take_add_one, List.getElem?_map, List.getElem?_range h, List.map_append]
  rfl
theorem range_take_all {n : Nat} (f : Nat → Int) : ((List.range n).map f).take n = (List.range n).map f := List.take_of_length_le (by rw [List.length_map, List.length_range]; exact Nat.le_refl _)
theorem range_take_len {n i : Nat} (f : Nat → Int) (h : i ≤ n) : ((((List.range n).map f).take i).map V.int).length = i := by
  rw [List.length_map, List.length_take, List.length_map, List.length_range]
  omega
end
end Sg
namespace Sg
theorem not_t {P : Prop} [Decidable P] (h : (!decide P) = true) : ¬ P := fun p => by
  rw [decide_eq_true p] at h
  cases h
theorem not_f {P : Prop} [Decidable P] (h : (!decide P) = false) : P := by
  by_cases p : P
  · exact p
  · rw [decide_eq_false p] at h
    cases h
end Sg
namespace Sg
open PySem PySem.Spec PyProof.Rows L2 Evl
/-! ### == of lists of numbers -/
section
variable {K : PySem.W.Frag} {σ : L2.St} {H : Hp} {ta tb te : TE} {x y z v : V}
def dI (ns : List Int) : PyData := .list (ns.map PyData.int)
theorem dpAllI : ∀ ns : List Int, DpAll K H (ns.map V.int) (ns.map PyData.int)
  | [] => .nil
  | n :: ns => .cons (.int n) (dpAllI ns)
theorem dpI {a : Addr} {ns : List Int} (h : SqL K H a (ns.map V.int)) : Dp K H (.ref a) (dI ns) := .lst h (dpAllI ns)
theorem depthAllI : ∀ ns : List Int, PyData.depthAll (ns.map PyData.int) = 0
  | [] => by rw [List.map_nil, PyData.depthAll]
  | n :: ns => by rw [List.map_cons, PyData.depthAll, depthAllI ns, PyData.depth]; rfl
theorem layAllI : ∀ ns : List Int, PyData.canLayAll0 (ns.map PyData.int) = true
  | [] => by rw [List.map_nil, PyData.canLayAll0]
  | n :: ns => by rw [List.map_cons, PyData.canLayAll0, layAllI ns, PyData.canLay0]; rfl
theorem depthI (ns : List Int) : (dI ns).depth = 1 := by
  unfold dI
  rw [PyData.depth, depthAllI]
theorem layI (ns : List Int) : (dI ns).canLay0 = true := by
  unfold dI
  rw [PyData.canLay0, layAllI]
theorem shapedI (ns : List Int) : SeqAt.shaped (dI ns) = true := by
  unfold SeqAt.shaped
  rw [layI, depthI]
  rfl
theorem eqvAllI : ∀ ns ms : List Int, PyData.eqvAll (ns.map PyData.int) (ms.map PyData.int) = decide (ns = ms)
  | [], [] => by rw [List.map_nil, PyData.eqvAll]; rfl
  | [], m :: ms => by rw [List.map_nil, List.map_cons, PyData.eqvAll, decide_eq_false (by simp)]
  | n :: ns, [] => by rw [List.map_nil, List.map_cons, PyData.eqvAll, decide_eq_false (by simp)]
  | n :: ns, m :: ms => by
    rw [List.map_cons, List.map_cons, PyData.eqvAll, eqvAllI ns ms, PyData.eqv]
    by_cases h1 : n = m
    · subst h1
      by_cases h2 : ns = ms
      · subst h2
        rw [decide_eq_true rfl, decide_eq_true rfl, beq_self_eq_true] <;> rfl
      · rw [decide_eq_false h2, decide_eq_false (by simp [h2]), Bool.and_false]
    · rw [decide_eq_false (show ¬ n :: ns = m :: ms by simp [h1]), beq_eq_false_iff_ne.mpr h1, Bool.false_and]
theorem eqvI (ns ms : List Int) : PyData.eqv (dI ns) (dI ms) = decide (ns = ms) := by
  unfold dI
  rw [PyData.eqv, eqvAllI]
theorem rv_eqD {d e : PyData} (hx : ∀ H1, Ex H H1 → Dp K H1 x d) (hy : ∀ H1, Ex H H1 → Dp K H1 y e) (s1 : SeqAt.shaped d = true) (s2 : SeqAt.shaped e = true) : RV (rEqD K) x y H (.bl (PyData.eqv d e)) := fun H1 e1 _ q => ⟨d, e, hx H1 e1, hy H1 e1, s1, s2, q H1 (Ex.refl H1)⟩
theorem rv_neD {d e : PyData} (hx : ∀ H1, Ex H H1 → Dp K H1 x d) (hy : ∀ H1, Ex H H1 → Dp K H1 y e) (s1 : SeqAt.shaped d = true) (s2 : SeqAt.shaped e = true) : RV (rNeD K) x y H (.bl (!PyData.eqv d e)) := fun H1 e1 _ q => ⟨d, e, hx H1 e1, hy H1 e1, s1, s2, q H1 (Ex.refl H1)⟩
theorem rv_eqL {p q : Addr} {ns ms : List Int} (h : SqL K H p (ns.map V.int)) (h2 : SqL K H q (ms.map V.int)) : RV (rEqD K) (.ref p) (.ref q) H (.bl (decide (ns = ms))) := by
  have r := rv_eqD (K := K) (H := H) (fun H1 e => dpI (ex_l e h)) (fun H1 e => dpI (ex_l e h2)) (shapedI ns) (shapedI ms)
  rw [eqvI] at r
  exact r
theorem rv_neL {p q : Addr} {ns ms : List Int} (h : SqL K H p (ns.map V.int)) (h2 : SqL K H q (ms.map V.int)) : RV (rNeD K) (.ref p) (.ref q) H (.bl (!decide (ns = ms))) := by
  have r := rv_neD (K := K) (H := H) (fun H1 e => dpI (ex_l e h)) (fun H1 e => dpI (ex_l e h2)) (shapedI ns) (shapedI ms)
  rw [eqvI] at r
  exact r
/-- two lists of two rows each -/
def dII (a b : List Int) : PyData := .list [dI a, dI b]
theorem shapedII (a b : List Int) : SeqAt.shaped (dII a b) = true := by
  unfold SeqAt.shaped dII
  rw [PyData.canLay0, PyData.canLayAll0, PyData.canLayAll0, PyData.canLayAll0, layI, layI, PyData.depth, PyData.depthAll, PyData.depthAll, PyData.depthAll, depthI, depthI]
  rfl
theorem eqvII (a b c d : List Int) : PyData.eqv (dII a b) (dII c d) = (decide (a = c) && decide (b = d)) := by
  unfold dII
  rw [PyData.eqv, PyData.eqvAll, PyData.eqvAll, PyData.eqvAll, eqvI, eqvI, Bool.and_true]
theorem dpII {p a b : Addr} {ns ms : List Int} (h : SqL K H p [.ref a, .ref b]) (h1 : SqL K H a (ns.map V.int)) (h2 : SqL K H b (ms.map V.int)) : Dp K H (.ref p) (dII ns ms) := .lst h (.cons (dpI h1) (.cons (dpI h2) .nil))
/-- the law's own row -/
theorem el_law_row {E : XK} {t1 t2 t3 t4 : TE} {c w g : Int} {s : Nat} (h1 : Ev t1 σ H (.int c)) (h2 : Ev t2 σ H (.int s)) (h3 : Ev t3 σ H (.int w)) (h4 : Ev t4 σ H (.int g)) (hs : s ≤ 5) (g1 : 0 < g) (g2 : g < 1073741824 * 1073741824) :
    EvL (tCall (sp_law_row K) [] E (tCons t1 (tCons t2 (tCons t3 (tCons t4 tNil))))) σ H ((lawRow c (2 ^ s) w g).map V.int) :=
  el_call (dvs := []) (ea_cons h1 (ea_cons h2 (ea_cons h3 (ea_cons h4 ea_nil)))) (spl fun H1 _ Q E q => ⟨c, s, w, g, rfl, hs, g1, g2, q⟩)
theorem ev_cell {E : XK} {a : Addr} {ns : List Int} {k : Nat} (h : Ev ta σ H (.ref a)) (h2 : Ev tb σ H (.int k)) (hS : SqL K H a (ns.map V.int)) : Ev (tCall (sp_law_cell_at K) [] E (tCons ta (tCons tb tNil))) σ H (.int (cellAt ns k)) :=
  ev_call2 h h2 (spv fun H1 e Q E q => ⟨a, ns, k, rfl, ex_l e hS, q⟩)
theorem ev_alike {E : XK} {a b : Addr} {ns ms : List Int} (h : Ev ta σ H (.ref a)) (h2 : Ev tb σ H (.ref b)) (hS : SqL K H a (ns.map V.int)) (hT : SqL K H b (ms.map V.int)) (hl : ns.length ≤ 1000) :
    Ev (tCall (sp_law_alike K) [] E (tCons ta (tCons tb tNil))) σ H (.bl (decide (ns = ms))) := ev_call2 h h2 (spv fun H1 e Q E q => ⟨a, b, ns, ms, rfl, ex_l e hS, ex_l e hT, hl, q⟩)
/-- the first argument a new list -/
theorem ev_alikeL {E : XK} {b : Addr} {ns ms : List Int} (h : EvL ta σ H (ns.map V.int)) (h2 : ∀ H1, Ex H H1 → Ev tb σ H1 (.ref b)) (hT : SqL K H b (ms.map V.int)) (hl : ns.length ≤ 1000) :
    Ev (tCall (sp_law_alike K) [] E (tCons ta (tCons tb tNil))) σ H (.bl (decide (ns = ms))) := fun H0 e0 Q q =>
  h H0 e0 _ fun p H1 _ e1 hp => h2 H1 (e0.trans e1) H1 (Ex.refl H1) _ fun H2 e2 => ⟨p, b, ns, ms, rfl, sq_of (e2 p _ hp), ex_l ((e0.trans e1).trans e2) hT, hl, fun H3 e3 => q H3 ((e1.trans e2).trans e3)⟩
theorem el_sums {E : XK} {a : Addr} {ns : List Int} (h : Ev te σ H (.ref a)) (hS : SqL K H a (ns.map V.int)) (hr : IsRow ns) : EvL (tCall (sp_sums K) [] E (tCons te tNil)) σ H ((sumsL ns).map V.int) :=
  el_call1 h (spl fun H1 e Q E q => ⟨a, ns, rfl, ex_l e hS, fun _ => q, fun n => absurd hr n⟩)
/-- sums of a new list -/
theorem el_sumsL {E : XK} {ns : List Int} (h : EvL te σ H (ns.map V.int)) (hr : IsRow ns) : EvL (tCall (sp_sums K) [] E (tCons te tNil)) σ H ((sumsL ns).map V.int) := fun H0 e0 Q q =>
  h H0 e0 _ fun p H1 _ e1 hp => ⟨p, ns, rfl, sq_of hp, fun _ => fun p2 H2 hp2 e2 h2 => q p2 H2 (fresh_back e1 hp2) (e1.trans e2) h2, fun n => absurd hr n⟩
theorem el_law_sums {E : XK} {a : Addr} {ns : List Int} (h : Ev te σ H (.ref a)) (hS : SqL K H a (ns.map V.int)) (hl : ns.length ≤ 32) (hb : ∀ x ∈ ns, x.natAbs < 2 ^ 100) : EvL (tCall (sp_law_sums K) [] E (tCons te tNil)) σ H ((sumsL ns).map V.int) :=
  el_call1 h (spl fun H1 e Q E q => ⟨a, ns, rfl, ex_l e hS, hl, hb, q⟩)
/-- 9 * 10 ** k -/
theorem ev_pow {b k : Int} {n : Nat} (h0 : 0 ≤ k ∧ k ≤ 1000) (hb : b.natAbs < 2 ^ 64) (ha : Ev ta σ H (.int b)) (hk : Ev tb σ H (.int k)) : Ev (tOp rPowI ta tb) σ H (.int (b ^ k.toNat)) := ev_op ha hk (rv_I (C := CPow) (g := fun i j => .int (i ^ j.toNat)) ⟨h0.1, by omega, hb⟩)
end
end Sg
namespace Sg
open PySem PySem.Spec PyProof.Rows L2 Evl
/-! ### what evaluates to some list of these numbers, old or new -/
section
variable {K : PySem.W.Frag} {σ : L2.St} {H H' : Hp} {ta tb te tl : TE} {x y z v : V}
def EvS (K : PySem.W.Frag) (te : TE) (σ : L2.St) (H : Hp) (ns : List Int) : Prop := ∀ H1, Ex H H1 → ∀ Q : VK, (∀ p H2, Ex H1 H2 → SqL K H2 p (ns.map V.int) → Q (.ref p) H2) → te σ H1 Q
theorem EvS.mono {ns : List Int} (e : Ex H H') (h : EvS K te σ H ns) : EvS K te σ H' ns := fun H1 a Q q => h H1 (e.trans a) Q q
theorem evs_of {a : Addr} {ns : List Int} (h : Ev te σ H (.ref a)) (hS : SqL K H a (ns.map V.int)) : EvS K te σ H ns := fun H1 e Q q => h H1 e _ fun H2 e2 => q a H2 e2 (ex_l (e.trans e2) hS)
theorem evs_new {ns : List Int} (h : EvL te σ H (ns.map V.int)) : EvS K te σ H ns := fun H1 e Q q => h H1 e _ fun p H2 _ e2 hp => q p H2 e2 (sq_of hp)
theorem evs_var {a : Addr} {ns : List Int} {i : Nat} (h : σ[i]? = some (some (.ref a))) (hS : SqL K H a (ns.map V.int)) : EvS K (tVar i) σ H ns := evs_of (ev_var h) hS
/-- a call of one such list -/
theorem ev_callS {sp : Sp} {E : XK} {ns : List Int} (h : EvS K te σ H ns) (hs : ∀ p H1, Ex H H1 → SqL K H1 p (ns.map V.int) → ∀ (Q : VK) (E : XK), RetV z H1 Q → sp [.ref p] H1 Q E) : Ev (tCall sp [] E (tCons te tNil)) σ H z := fun H0 e0 Q q =>
  h H0 e0 _ fun p H1 e1 hp => hs p H1 (e0.trans e1) hp Q E fun H2 e2 => q H2 (e1.trans e2)
theorem el_callS {sp : Sp} {E : XK} {ns : List Int} {xs : List V} (h : EvS K te σ H ns) (hs : ∀ p H1, Ex H H1 → SqL K H1 p (ns.map V.int) → ∀ (Q : VK) (E : XK), RetL xs H1 Q → sp [.ref p] H1 Q E) : EvL (tCall sp [] E (tCons te tNil)) σ H xs := fun H0 e0 Q q =>
  h H0 e0 _ fun p H1 e1 hp => hs p H1 (e0.trans e1) hp Q E fun p2 H2 n2 e2 h2 => q p2 H2 (fresh_back e1 n2) (e1.trans e2) h2
/-- a call of two such lists -/
theorem ev_callSS {sp : Sp} {E : XK} {ns ms : List Int} (h : EvS K ta σ H ns) (h2 : EvS K tb σ H ms) (hs : ∀ p q H1, Ex H H1 → SqL K H1 p (ns.map V.int) → SqL K H1 q (ms.map V.int) → ∀ (Q : VK) (E : XK), RetV z H1 Q → sp [.ref p, .ref q] H1 Q E) :
    Ev (tCall sp [] E (tCons ta (tCons tb tNil))) σ H z := fun H0 e0 Q q =>
  h H0 e0 _ fun p H1 e1 hp => h2 H1 (e0.trans e1) _ fun p2 H2 e2 hp2 => hs p p2 H2 ((e0.trans e1).trans e2) (ex_l e2 hp) hp2 Q E fun H3 e3 => q H3 ((e1.trans e2).trans e3)
theorem el_callSS {sp : Sp} {E : XK} {ns ms : List Int} {xs : List V} (h : EvS K ta σ H ns) (h2 : EvS K tb σ H ms) (hs : ∀ p q H1, Ex H H1 → SqL K H1 p (ns.map V.int) → SqL K H1 q (ms.map V.int) → ∀ (Q : VK) (E : XK), RetL xs H1 Q → sp [.ref p, .ref q] H1 Q E) :
    EvL (tCall sp [] E (tCons ta (tCons tb tNil))) σ H xs := fun H0 e0 Q q =>
  h H0 e0 _ fun p H1 e1 hp => h2 H1 (e0.trans e1) _ fun p2 H2 e2 hp2 => hs p p2 H2 ((e0.trans e1).trans e2) (ex_l e2 hp) hp2 Q E fun p3 H3 n3 e3 h3 => q p3 H3 (fresh_back (e1.trans e2) n3) ((e1.trans e2).trans e3) h3
theorem ev_alikeS {E : XK} {ns ms : List Int} (h : EvS K ta σ H ns) (h2 : EvS K tb σ H ms) (hl : ns.length ≤ 1000) : Ev (tCall (sp_law_alike K) [] E (tCons ta (tCons tb tNil))) σ H (.bl (decide (ns = ms))) :=
  ev_callSS h h2 fun p q H1 _ hp hq Q E r => ⟨p, q, ns, ms, rfl, hp, hq, hl, r⟩
theorem el_sumsS {E : XK} {ns : List Int} (h : EvS K te σ H ns) (hr : IsRow ns) : EvL (tCall (sp_sums K) [] E (tCons te tNil)) σ H ((sumsL ns).map V.int) :=
  el_callS h fun p H1 _ hp Q E r => ⟨p, ns, rfl, hp, fun _ => r, fun n => absurd hr n⟩
theorem el_listS {ns : List Int} (h : EvS K te σ H ns) : EvL (tCB (rListS K) (tCons te tNil)) σ H (ns.map V.int) := fun H0 e0 Q q =>
  h H0 e0 _ fun p H1 e1 hp => ⟨p, ns.map V.int, rfl, .inl hp, fun l hl => q l _ (fresh_back e1 hl) (e1.trans (Ex.new hl)) upd_same⟩
theorem ev_lenS {ns : List Int} (h : EvS K te σ H ns) : Ev (tCB (rLenS K) (tCons te tNil)) σ H (.int (ns.length : Int)) := fun H0 e0 Q q =>
  h H0 e0 _ fun p H1 e1 hp => ⟨p, ns.map V.int, rfl, .inl hp, by
    rw [List.length_map]
    exact q H1 e1⟩
theorem ev_sumS {ns : List Int} (h : EvS K te σ H ns) : Ev (tCB (rSum K) (tCons te tNil)) σ H (.int ns.sum) := fun H0 e0 Q q =>
  h H0 e0 _ fun p H1 e1 hp => ⟨p, ns, rfl, hp, q H1 e1⟩
theorem ev_eqS {ns ms : List Int} (h : EvS K ta σ H ns) (h2 : EvS K tb σ H ms) : Ev (tOp (rEqD K) ta tb) σ H (.bl (decide (ns = ms))) := fun H0 e0 Q q =>
  h H0 e0 _ fun p H1 e1 hp => h2 H1 (e0.trans e1) _ fun p2 H2 e2 hp2 => rv_eqL (ex_l e2 hp) hp2 H2 (Ex.refl H2) _ fun H3 e3 => q H3 ((e1.trans e2).trans e3)
theorem ev_neS {ns ms : List Int} (h : EvS K ta σ H ns) (h2 : EvS K tb σ H ms) : Ev (tOp (rNeD K) ta tb) σ H (.bl (!decide (ns = ms))) := fun H0 e0 Q q =>
  h H0 e0 _ fun p H1 e1 hp => h2 H1 (e0.trans e1) _ fun p2 H2 e2 hp2 => rv_neL (ex_l e2 hp) hp2 H2 (Ex.refl H2) _ fun H3 e3 => q H3 ((e1.trans e2).trans e3)
theorem el_law_sumsS {E : XK} {ns : List Int} (h : EvS K te σ H ns) (hl : ns.length ≤ 32) (hb : ∀ x ∈ ns, x.natAbs < 2 ^ 100) : EvL (tCall (sp_law_sums K) [] E (tCons te tNil)) σ H ((sumsL ns).map V.int) :=
  el_callS h fun p H1 _ hp Q E r => ⟨p, ns, rfl, hp, hl, hb, r⟩
theorem evs_ix {ns : List Int} {i : Int} {k : Nat} (h : EvS K ta σ H ns) (hi : Ev tb σ H (.int i)) (e : i = (k : Int)) (hk : k < ns.length) : Ev (tOp (rIxL K) ta tb) σ H (.int (ns.getD k 0)) := fun H0 e0 Q q =>
  h H0 e0 _ fun p H1 e1 hp => hi H1 (e0.trans e1) _ fun H2 e2 => rv_ixN (ex_l e2 hp) e hk H2 (Ex.refl H2) _ fun H3 e3 => q H3 ((e1.trans e2).trans e3)
/-! ### comprehensions -/
theorem int_of_map {ns : List Int} {i : Nat} {x : V} (h : (ns.map V.int)[i]? = some x) : ∃ n, ns[i]? = some n ∧ x = .int n := by
  rw [List.getElem?_map] at h
  cases e : ns[i]? with
  | none => rw [e] at h; cases h
  | some n => rw [e] at h; exact ⟨n, rfl, (Option.some.inj h).symm⟩
theorem given_map {ns : List Int} (g : Int → V) : given ns.length (fun _ => true) (fun i => g (ns.getD i 0)) = ns.map g := by
  rw [given_yes_all]
  refine List.ext_getElem (by rw [List.length_map, List.length_range, List.length_map]) fun k h1 h2 => ?_
  rw [List.length_map] at h2
  rw [List.getElem_map, List.getElem_range, List.getElem_map, List.getD_eq_getElem?_getD, List.getElem?_eq_getElem h2] <;> rfl
/-- [e for x in such a list] -/
theorem el_mapS {ns : List Int} {j : Nat} {vs : List Nat} (g : Int → V) (h : EvS K tl σ H ns) (hz : ns.length ≤ 40000) (hw : ∀ x, wipe ((wipe σ vs).set j (some x)) vs = wipe σ vs)
    (he : ∀ n ∈ ns, ∀ H1, Ex H H1 → Ev te ((wipe σ vs).set j (some (.int n))) H1 (g n)) : EvL (tLc (iList K tl) (gName j) tYes te vs) σ H (ns.map g) := fun H0 e0 Q q =>
  h H0 e0 _ fun a H1 e1 hx => ⟨a, rfl, ⟨ns.map V.int, hx⟩, fun Dl hD =>
    lc_list (xs := ns.map V.int) (Cw H1 (fun _ => true) (fun i => g (ns.getD i 0)) Dl) ⟨hD, Ex.new hD, upd_same⟩ (fun i H2 _ p => ex_l p.2.1 hx) (fun i x H2 hi p => by
      obtain ⟨n, hn, rfl⟩ := int_of_map hi
      have hl : i < ns.length := (List.getElem?_eq_some_iff.mp hn).1
      refine ⟨hw _, cw_turn p (by omega) et_yes fun _ => ?_⟩
      have e : ns.getD i 0 = n := by rw [List.getD_eq_getElem?_getD, hn] <;> rfl
      rw [e]
      exact he n (List.mem_of_getElem? hn) H1 (e0.trans e1)) (fun H2 p => by
      have p3 := p.2.2
      rw [List.length_map, given_map] at p3
      exact q Dl H2 (fresh_back e1 p.1) (e1.trans p.2.1) p3)⟩
/-- [e for i in range(n)] -/
theorem el_mapR {ta : TA} {j n : Nat} {vs : List Nat} (g : Nat → V) (h : EvA ta σ H [.int (n : Int)]) (hn : n ≤ 40000) (hw : ∀ x, wipe ((wipe σ vs).set j (some x)) vs = wipe σ vs)
    (he : ∀ i : Nat, i < n → ∀ H1, Ex H H1 → Ev te ((wipe σ vs).set j (some (.int (i : Int)))) H1 (g i)) : EvL (tLc (iRng1 ta) (gName j) tYes te vs) σ H ((List.range n).map g) := by
  have el := el_lcR1 (σ := σ) (H := H) (t := tYes) (te := te) (ta := ta) (j := j) (vs := vs) (n := (n : Int)) (fun _ => true) g h ⟨by omega, by omega⟩ hw (fun _ _ _ _ => et_yes) (fun i H1 e hi _ => he i (by omega) H1 e)
  rw [given_yes_all, Int.toNat_natCast] at el
  exact el
/-- [e for i in range(n) if t] -/
theorem el_filR {ta : TA} {t : TT} {j n : Nat} {vs : List Nat} (f : Nat → Bool) (g : Nat → V) (h : EvA ta σ H [.int (n : Int)]) (hn : n ≤ 40000) (hw : ∀ x, wipe ((wipe σ vs).set j (some x)) vs = wipe σ vs)
    (ht : ∀ i : Nat, i < n → ∀ H1, Ex H H1 → EvT t ((wipe σ vs).set j (some (.int (i : Int)))) H1 (f i)) (he : ∀ i : Nat, i < n → ∀ H1, Ex H H1 → Ev te ((wipe σ vs).set j (some (.int (i : Int)))) H1 (g i)) :
    EvL (tLc (iRng1 ta) (gName j) t te vs) σ H (((List.range n).filter f).map g) := by
  have el := el_lcR1 (σ := σ) (H := H) (t := t) (te := te) (ta := ta) (j := j) (vs := vs) (n := (n : Int)) f g h ⟨by omega, by omega⟩ hw (fun i H1 e hi => ht i (by omega) H1 e) (fun i H1 e hi _ => he i (by omega) H1 e)
  rw [Int.toNat_natCast] at el
  exact el
theorem ev_anyL {bs : List Bool} (h : EvL te σ H (bs.map V.bl)) : Ev (tCB (rAny K) (tCons te tNil)) σ H (.bl (bs.any id)) := fun H0 e0 Q q => h H0 e0 _ fun p H1 _ e1 hp => ⟨p, bs, rfl, sq_of hp, q H1 e1⟩
theorem ev_allL {bs : List Bool} (h : EvL te σ H (bs.map V.bl)) : Ev (tCB (rAll K) (tCons te tNil)) σ H (.bl (bs.all id)) := fun H0 e0 Q q => h H0 e0 _ fun p H1 _ e1 hp => ⟨p, bs, rfl, sq_of hp, q H1 e1⟩
end
end Sg
namespace Sg
open PySem PySem.Spec PyProof.Rows L2 Evl
theorem five_at {i : Nat} {x : V} (hx : ([.int 1, .int 2, .int 4, .int 8, .int 16] : List V)[i]? = some x) : ∃ w : Int, ([1, 2, 4, 8, 16] : List Int)[i]? = some w ∧ x = .int w ∧ 0 < w ∧ w < 1073741824 := by
  match i, hx with
  | 0, hx => cases hx; exact ⟨1, rfl, rfl, by decide, by decide⟩
  | 1, hx => cases hx; exact ⟨2, rfl, rfl, by decide, by decide⟩
  | 2, hx => cases hx; exact ⟨4, rfl, rfl, by decide, by decide⟩
  | 3, hx => cases hx; exact ⟨8, rfl, rfl, by decide, by decide⟩
  | 4, hx => cases hx; exact ⟨16, rfl, rfl, by decide, by decide⟩
  | n + 5, hx => cases hx
end Sg
namespace Sg
open PySem PySem.Spec PyProof.Rows L2 Evl
theorem inV_two' (i a b : Int) : inV (.int i) [.int a, .int b] = decide (i = a ∨ i = b) := by
  by_cases h : i = a ∨ i = b
  · rw [decide_eq_true h]
    rcases h with rfl | rfl <;> simp [inV, eqV]
  · rw [decide_eq_false h]
    simp only [not_or] at h
    simp [inV, eqV]
    omega
end Sg
namespace Sg
/-! ### sums of sums -/
theorem getD_map_range {n c : Nat} (f : Nat → Int) (h : c < n) : ((List.range n).map f).getD c 0 = f c := by
  rw [List.getD_eq_getElem?_getD, List.getElem?_map, List.getElem?_range h] <;> rfl
theorem getD_sumsL {ns : List Int} {c : Nat} (h : c < ns.length) : (sumsL ns).getD c 0 = sumAt ns c := getD_map_range _ h
theorem list_eq_range (ns : List Int) : ns = (List.range ns.length).map fun i => ns.getD i 0 := by
  refine List.ext_getElem (by rw [List.length_map, List.length_range]) fun k h1 _ => ?_
  rw [List.getElem_map, List.getElem_range, List.getD_eq_getElem?_getD, List.getElem?_eq_getElem h1] <;> rfl
theorem sg_symm : ∀ p, p < 32 → ∀ c, c < 32 → sg (p : Nat) (c : Nat) = sg (c : Nat) (p : Nat) := by decide +kernel
theorem sg_ortho : ∀ s, s < 6 → ∀ p, p < 2 ^ s → ∀ q, q < 2 ^ s → sm (2 ^ s) (fun c => sg (p : Nat) (c : Nat) * sg (c : Nat) (q : Nat)) = if p = q then ((2 ^ s : Nat) : Int) else 0 := by decide +kernel
theorem sumAt_twice {ns : List Int} {s : Nat} (hs : s < 6) (hn : ns.length = 2 ^ s) {q : Nat} (hq : q < 2 ^ s) : sumAt (sumsL ns) q = (ns.length : Int) * ns.getD q 0 := by
  unfold sumAt
  rw [sumsL_length]
  have h32 := (Sg.pow_le' hs)
  have e1 : sm ns.length (fun c => sg (c : Nat) (q : Nat) * (sumsL ns).getD c 0) = sm ns.length fun c => sm ns.length fun p => ns.getD p 0 * (sg (p : Nat) (c : Nat) * sg (c : Nat) (q : Nat)) := by
    refine sm_congr fun c hc => ?_
    rw [getD_sumsL hc]
    unfold sumAt
    rw [← sm_mulL]
    refine sm_congr fun p _ => ?_
    rw [← Int.mul_assoc, Int.mul_comm, Int.mul_comm (sg (c : Nat) (q : Nat))]
  rw [e1, sm_swap]
  have e2 : sm ns.length (fun p => sm ns.length fun c => ns.getD p 0 * (sg (p : Nat) (c : Nat) * sg (c : Nat) (q : Nat))) = sm ns.length fun p => (ns.length : Int) * (ns.getD p 0 * (if p = q then 1 else 0)) := by
    refine sm_congr fun p hp => ?_
    rw [sm_mulL, hn, sg_ortho s hs p (by omega) q hq]
    by_cases h : p = q
    · rw [if_pos h, if_pos h, Int.mul_one, Int.mul_comm]
    · rw [if_neg h, if_neg h, Int.mul_zero, Int.mul_zero]
  rw [e2, sm_mulL, sm_delta, if_pos (by omega)]
theorem map_eq_range (ns : List Int) (g : Int → Int) : ns.map g = (List.range ns.length).map fun i => g (ns.getD i 0) := by
  refine List.ext_getElem (by rw [List.length_map, List.length_map, List.length_range]) fun k h1 h2 => ?_
  rw [List.length_map] at h1
  rw [List.getElem_map, List.getElem_map, List.getElem_range, List.getD_eq_getElem?_getD, List.getElem?_eq_getElem h1] <;> rfl
/-- the sums of the sums -/
theorem sums_twice {ns : List Int} {s : Nat} (hs : s < 6) (hn : ns.length = 2 ^ s) : sumsL (sumsL ns) = ns.map fun x => x * (ns.length : Int) := by
  rw [map_eq_range]
  show (List.range (sumsL ns).length).map (sumAt (sumsL ns)) = _
  rw [sumsL_length]
  refine List.map_congr_left fun q hq => ?_
  rw [List.mem_range] at hq
  rw [sumAt_twice hs hn (by omega), Int.mul_comm]
/-- the row whose sums these are -/
def backL (ns : List Int) : List Int := (sumsL ns).map fun x => x / (ns.length : Int)
theorem back_sums {ns : List Int} {s : Nat} (hs : s < 6) (hn : ns.length = 2 ^ s) : backL (sumsL ns) = ns := by
  unfold backL
  rw [sums_twice hs hn, sumsL_length, List.map_map]
  refine (List.map_congr_left fun x _ => ?_).trans (List.map_id ns)
  have h0 : (ns.length : Int) ≠ 0 := by have := Nat.two_pow_pos s; omega
  exact Int.mul_ediv_cancel _ h0
theorem sums_twice_mod {ns : List Int} {s : Nat} (hs : s < 6) (hn : ns.length = 2 ^ s) : ∀ x ∈ sumsL (sumsL ns), x % (ns.length : Int) = 0 := by
  intro x hx
  rw [sums_twice hs hn] at hx
  obtain ⟨y, _, rfl⟩ := List.mem_map.mp hx
  exact Int.mul_emod_left _ _
/-! ### how great sums are -/
theorem sm_bd {n : Nat} {f : Nat → Int} {B : Int} (h : ∀ i, i < n → -B ≤ f i ∧ f i ≤ B) : -((n : Int) * B) ≤ sm n f ∧ sm n f ≤ (n : Int) * B := by
  induction n with
  | zero => rw [sm_zero]; simp
  | succ n ih =>
    have h1 := ih fun i hi => h i (by omega)
    have h2 := h n (by omega)
    rw [sm_succ, Int.natCast_succ, Int.add_mul, Int.one_mul]
    generalize (n : Int) * B = z at h1
    omega
theorem sg_bd (p c : Int) (x B : Int) (h : -B ≤ x ∧ x ≤ B) : -B ≤ sg p c * x ∧ sg p c * x ≤ B := by
  have z := sg_abs1 p c
  have z2 : sg p c = 1 ∨ sg p c = -1 := by omega
  rcases z2 with e | e <;> rw [e] <;> omega
theorem getD_bd {ns : List Int} {B : Int} (hB : 0 ≤ B) (h : ∀ x ∈ ns, -B ≤ x ∧ x ≤ B) (p : Nat) : -B ≤ ns.getD p 0 ∧ ns.getD p 0 ≤ B := by
  rw [List.getD_eq_getElem?_getD]
  cases e : ns[p]? with
  | none => show -B ≤ 0 ∧ 0 ≤ B; omega
  | some x => exact h x (List.mem_of_getElem? e)
theorem sumsL_bd {ns : List Int} {B : Int} (hB : 0 ≤ B) (h : ∀ x ∈ ns, -B ≤ x ∧ x ≤ B) : ∀ y ∈ sumsL ns, -((ns.length : Int) * B) ≤ y ∧ y ≤ (ns.length : Int) * B := by
  intro y hy
  obtain ⟨c, _, rfl⟩ := List.mem_map.mp hy
  exact sm_bd fun p _ => sg_bd _ _ _ _ (getD_bd hB h p)
theorem sums_isRow {ns : List Int} {B : Int} (hB : 0 ≤ B) (hn : ns.length ∈ [1, 2, 4, 8, 16, 32]) (h : ∀ x ∈ ns, -B ≤ x ∧ x ≤ B) (hb : (ns.length : Int) * B ≤ 100000000000000000000) : IsRow (sumsL ns) := by
  refine ⟨by rw [sumsL_length]; exact hn, fun y hy => ?_⟩
  have := sumsL_bd hB h y hy
  omega
/-! ### the squares; two rows together -/
def sq (ns : List Int) : Int := (ns.map fun x => x * x).sum
theorem sum_range (n : Nat) (f : Nat → Int) : ((List.range n).map f).sum = sm n f := rfl
theorem sq_sm (ns : List Int) : sq ns = sm ns.length fun i => ns.getD i 0 * ns.getD i 0 := by
  unfold sq
  rw [map_eq_range]
  exact sum_range _ _
theorem parseval {ns : List Int} {s : Nat} (hs : s < 6) (hn : ns.length = 2 ^ s) : sq (sumsL ns) = (ns.length : Int) * sq ns := by
  rw [sq_sm, sumsL_length, sq_sm]
  have h32 := pow_le' hs
  have e1 : sm ns.length (fun c => (sumsL ns).getD c 0 * (sumsL ns).getD c 0) = sm ns.length fun c => sm ns.length fun p => ns.getD p 0 * (sg (p : Nat) (c : Nat) * (sumsL ns).getD c 0) := by
    refine sm_congr fun c hc => ?_
    have e : (sumsL ns).getD c 0 * (sumsL ns).getD c 0 = (sumsL ns).getD c 0 * sumAt ns c := by rw [getD_sumsL hc]
    rw [e]
    unfold sumAt
    rw [← sm_mulL]
    refine sm_congr fun p _ => ?_
    rw [Int.mul_comm, Int.mul_comm (sg _ _) (ns.getD p 0), Int.mul_assoc]
  rw [e1, sm_swap, ← sm_mulL]
  refine sm_congr fun p hp => ?_
  rw [sm_mulL]
  have e2 : sm ns.length (fun c => sg (p : Nat) (c : Nat) * (sumsL ns).getD c 0) = sumAt (sumsL ns) p := by
    unfold sumAt
    rw [sumsL_length]
    exact sm_congr fun c hc => by rw [sg_symm p (by omega) c (by omega)]
  rw [e2, sumAt_twice hs hn (by omega), ← Int.mul_assoc, Int.mul_comm (ns.getD p 0), Int.mul_assoc]
def addL (ns ms : List Int) : List Int := (List.range ns.length).map fun i => ns.getD i 0 + ms.getD i 0
theorem addL_length (ns ms : List Int) : (addL ns ms).length = ns.length := by
  unfold addL
  rw [List.length_map, List.length_range]
theorem sums_add {ns ms : List Int} (h : ms.length = ns.length) : sumsL (addL ns ms) = addL (sumsL ns) (sumsL ms) := by
  show (List.range (addL ns ms).length).map (sumAt (addL ns ms)) = (List.range (sumsL ns).length).map fun i => (sumsL ns).getD i 0 + (sumsL ms).getD i 0
  rw [addL_length, sumsL_length]
  refine List.map_congr_left fun c hc => ?_
  rw [List.mem_range] at hc
  rw [getD_sumsL hc, getD_sumsL (by omega)]
  unfold sumAt
  rw [addL_length, h, ← sm_add]
  refine sm_congr fun p hp => ?_
  unfold addL
  rw [getD_map_range _ hp, Int.mul_add]
end Sg
namespace Sg
open PySem PySem.Spec PyProof.Rows L2 Evl
theorem mod_at3 (i : Int) (n : Nat) (hn : 0 < n) : ∃ s : Nat, s < n ∧ i % (n : Int) = (s : Int) := by
  have h1 := Int.emod_nonneg i (show (n : Int) ≠ 0 by omega)
  have h2 := Int.emod_lt_of_pos i (show (0 : Int) < n by omega)
  exact ⟨(i % (n : Int)).toNat, by omega, by omega⟩
section
variable {K : PySem.W.Frag} {σ : L2.St} {H : Hp} {ta : TE}
theorem ev_atT {p : Addr} {xs : List V} {v : V} {i : Int} (h : Ev ta σ H (.ref p)) (hT : SqT K H p xs) (ha : atI xs i = some v) : Ev (tOp (rIxT K) ta (tC (.int i))) σ H v := ev_op h ev_c (rv_ixT hT ha)
end
theorem filter_bad (ns : List Int) (n : Int) : (((ns.filter fun x => !decide (x % n = 0)).length : Int) > 0) ↔ ¬ ∀ x ∈ ns, x % n = 0 := by
  constructor
  · intro h1 h2
    have e : ns.filter (fun x => !decide (x % n = 0)) = [] := List.filter_eq_nil_iff.mpr fun x hx => by rw [decide_eq_true (h2 x hx)]; decide
    rw [e] at h1
    exact absurd h1 (by decide)
  · intro h
    cases e : ns.filter (fun x => !decide (x % n = 0)) with
    | nil => exact absurd (fun x hx => by
        have z := List.filter_eq_nil_iff.mp e x hx
        by_cases g : x % n = 0
        · exact g
        · rw [decide_eq_false g] at z
          exact absurd rfl z) h
    | cons x l => rw [List.length_cons]; omega
theorem el_filS {K : PySem.W.Frag} {σ : L2.St} {H : Hp} {tl te : TE} {t : TT} {ns : List Int} {j : Nat} {vs : List Nat} (f : Int → Bool) (h : EvS K tl σ H ns) (hz : ns.length ≤ 40000) (hw : ∀ x, wipe ((wipe σ vs).set j (some x)) vs = wipe σ vs)
    (ht : ∀ n ∈ ns, ∀ H1, Ex H H1 → EvT t ((wipe σ vs).set j (some (.int n))) H1 (f n)) (he : ∀ n ∈ ns, ∀ H1, Ex H H1 → Ev te ((wipe σ vs).set j (some (.int n))) H1 (.int n)) : EvL (tLc (iList K tl) (gName j) t te vs) σ H ((ns.filter f).map V.int) := fun H0 e0 Q q =>
  h H0 e0 _ fun a H1 e1 hx => ⟨a, rfl, ⟨ns.map V.int, hx⟩, fun Dl hD =>
    lc_list (xs := ns.map V.int) (Cw H1 (fun i => f (ns.getD i 0)) (fun i => .int (ns.getD i 0)) Dl) ⟨hD, Ex.new hD, upd_same⟩ (fun i H2 _ p => ex_l p.2.1 hx) (fun i x H2 hi p => by
      obtain ⟨n, hn, rfl⟩ := int_of_map hi
      have hl : i < ns.length := (List.getElem?_eq_some_iff.mp hn).1
      have e : ns.getD i 0 = n := by rw [List.getD_eq_getElem?_getD, hn] <;> rfl
      refine ⟨hw _, cw_turn p (by omega) (by rw [e]; exact ht n (List.mem_of_getElem? hn) H1 (e0.trans e1)) fun _ => ?_⟩
      rw [e]
      exact he n (List.mem_of_getElem? hn) H1 (e0.trans e1)) (fun H2 p => by
      have p3 := p.2.2
      have eg : given (ns.map V.int).length (fun i => f (ns.getD i 0)) (fun i => .int (ns.getD i 0)) = (ns.filter f).map V.int := by
        rw [List.length_map]
        unfold given
        have e2 : ns.filter f = ((List.range ns.length).filter fun i => f (ns.getD i 0)).map fun i => ns.getD i 0 := by
          conv => lhs; rw [list_eq_range ns]
          rw [List.filter_map]
          rfl
        rw [e2, List.map_map]
        rfl
      rw [eg] at p3
      exact q Dl H2 (fresh_back e1 p.1) (e1.trans p.2.1) p3)⟩
end Sg
namespace Sg
open PySem PySem.Spec PyProof.Rows L2 Evl
/-! ### texts -/
abbrev rJoin (K : PySem.W.Frag) : V → List V → Hp → VK → Prop := fun x xs H Q => ∃ a p, ∃ ys : List Str, x = .str a ∧ xs = [.ref p] ∧ (SqL K H p (ys.map V.str) ∨ SqT K H p (ys.map V.str)) ∧ (ys.map (·.length)).sum + ys.length * a.length ≤ 16777216 ∧ Q (.str (Txt.join a ys)) H
abbrev rSplit : V → List V → Hp → VK → Prop := fun x xs H Q => ∃ a b, x = .str a ∧ xs = [.str b] ∧ (b.length == 0) = false ∧ a.length + 2 ≤ sizeLine ∧ rNewStrs (Txt.split a b) H Q
def textI (i : Int) : Str := Str.ofString (toString i)
def numI (i : Int) : List Nat := if i < 0 then 45 :: TL.numL i.natAbs else TL.numL i.natAbs
theorem tl_text (i : Int) : TL.tl (textI i) = numI i := by
  unfold textI numI
  cases i with
  | ofNat n =>
    have z : ¬ Int.ofNat n < 0 := fun h => absurd (show (n : Int) < 0 from h) (by omega)
    rw [if_neg z]
    exact TL.tl_num n
  | negSucc n =>
    rw [if_pos (Int.negSucc_lt_zero n)]
    have e : (toString (Int.negSucc n) : String) = "-" ++ toString (((n + 1 : Nat) : Int)) := rfl
    rw [e, TL.tl_ofString, String.toList_append, List.map_append]
    have e2 := TL.tl_num (n + 1)
    rw [TL.tl_ofString] at e2
    rw [e2]
    rfl
theorem numI_len {i : Int} (h : i.natAbs < 1000000000000000000000) : (numI i).length ≤ 22 := by
  have z := TL.numL_len (n := i.natAbs) (k := 21) (by decide) (by omega)
  unfold numI
  split
  · rw [List.length_cons]
    omega
  · omega
theorem text_len {i : Int} (h : i.natAbs < 1000000000000000000000) : (textI i).length ≤ 22 := by
  rw [TL.len_tl, tl_text]
  exact numI_len h
def textL (ns : List Int) : Str := Txt.join " " (ns.map textI)
theorem texts_sum : ∀ {ns : List Int}, (∀ x ∈ ns, x.natAbs < 1000000000000000000000) → ((ns.map textI).map (·.length)).sum ≤ 22 * ns.length
  | [], _ => Nat.le_refl _
  | x :: ns, h => by
    rw [List.map_cons, List.map_cons, List.sum_cons, List.length_cons]
    have a := text_len (h x List.mem_cons_self)
    have b := texts_sum fun y hy => h y (List.mem_cons_of_mem _ hy)
    omega
def sp_shown (K : PySem.W.Frag) : Sp := fun vs H Q E => ∃ (a : Addr) (ns : List Int), vs = [.ref a] ∧ SqL K H a (ns.map V.int) ∧ (IsRow ns → RetV (.str (textL ns)) H Q) ∧ (¬ IsRow ns → ∀ H', Ex H H' → E (.ref (He.ga K "NoRow")) none H')
theorem len_shown {K : PySem.W.Frag} : ∀ vs H Q E, sp_shown K vs H Q E → vs.length = 1 := fun _ _ _ _ h => by
  obtain ⟨_, _, rfl, _⟩ := h; rfl
section
variable {K : PySem.W.Frag} {σ : L2.St} {H : Hp} {ta tb te tl : TE}
theorem log2_small {n : Nat} (h : n < 2 ^ 1900) : n.log2 < 1920 := by
  by_cases h0 : n = 0
  · rw [h0]; decide
  · exact Nat.lt_of_lt_of_le ((Nat.log2_lt h0).mpr h) (by decide)
theorem ev_strI {i : Int} (h : Ev te σ H (.int i)) (hs : i.natAbs < 1000000000000000000000) : Ev (tCB rStrInt (tCons te tNil)) σ H (.str (textI i)) := fun H1 e Q q => h H1 e _ fun H2 e2 => ⟨i, rfl, log2_small (Nat.lt_of_lt_of_le hs (by decide +kernel)), q H2 e2⟩
theorem ev_join {ys : List Str} {a : Str} (h : Ev ta σ H (.str a)) (h2 : EvL te σ H (ys.map V.str)) (hz : (ys.map (·.length)).sum + ys.length * a.length ≤ 16777216) : Ev (tM1 (rJoin K) ta te) σ H (.str (Txt.join a ys)) := fun H0 e0 Q q =>
  h H0 e0 _ fun H1 e1 => ⟨⟨a, rfl⟩, h2 H1 (e0.trans e1) _ fun p H2 _ e2 hp => ⟨a, p, ys, rfl, rfl, .inl (sq_of hp), hz, q H2 (e1.trans e2)⟩⟩
/-- [str(x) for x in a row] -/
theorem el_strs {ns : List Int} {j : Nat} {vs : List Nat} (h : EvS K tl σ H ns) (hz : ns.length ≤ 1000) (hb : ∀ x ∈ ns, x.natAbs < 1000000000000000000000) (hw : ∀ x, wipe ((wipe σ vs).set j (some x)) vs = wipe σ vs) (he : ∀ n : Int, ((wipe σ vs).set j (some (.int n)))[j]? = some (some (.int n))) :
    EvL (tLc (iList K tl) (gName j) tYes (tCB rStrInt (tCons (tVar j) tNil)) vs) σ H ((ns.map textI).map V.str) := by
  rw [List.map_map]
  exact el_mapS (fun x => .str (textI x)) h (by omega) hw fun n hn H1 e1 => ev_strI (ev_var (he n)) (hb n hn)
theorem row_text {ns : List Int} (h : IsRow ns) : ∀ x ∈ ns, x.natAbs < 1000000000000000000000 := fun x hx => by
  have := h.2 x hx
  omega
end
end Sg
namespace Sg
open PySem PySem.Spec PyProof.Rows L2 Evl
/-! ### words that write numbers -/
abbrev rNoInSg : R2 := fun x y H Q => ∃ (c : Nat) (z : Str), x = .str ⟨#[c]⟩ ∧ y = .str z ∧ Q (.bl (!decide (c ∈ z.cps.toList))) H
section
variable {K : PySem.W.Frag} {σ : L2.St} {H : Hp} {ta tb te tl : TE} {D : Ends} {tu tz : TS}
/-- for sign in a text -/
theorem s_forS {w : Str} {j : Nat} (h : Ev tl σ H (.str w)) (Pv : Nat → L2.St → Hp → Prop) (h0 : ∀ H1, Ex H H1 → Pv 0 σ H1)
    (hs : ∀ i c σ' H', (TL.tl w)[i]? = some c → Pv i σ' H' → tu { D with nx := Pv (i + 1), ct := Pv (i + 1), bk := D.nx } (σ'.set j (some (.str ⟨#[c]⟩))) H') (hd : ∀ σ' H', Pv (TL.tl w).length σ' H' → D.nx σ' H') : tFor (iStr tl) (gName j) tu D σ H :=
  h H (Ex.refl H) _ fun H1 e1 => ⟨w, rfl, for_it walk_str Pv (h0 H1 e1) (fun _ _ _ _ _ => trivial) (fun i x σ' H2 H3 _ p y => by
    obtain ⟨rfl, c, hc, rfl⟩ := y
    exact hs i c σ' H3 (by rw [← hc, Array.getElem?_toList]) p) fun σ' H2 p => hd σ' H2 (by
      have e : (TL.tl w).length = w.cps.size := Array.length_toList
      rw [e]
      exact p)⟩
theorem q_forS {w : Str} {j : Nat} (h : Ev tl σ H (.str w)) (Pv : Nat → L2.St → Hp → Prop) (h0 : ∀ H1, Ex H H1 → Pv 0 σ H1)
    (hs : ∀ i c σ' H', (TL.tl w)[i]? = some c → Pv i σ' H' → tu { D with nx := Pv (i + 1), ct := Pv (i + 1), bk := tz D } (σ'.set j (some (.str ⟨#[c]⟩))) H') (hd : ∀ σ' H', Pv (TL.tl w).length σ' H' → tz D σ' H') : tSeq (tFor (iStr tl) (gName j) tu) tz D σ H :=
  s_forS (D := { D with nx := tz D }) h Pv h0 hs hd
theorem ev_slS {w : Str} {tlo thi : TO} {lo hi : Option Int} (h : Ev te σ H (.str w)) (h1 : EvO tlo σ H lo) (h2 : EvO thi σ H hi) (hz : w.length ≤ 100000) : Ev (tSl rSlS te tlo thi) σ H (.str (cutS w lo hi)) := fun H0 e0 Q q =>
  h H0 e0 _ fun H1 e1 => h1 H1 (e0.trans e1) _ fun H2 e2 => h2 H2 ((e0.trans e1).trans e2) _ fun H3 e3 => ⟨w, rfl, sz_of hz, q H3 ((e1.trans e2).trans e3)⟩
theorem ev_lenStr {w : Str} (h : Ev te σ H (.str w)) (hz : w.length ≤ 100000) : Ev (tCB rLenStr (tCons te tNil)) σ H (.int (w.length : Nat)) := fun H0 e0 Q q => h H0 e0 _ fun H1 e1 => ⟨w, rfl, sz_of hz, q H1 e1⟩
theorem rv_eqS {a b : Str} : RV rEq (.str a) (.str b) H (.bl (decide (a = b))) := by
  have h := rv_eq (H := H) (x := .str a) (y := .str b) rfl
  have e : decide (V.str a = V.str b) = decide (a = b) := by
    by_cases z : a = b
    · rw [z, decide_eq_true rfl, decide_eq_true rfl]
    · rw [decide_eq_false z, decide_eq_false fun q => z (V.str.inj q)]
  rw [e] at h
  exact h
theorem rv_neS {a b : Str} : RV rNe (.str a) (.str b) H (.bl (!decide (a = b))) := by
  have h := rv_ne (H := H) (x := .str a) (y := .str b) rfl
  have e : decide (V.str a = V.str b) = decide (a = b) := by
    by_cases z : a = b
    · rw [z, decide_eq_true rfl, decide_eq_true rfl]
    · rw [decide_eq_false z, decide_eq_false fun q => z (V.str.inj q)]
  rw [e] at h
  exact h
theorem rv_noIn {c : Nat} {z : Str} : RV rNoInSg (.str ⟨#[c]⟩) (.str z) H (.bl (!decide (c ∈ z.cps.toList))) := fun H1 _ _ q => ⟨c, z, rfl, rfl, q H1 (Ex.refl H1)⟩
end
theorem tl_head (w : Str) : TL.tl (cutS w none (some 1)) = (TL.tl w).take 1 := by
  unfold cutS
  have e : HT.sIx w.length w.length (some 1) = min 1 w.length := HT.sIx_nat _ _ 1
  rw [HT.sIx_none, e, TL.tl_mk, List.drop_zero, Nat.sub_zero, TL.len_tl]
  show List.take (min 1 (TL.tl w).length) (TL.tl w) = _
  cases TL.tl w with
  | nil => rfl
  | cons x l => rw [List.length_cons, Nat.min_eq_left (by omega)]
theorem tl_rest (w : Str) : TL.tl (cutS w (some 1) none) = (TL.tl w).drop 1 := by
  unfold cutS
  have e : HT.sIx w.length 0 (some 1) = min 1 w.length := HT.sIx_nat _ _ 1
  rw [HT.sIx_none, e, TL.tl_mk, TL.len_tl]
  show List.take _ (List.drop (min 1 (TL.tl w).length) (TL.tl w)) = _
  cases TL.tl w with
  | nil => rfl
  | cons x l =>
    rw [List.length_cons, Nat.min_eq_left (by omega)]
    show List.take (l.length + 1 - 1) l = l
    rw [Nat.add_sub_cancel, List.take_length]
theorem str_eq (a b : Str) : a = b ↔ TL.tl a = TL.tl b := ⟨fun h => by rw [h], TL.ext_tl⟩
theorem tl_lit (s : String) : TL.tl (Str.ofString s) = s.toList.map Char.toNat := TL.tl_ofString s
/-- what number_of takes as the figures of a word -/
def figs (l : List Nat) : List Nat := if l.take 1 = [45] then l.drop 1 else l
def chkL (l : List Nat) : Bool := decide (1 ≤ (figs l).length ∧ (figs l).length ≤ 21) && (!((figs l).head? == some 48 && !(l == [48])) && (figs l).all fun c => decide (48 ≤ c ∧ c ≤ 57))
theorem numL_head : ∀ n : Nat, 0 < n → (TL.numL n).head? ≠ some 48 := by
  intro n
  induction n using Nat.strongRecOn with
  | ind n ih =>
    intro h0
    by_cases h : n < 10
    · rw [TL.numL_lt h]
      intro z
      injection z with z
      omega
    · rw [TL.numL_step (by omega)]
      have z := ih (n / 10) (by omega) (by omega)
      cases e : TL.numL (n / 10) with
      | nil => exact absurd e (TL.numL_ne _)
      | cons x l =>
        rw [e] at z
        exact z
theorem num_head (n : Nat) : ∃ c l, TL.numL n = c :: l ∧ 48 ≤ c ∧ c ≤ 57 := by
  cases e : TL.numL n with
  | nil => exact absurd e (TL.numL_ne n)
  | cons c l =>
    have h := TL.numL_digits n
    rw [e] at h
    exact ⟨c, l, rfl, h.head⟩
theorem figs_num (i : Int) : figs (numI i) = TL.numL i.natAbs := by
  unfold figs numI
  by_cases h : i < 0
  · rw [if_pos h, if_pos (show List.take 1 (45 :: TL.numL i.natAbs) = [45] from rfl)] <;> rfl
  · rw [if_neg h]
    obtain ⟨c, l, e, h1, h2⟩ := num_head i.natAbs
    rw [e, if_neg]
    intro z
    injection z with z
    omega
theorem chk_num {i : Int} (h : i.natAbs < 1000000000000000000000) : chkL (numI i) = true := by
  unfold chkL
  rw [figs_num]
  have z := TL.numL_len (n := i.natAbs) (k := 21) (by decide) (by omega)
  obtain ⟨c, l, e, h1, h2⟩ := num_head i.natAbs
  have hp : 1 ≤ (TL.numL i.natAbs).length := by rw [e, List.length_cons]; omega
  rw [decide_eq_true ⟨hp, z⟩, Bool.true_and, Bool.and_eq_true]
  constructor
  · by_cases hz : i = 0
    · subst hz
      decide
    · have nh := numL_head i.natAbs (by omega)
      rw [beq_eq_false_iff_ne.mpr nh, Bool.false_and]
      rfl
  · exact List.all_eq_true.mpr fun c hc => decide_eq_true (TL.numL_digits _ c hc)
theorem int_text {i : Int} (h : i.natAbs < 1000000000000000000000) : PySem.intText? (textI i) = some i := by
  have z := numI_len h
  have t := tl_text i
  by_cases hn : i < 0
  · have t2 : (textI i).cps.toList = 45 :: TL.numL i.natAbs := by
      refine t.trans ?_
      unfold numI
      rw [if_pos hn]
    have g := PySem.intText_neg t2 (TL.numL_digits _) (TL.numL_ne _) (by rw [TL.len_tl, t]; omega)
    rw [g, TL.numL_val]
    congr 1
    omega
  · have t2 : (textI i).cps.toList = TL.numL i.natAbs := by
      refine t.trans ?_
      unfold numI
      rw [if_neg hn]
    have g := PySem.intText_digits (x := textI i) (by rw [t2]; exact TL.numL_digits _) (by rw [t2]; exact TL.numL_ne _) (by rw [TL.len_tl, t]; omega)
    rw [g, t2, TL.numL_val]
    congr 1
    omega
def sp_number_of (K : PySem.W.Frag) : Sp := fun vs H Q E => ∃ (w : Str), vs = [.str w] ∧ w.length ≤ 100000 ∧
  (∀ i : Int, i.natAbs < 1000000000000000000000 → w = textI i → RetV (.int i) H Q) ∧ (chkL (TL.tl w) = false → ∀ H', Ex H H' → E (.ref (He.ga K "NoNote")) none H') ∧ (chkL (TL.tl w) = true → ∃ i : Int, i.natAbs < 1000000000000000000000 ∧ w = textI i)
theorem len_number_of {K : PySem.W.Frag} : ∀ vs H Q E, sp_number_of K vs H Q E → vs.length = 1 := fun _ _ _ _ h => by
  obtain ⟨_, rfl, _⟩ := h; rfl
end Sg
namespace Sg
open PySem PySem.Spec PyProof.Rows L2 Evl
def sp_read (K : PySem.W.Frag) : Sp := fun vs H Q _ => ∃ (ns : List Int), vs = [.str (textL ns)] ∧ IsRow ns ∧ RetL (ns.map V.int) H Q
def sp_law_text (K : PySem.W.Frag) : Sp := fun vs H Q _ => ∃ (a : Addr) (ns : List Int), vs = [.ref a] ∧ SqL K H a (ns.map V.int) ∧ IsRow ns ∧ RetV (.str (textL ns)) H Q
theorem len_read {K : PySem.W.Frag} : ∀ vs H Q E, sp_read K vs H Q E → vs.length = 1 := fun _ _ _ _ h => by
  obtain ⟨_, rfl, _⟩ := h; rfl
theorem len_law_text {K : PySem.W.Frag} : ∀ vs H Q E, sp_law_text K vs H Q E → vs.length = 1 := fun _ _ _ _ h => by
  obtain ⟨_, _, rfl, _⟩ := h; rfl
end Sg
namespace Sg
open PySem PySem.Spec PyProof.Rows L2 Evl
def t_ask_row (K : PySem.W.Frag) (E : XK) : TS :=
  (tSeq (tIfS (tTest (tOp (rIn K true) (tCB (rLenS K) (tCons (tVar 0) tNil)) (tC (.ref (He.ga K "LENGTHS")))))
   (tRz E (He.ga K "NoRow"))
   tNext)
  (tFor (iList K (tVar 0)) (gName 1)
   (tIfS (tNot (tTest (tChain rLeI rLeI (tUn rNegI (tC (.int 100000000000000000000))) (tVar 1) (tC (.int 100000000000000000000)))))
    (tRz E (He.ga K "NoRow"))
    tNext)))
def N_ask_row : List Str := ["row", "number"]
def t_shown (K : PySem.W.Frag) (E : XK) : TS :=
  (tSeq (tDrop (tCall (sp_ask_row K) [] E (tCons (tVar 0) tNil)))
  (tRet (tM1 (rJoin K) (tC (.str " ")) (tLc (iList K (tVar 0)) (gName 1) tYes (tCB rStrInt (tCons (tVar 1) tNil)) [1]))))
def N_shown : List Str := ["row", "number"]
def t_number_of (K : PySem.W.Frag) (E : XK) : TS :=
  (tSeq (tAsg (tVar 0) (gName 1))
  (tSeq (tIfS (tTest (tOp rEq (tSl rSlS (tVar 0) tNoPart (tPart (tC (.int 1)))) (tC (.str "-"))))
   (tAsg (tSl rSlS (tVar 0) (tPart (tC (.int 1))) tNoPart) (gName 1))
   tNext)
  (tSeq (tIfS (tOr (tNot (tTest (tChain rLeI rLeI (tC (.int 1)) (tCB rLenStr (tCons (tVar 1) tNil)) (tC (.int 21))))) (tAnd (tTest (tOp rEq (tOp rIxS (tVar 1) (tC (.int 0))) (tC (.str "0")))) (tTest (tOp rNe (tVar 0) (tC (.str "0"))))))
   (tRz E (He.ga K "NoNote"))
   tNext)
  (tSeq (tFor (iStr (tVar 1)) (gName 2)
   (tIfS (tTest (tOp rNoInSg (tVar 2) (tC (.str "0123456789"))))
    (tRz E (He.ga K "NoNote"))
    tNext))
  (tRet (tCB rIntStr (tCons (tVar 0) tNil)))))))
def N_number_of : List Str := ["word", "figures", "sign"]
def t_read (K : PySem.W.Frag) : TS :=
  (tSeq (tAsg (tLc (iList K (tM1 rSplit (tVar 0) (tC (.str " ")))) (gName 2) tYes (tCall (sp_number_of K) [] E0 (tCons (tVar 2) tNil)) [2]) (gName 1))
  (tSeq (tDrop (tCall (sp_ask_row K) [] E0 (tCons (tVar 1) tNil)))
  (tRet (tVar 1))))
def N_read : List Str := ["text", "row", "word"]
def t_law_cell_at (K : PySem.W.Frag) : TS :=
  (tSeq (tIfS (tTest (tOp rLtI (tVar 1) (tCB (rLenS K) (tCons (tVar 0) tNil))))
   (tRet (tOp (rIxL K) (tVar 0) (tVar 1)))
   tNext)
  (tRet (tC (.int 0))))
def N__law_cell_at : List Str := ["script", "k"]
def t_law_whole (K : PySem.W.Frag) : TS :=
  (tRet (tAndV (tCB (rIsi K) (tCons (tVar 0) (tCons (tC (.ty "int")) tNil))) (tNotV (tCB (rIsi K) (tCons (tVar 0) (tCons (tC (.ty "bool")) tNil))))))
def N__law_whole : List Str := ["found"]
def t_law_next (K : PySem.W.Frag) : TS :=
  (tSeq (tAsg (tOp rModI (tOp rAddI (tVar 0) (tC (.int 7919))) (tC (.int 2147483647))) (gName 0))
  (tRet (tOp rModI (tOp rAddI (tOp rAddI (tOp rMulI (tVar 0) (tVar 0)) (tOp rMulI (tC (.int 48271)) (tVar 0))) (tC (.int 12345))) (tC (.int 2147483629)))))
def N__law_next : List Str := ["seed"]
def t_law_row (K : PySem.W.Frag) : TS :=
  (tSeq (tAsg (tLst tNil) (gName 4))
  (tSeq (tFor (iRng1 (tCons (tOp (rIxL K) (tLst (tCons (tC (.int 1)) (tCons (tC (.int 2)) (tCons (tC (.int 4)) (tCons (tC (.int 8)) (tCons (tC (.int 16)) (tCons (tC (.int 32)) tNil))))))) (tVar 1)) tNil)) (gName 5)
   (tSeq (tAsg (tCall (sp_law_next K) [] E0 (tCons (tOp rAddI (tOp rModI (tVar 0) (tC (.int 1000003))) (tOp rMulI (tC (.int 31)) (tVar 5))) tNil)) (gName 0))
   (tSeq (tAsg (tOp rSubI (tOp rModI (tOp rDivI (tVar 0) (tC (.int 7))) (tC (.int 2000001))) (tC (.int 1000000))) (gName 6))
   (tSeq (tIfS (tTest (tOp rEq (tOp rModI (tOp rDivI (tVar 2) (tC (.int 4))) (tC (.int 2))) (tC (.int 1))))
    (tAsg (tOp rAddI (tOp rMulI (tVar 6) (tVar 3)) (tOp rMulI (tOp rSubI (tC (.int 1)) (tOp rMulI (tC (.int 2)) (tCB rInt1 (tCons (tOp rLtI (tVar 6) (tC (.int 0))) tNil)))) (tOp rModI (tOp rDivI (tVar 0) (tC (.int 64))) (tVar 3)))) (gName 6))
    tNext)
   (tSeq (tIfS (tTest (tOp rEq (tOp rModI (tVar 2) (tC (.int 4))) (tC (.int 0))))
    (tAsg (tOp rSubI (tC (.int 1)) (tOp rMulI (tC (.int 2)) (tOp rModI (tOp rDivI (tVar 0) (tC (.int 7))) (tC (.int 2))))) (gName 6))
    tNext)
   (tSeq (tIfS (tTest (tOp rEq (tOp rModI (tVar 2) (tC (.int 4))) (tC (.int 1))))
    (tAsg (tOp rSubI (tOp rModI (tOp rDivI (tVar 0) (tC (.int 7))) (tC (.int 9))) (tC (.int 4))) (gName 6))
    tNext)
   (tSeq (tIfS (tAnd (tTest (tOp rEq (tOp rModI (tVar 2) (tC (.int 4))) (tC (.int 3)))) (tTest (tOp rGtI (tOp rModI (tOp rDivI (tVar 0) (tC (.int 14000007))) (tC (.int 3))) (tC (.int 0)))))
    (tAsg (tC (.int 0)) (gName 6))
    tNext)
   (tDrop (tBM K "list" rAppend (tVar 4) (tCons (tVar 6) tNil))))))))))
  (tRet (tVar 4))))
def N__law_row : List Str := ["cell", "steps", "way", "great", "found", "place", "number"]
def t_law_alike (K : PySem.W.Frag) : TS :=
  (tSeq (tIfS (tOr (tNot (tB (tCB (rIsi K) (tCons (tVar 0) (tCons (tC (.ty "list")) tNil))))) (tTest (tOp rNe (tCB (rLenS K) (tCons (tVar 0) tNil)) (tCB (rLenS K) (tCons (tVar 1) tNil)))))
   (tRet (tC (.bl false)))
   tNext)
  (tSeq (tFor (iRng1 (tCons (tCB (rLenS K) (tCons (tVar 1) tNil)) tNil)) (gName 2)
   (tIfS (tOr (tNot (tB (tCall (sp_law_whole K) [] E0 (tCons (tOp (rIxL K) (tVar 0) (tVar 2)) tNil)))) (tTest (tOp rNe (tOp (rIxL K) (tVar 0) (tVar 2)) (tOp (rIxL K) (tVar 1) (tVar 2)))))
    (tRet (tC (.bl false)))
    tNext))
  (tRet (tC (.bl true)))))
def N__law_alike : List Str := ["found", "due", "k"]
def t_law_text (K : PySem.W.Frag) : TS :=
  (tSeq (tAsg (tC (.str "")) (gName 1))
  (tSeq (tFor (iList K (tVar 0)) (gName 2)
   (tAsg (tOp rAddStr (tOp rAddStr (tVar 1) (tC (.str " "))) (tCB rStrInt (tCons (tVar 2) tNil))) (gName 1)))
  (tRet (tSl rSlS (tVar 1) (tPart (tC (.int 1))) tNoPart))))
def N__law_text : List Str := ["row", "text", "number"]
def t_law (K : PySem.W.Frag) : TS :=
  (tSeq (tAsg (tCall (sp_law_row K) [] E0 (tCons (tCall (sp_law_cell_at K) [] E0 (tCons (tVar 0) (tCons (tC (.int 1)) tNil))) (tCons (tOp rModI (tCall (sp_law_cell_at K) [] E0 (tCons (tVar 0) (tCons (tC (.int 0)) tNil))) (tC (.int 6))) (tCons (tCall (sp_law_cell_at K) [] E0 (tCons (tVar 0) (tCons (tC (.int 2)) tNil))) (tCons (tOp rMulI (tC (.int 9)) (tOp rPowI (tC (.int 10)) (tC (.int 11)))) tNil))))) (gName 1))
  (tCut (tIfS (tTest (tOp rEq (tOp rModI (tCall (sp_law_cell_at K) [] E0 (tCons (tVar 0) (tCons (tC (.int 3)) tNil))) (tC (.int 6))) (tC (.int 1))))
   (tAsg (tOp rMulI (tOp rPowI (tC (.int 10)) (tC (.int 20))) (tOp rSubI (tC (.int 1)) (tOp rMulI (tC (.int 2)) (tOp rModI (tCall (sp_law_cell_at K) [] E0 (tCons (tVar 0) (tCons (tC (.int 5)) tNil))) (tC (.int 2)))))) (gSub (tVar 1) (tOp rModI (tCall (sp_law_cell_at K) [] E0 (tCons (tVar 0) (tCons (tC (.int 4)) tNil))) (tCB (rLenS K) (tCons (tVar 1) tNil))) rSetL))
   tNext)
  (tSeq (tAsg (tCB (rListS K) (tCons (tVar 1) tNil)) (gName 2))
  (tSeq (tAsg (tCall (sp_shown K) [] E0 (tCons (tVar 2) tNil)) (gName 3))
  (tSeq (tIfS (tOr (tNot (tB (tCB (rIsi K) (tCons (tVar 3) (tCons (tC (.ty "str")) tNil))))) (tOr (tTest (tOp rNe (tVar 3) (tCall (sp_law_text K) [] E0 (tCons (tVar 1) tNil)))) (tTest (tOp (rNeD K) (tVar 2) (tVar 1)))))
   (tRet (tC (.bl false)))
   tNext)
  (tSeq (tAsg (tCall (sp_read K) [] E0 (tCons (tCall (sp_law_text K) [] E0 (tCons (tVar 1) tNil)) tNil)) (gName 4))
  (tSeq (tIfS (tNot (tB (tCall (sp_law_alike K) [] E0 (tCons (tVar 4) (tCons (tVar 1) tNil)))))
   (tRet (tC (.bl false)))
   tNext)
  (tSeq (tDrop (tBM K "list" rAppend (tVar 4) (tCons (tC (.int 0)) tNil)))
  (tRet (tCall (sp_law_alike K) [] E0 (tCons (tCall (sp_read K) [] E0 (tCons (tCall (sp_law_text K) [] E0 (tCons (tVar 1) tNil)) tNil)) (tCons (tVar 1) tNil))))))))))))
def N_law : List Str := ["script", "row", "handed", "text", "found"]
end Sg
namespace Sg
open PySem PySem.Spec PyProof.Rows L2 Evl
/-! ### the program: ask_row, summed, sums -/
theorem inV_six (n : Nat) : inV (.int n) [.int 1, .int 2, .int 4, .int 8, .int 16, .int 32] = decide (n ∈ [1, 2, 4, 8, 16, 32]) := by
  by_cases h : n ∈ [1, 2, 4, 8, 16, 32]
  · rw [decide_eq_true h]
    simp only [List.mem_cons, List.not_mem_nil, or_false] at h
    rcases h with rfl | rfl | rfl | rfl | rfl | rfl <;> rfl
  · rw [decide_eq_false h]
    simp only [List.mem_cons, List.not_mem_nil, or_false, not_or] at h
    simp [inV, eqV]
    omega
theorem pure_ask_row {K : PySem.W.Frag} (hT : ∀ H : Hp, SqT K H (He.ga K "LENGTHS") [.int 1, .int 2, .int 4, .int 8, .int 16, .int 32]) (vs : List V) (H : Hp) (Q : VK) (E : XK) (h : sp_ask_row K vs H Q E) : t_ask_row K E { nx := fun _ H' => Q .non H', rt := Q } (start N_ask_row vs) H := by
  obtain ⟨a, ns, rfl, hS, q1, q2⟩ := h
  refine q_when (b := !decide (ns.length ∈ [1, 2, 4, 8, 16, 32])) (et_test (ev_is (ev_op (ev_lenM (ev_var rfl) hS) ev_c (rv_niT (hT H) rfl rfl)) (by rw [inV_six]))) (fun hb H1 e1 => ?_) (fun hb H1 e1 => ?_)
  · have hne := not_t hb
    exact q2 (fun z => hne z.1) H1 e1
  · have hlen := not_f hb
    refine s_forLn (xs := ns.map V.int) (ev_var rfl) (ex_l e1 hS) (fun i σ H' => (∃ y, σ = [some (.ref a), y]) ∧ Ex H H' ∧ ∀ k, k < i → ∀ x, ns[k]? = some x → -100000000000000000000 ≤ x ∧ x ≤ 100000000000000000000)
      (fun H2 e2 => ⟨⟨none, rfl⟩, e1.trans e2, fun k hk => absurd hk (Nat.not_lt_zero _)⟩) (fun i σ H' _ hp => ex_l hp.2.1 hS) (fun i x σ H' hx hp => ?_) (fun σ H' hp => ?_)
    · obtain ⟨⟨y, rfl⟩, ex, hh⟩ := hp
      obtain ⟨z, hz, rfl⟩ : ∃ z, ns[i]? = some z ∧ x = V.int z := by
        rw [List.getElem?_map] at hx
        cases e : ns[i]? with
        | none => rw [e] at hx; cases hx
        | some z => rw [e] at hx; exact ⟨z, rfl, (Option.some.inj hx).symm⟩
      refine s_when (b := !(decide (-100000000000000000000 ≤ z) && decide (z ≤ 100000000000000000000))) (et_not (et_test (ev_chain (ev_neg ev_c) (ev_var rfl) rv_le ev_c rv_le))) (fun hb2 H2 e2 => ?_) (fun hb2 H2 e2 => ?_)
      · refine q2 (fun r => ?_) H2 (ex.trans e2)
        have := r.2 z (List.mem_of_getElem? hz)
        simp [this.1, this.2] at hb2
      · refine ⟨⟨some (.int z), rfl⟩, ex.trans e2, fun k hk x hx => ?_⟩
        by_cases hki : k = i
        · rw [hki, hz] at hx
          cases hx
          simpa using hb2
        · exact hh k (by omega) x hx
    · obtain ⟨⟨y, rfl⟩, ex, hh⟩ := hp
      refine q1 ⟨hlen, fun x hx => ?_⟩ H' ex
      obtain ⟨k, hk⟩ := List.mem_iff_getElem?.mp hx
      refine hh k ?_ x hk
      rw [List.length_map]
      exact (List.getElem?_eq_some_iff.mp hk).1
end Sg
namespace Sg
open PySem PySem.Spec PyProof.Rows L2 Evl
theorem pure_shown {K : PySem.W.Frag} (vs : List V) (H : Hp) (Q : VK) (E : XK) (h : sp_shown K vs H Q E) : t_shown K E { nx := fun _ H' => Q .non H', rt := Q } (start N_shown vs) H := by
  obtain ⟨a, ns, rfl, hS, q1, q2⟩ := h
  refine ⟨_, rfl, a, ns, rfl, hS, fun r H1 e1 => ?_, fun n H1 e1 => q2 n H1 e1⟩
  have p := row_pos r
  have ts := texts_sum (row_text r)
  refine s_ret (v := .str (textL ns)) (ev_join ev_c (el_strs (evs_var rfl (ex_l e1 hS)) (by omega) (row_text r) (fun _ => rfl) fun _ => rfl) ?_) fun H2 e2 => q1 r H2 (e1.trans e2)
  rw [List.length_map]
  show _ + ns.length * 1 ≤ 16777216
  omega
end Sg
namespace Sg
open PySem PySem.Spec PyProof.Rows L2 Evl
theorem fig_iff (c : Nat) : c ∈ (Str.ofString "0123456789").cps.toList ↔ 48 ≤ c ∧ c ≤ 57 := by
  have e : (Str.ofString "0123456789").cps.toList = [48, 49, 50, 51, 52, 53, 54, 55, 56, 57] := by decide +kernel
  rw [e]
  simp only [List.mem_cons, List.not_mem_nil, or_false]
  omega
theorem pure_number_of {K : PySem.W.Frag} (vs : List V) (H : Hp) (Q : VK) (E : XK) (h : sp_number_of K vs H Q E) : t_number_of K E { nx := fun _ H' => Q .non H', rt := Q } (start N_number_of vs) H := by
  obtain ⟨w, rfl, hz, q1, q2, q3⟩ := h
  refine q_asg (v := .str w) (ev_var rfl) fun H1 e1 => ?_
  have em : decide (cutS w none (some 1) = Str.ofString "-") = decide ((TL.tl w).take 1 = [45]) := by
    refine decide_eq_decide.mpr ?_
    rw [str_eq, tl_head, tl_lit]
    exact Iff.rfl
  -- the figures
  obtain ⟨f, hf, fz⟩ : ∃ f : Str, f = (if (TL.tl w).take 1 = [45] then cutS w (some 1) none else w) ∧ f.length ≤ 100000 := ⟨_, rfl, by
    split
    · exact Nat.le_trans (cutS_length w _ _) hz
    · exact hz⟩
  have tf : TL.tl f = figs (TL.tl w) := by
    unfold figs
    rw [hf]
    split
    · exact tl_rest w
    · rfl
  refine q_ifAsg (b := decide ((TL.tl w).take 1 = [45])) (v := .str f) (et_is (et_test (ev_op (ev_slS (ev_var rfl) eo_none (eo_some ev_c) hz) ev_c rv_eqS)) em) (fun hb => ev_is (ev_slS (ev_var rfl) (eo_some ev_c) eo_none hz) (by rw [hf, if_pos (of_decide_eq_true hb)])) (fun hb => by rw [hf, if_neg (of_decide_eq_false hb)] <;> rfl) fun H2 e2 => ?_
  have ew : decide (w = Str.ofString "0") = (TL.tl w == [48]) := by
    have e : (w = Str.ofString "0") ↔ TL.tl w = [48] := by
      rw [str_eq, tl_lit]
      exact Iff.rfl
    by_cases z : TL.tl w = [48]
    · rw [decide_eq_true (e.mpr z), z] <;> rfl
    · rw [decide_eq_false fun y => z (e.mp y), beq_eq_false_iff_ne.mpr z]
  have fl : f.length = (figs (TL.tl w)).length := by rw [TL.len_tl, tf]
  refine q_when (b := !decide (1 ≤ (figs (TL.tl w)).length ∧ (figs (TL.tl w)).length ≤ 21) || ((figs (TL.tl w)).head? == some 48 && !(TL.tl w == [48]))) (et_or (et_is (et_not (et_test (ev_chain ev_c (ev_lenStr (ev_var rfl) fz) rv_le ev_c rv_le))) (by
    rw [← fl, ← Bool.decide_and]
    exact congrArg not (decide_eq_decide.mpr (by omega)))) fun hb => ?_) (fun hb H3 e3 => ?_) (fun hb H3 e3 => ?_)
  · have hb := not_f hb
    cases ef : figs (TL.tl w) with
    | nil =>
      rw [ef] at hb
      exact absurd hb.1 (by decide)
    | cons c r =>
      have at0 : atI f.cps.toList 0 = some c := by
        have : f.cps.toList = c :: r := tf.trans ef
        rw [this]
        exact atI_nat (show (c :: r)[0]? = some c from rfl)
      refine et_is (et_and (et_test (ev_op (ev_op (ev_var rfl) ev_c (rv_ixS fz at0)) ev_c rv_eqS)) fun _ => et_test (ev_op (ev_var rfl) ev_c rv_neS)) ?_
      rw [ew]
      congr 1
      have e : ((⟨#[c]⟩ : Str) = Str.ofString "0") ↔ c = 48 := by
        rw [str_eq, tl_lit]
        show [c] = [48] ↔ _
        simp
      by_cases z : c = 48
      · rw [decide_eq_true (e.mpr z), z] <;> rfl
      · rw [decide_eq_false fun y => z (e.mp y)]
        show false = (some c == some 48)
        rw [beq_eq_false_iff_ne.mpr fun y => z (Option.some.inj y)]
  · refine q2 ?_ H3 ((e1.trans e2).trans e3)
    unfold chkL
    cases h1 : decide (1 ≤ (figs (TL.tl w)).length ∧ (figs (TL.tl w)).length ≤ 21) with
    | false => rfl
    | true =>
      rw [h1] at hb
      have hb : ((figs (TL.tl w)).head? == some 48 && !(TL.tl w == [48])) = true := hb
      rw [hb] <;> rfl
  · have hb1 := (Bool.or_eq_false_iff.mp hb).1
    have hb2 := (Bool.or_eq_false_iff.mp hb).2
    have hb1 := not_f hb1
    have e13 := (e1.trans e2).trans e3
    refine q_forS (w := f) (ev_var rfl) (fun i σ H' => (∃ x2 : Option V, σ = [some (.str w), some (.str f), x2]) ∧ Ex H H' ∧ ∀ c ∈ (figs (TL.tl w)).take i, 48 ≤ c ∧ c ≤ 57)
      (fun H4 e4 => ⟨⟨none, rfl⟩, e13.trans e4, fun c hc => by rw [List.take_zero] at hc; cases hc⟩) (fun i c σ H' hc hp => ?_) (fun σ H' hp => ?_)
    · obtain ⟨⟨x2, rfl⟩, ex, all⟩ := hp
      rw [tf] at hc
      have ei : decide (c ∈ (Str.ofString "0123456789").cps.toList) = decide (48 ≤ c ∧ c ≤ 57) := decide_eq_decide.mpr (fig_iff c)
      refine s_when (b := !decide (48 ≤ c ∧ c ≤ 57)) (et_is (et_test (ev_op (ev_var rfl) ev_c rv_noIn)) (by rw [ei])) (fun hb4 H4 e4 => ?_) (fun hb4 H4 e4 => ?_)
      · have n := not_t hb4
        refine q2 ?_ H4 (ex.trans e4)
        unfold chkL
        rw [decide_eq_true hb1, hb2]
        show (figs (TL.tl w)).all _ = false
        exact List.all_eq_false.mpr ⟨c, List.mem_of_getElem? hc, by rw [decide_eq_false n]; decide⟩
      · have n := not_f hb4
        refine ⟨⟨_, rfl⟩, ex.trans e4, fun x hx => ?_⟩
        rw [List.take_add_one, hc] at hx
        rcases List.mem_append.mp hx with hx | hx
        · exact all x hx
        · cases List.mem_singleton.mp hx
          exact n
    · obtain ⟨⟨x2, rfl⟩, ex, all⟩ := hp
      rw [tf, List.take_length] at all
      obtain ⟨i, hi, rfl⟩ := q3 (by
        unfold chkL
        rw [decide_eq_true hb1, hb2]
        exact List.all_eq_true.mpr fun c hc => decide_eq_true (all c hc))
      refine s_ret (v := .int i) (fun H5 e5 Q5 q5 => ⟨_, rfl, _, i, rfl, int_text hi, Nat.le_trans (text_len hi) (by decide), q5 H5 (Ex.refl H5)⟩) fun H5 e5 => q1 i hi rfl H5 (ex.trans e5)
end Sg
namespace Sg
open PySem PySem.Spec PyProof.Rows L2 Evl
/-! ### the readings of the law's helpers -/
theorem pure_law_cell_at {K : PySem.W.Frag} (vs : List V) (H : Hp) (Q : VK) (E : XK) (h : sp_law_cell_at K vs H Q E) : t_law_cell_at K { nx := fun _ H' => Q .non H', rt := Q } (start N__law_cell_at vs) H := by
  obtain ⟨a, ns, k, rfl, hS, q⟩ := h
  refine q_when (b := decide ((k : Int) < ns.length)) (et_test (ev_op (ev_var rfl) (ev_lenM (ev_var rfl) hS) rv_lt)) (fun hb H1 e1 => ?_) (fun hb H1 e1 => ?_)
  · have hk : k < ns.length := by have := of_decide_eq_true hb; omega
    exact s_ret (ev_op (ev_var rfl) (ev_var rfl) (rv_ixN (ex_l e1 hS) rfl hk)) fun H2 e2 => q H2 (e1.trans e2)
  · have hk : ¬ k < ns.length := by have := of_decide_eq_false hb; omega
    have e0 : cellAt ns k = 0 := by
      unfold cellAt
      rw [List.getD_eq_getElem?_getD, List.getElem?_eq_none (by omega)] <;> rfl
    rw [e0] at q
    exact s_ret ev_c fun H2 e2 => q H2 (e1.trans e2)
end Sg
namespace Sg
open PySem PySem.Spec PyProof.Rows L2 Evl
theorem pure_law_whole {K : PySem.W.Frag} (vs : List V) (H : Hp) (Q : VK) (E : XK) (h : sp_law_whole K vs H Q E) : t_law_whole K { nx := fun _ H' => Q .non H', rt := Q } (start N__law_whole vs) H := by
  obtain ⟨i, rfl, q⟩ := h
  exact s_ret (ev_andV (a := true) (b := true) (ev_isint (ev_var rfl)) fun _ => ev_notV (a := false) (ev_isbool (ev_var rfl))) fun H2 e2 => q H2 e2
end Sg
namespace Sg
open PySem PySem.Spec PyProof.Rows L2 Evl
theorem pure_law_next {K : PySem.W.Frag} (vs : List V) (H : Hp) (Q : VK) (E : XK) (h : sp_law_next K vs H Q E) : t_law_next K { nx := fun _ H' => Q .non H', rt := Q } (start N__law_next vs) H := by
  obtain ⟨i, rfl, q⟩ := h
  refine q_asg (ev_op (ev_op (ev_var rfl) ev_c rv_add) ev_c (rv_mod (by decide))) fun H1 e1 => ?_
  have b1 : ((i + 7919) % 2147483647).natAbs < 2 ^ 40 := by omega
  refine s_ret (ev_op (ev_op (ev_op (ev_op (ev_var rfl) (ev_var rfl) (rv_mul b1 b1 (by decide) (by decide) (by decide))) (ev_op ev_c (ev_var rfl) (rv_mul (a := 20) (by decide) b1 (by decide) (by decide) (by decide))) rv_add) ev_c rv_add) ev_c (rv_mod (by decide))) fun H2 e2 => ?_
  exact q H2 (e1.trans e2)
end Sg
namespace Sg
open PySem PySem.Spec PyProof.Rows L2 Evl
theorem pure_law_row {K : PySem.W.Frag} (vs : List V) (H : Hp) (Q : VK) (E : XK) (h : sp_law_row K vs H Q E) : t_law_row K { nx := fun _ H' => Q .non H', rt := Q } (start N__law_row vs) H := by
  obtain ⟨c, s, w, g, rfl, hs, hg, hg2, q⟩ := h
  have h32 : 2 ^ s ≤ 32 := by
    rcases pow_cases hs with rfl | rfl | rfl | rfl | rfl | rfl <;> decide
  have ha := at_six hs
  generalize 2 ^ s = n at ha h32 q
  refine q_asgL (el_lst ea_nil (by decide)) fun o H1 ho e1 h1 => ?_
  refine q_forR1 (n := (n : Int)) (ea_cons (ev_tab el_six (ev_var rfl) ha) ea_nil) ⟨by omega, by omega⟩
    (fun i σ H' => (∃ y z, σ = [some (.int (lawCell c i)), some (.int s), some (.int w), some (.int g), some (.ref o), y, z]) ∧ Ex H H' ∧ H' o = some (.lst (((lawRow c n w g).take i).map V.int)))
    (fun H2 e2 => ⟨⟨none, none, rfl⟩, e1.trans e2, e2 o _ h1⟩) (fun i σ H' hi hp => ?_) (fun σ H' hp => ?_)
  · obtain ⟨⟨y, z, rfl⟩, ex, hH⟩ := hp
    have hi1 : i < n := by omega
    have hbd := lawCell_bd c i
    refine q_asg (v := .int (lawCell c (i + 1))) (ev_call1 (ev_op (ev_op (ev_var rfl) ev_c (rv_mod (by decide))) (ev_op ev_c (ev_var rfl) (rv_mul (a := 5) (b := 6) (by decide) (by omega) (by decide) (by decide) (by decide))) rv_add) (spv fun H3 _ Q3 E3 q3 => ⟨_, rfl, q3⟩)) fun H2 e2 => ?_
    generalize hc : lawCell c (i + 1) = cell at hbd ⊢
    refine q_asg (v := .int (cell / 7 % 2000001 - 1000000)) (ev_op (ev_op (ev_op (ev_var rfl) ev_c (rv_div (by decide) (by decide))) ev_c (rv_mod (by decide))) ev_c rv_sub) fun H3 e3 => ?_
    have bn : (cell / 7 % 2000001 - 1000000).natAbs < 2 ^ 21 := by omega
    have bg : g.natAbs < 2 ^ 60 := by omega
    have b64 : (cell / 64 % g).natAbs < 2 ^ 60 := by
      have z1 := Int.emod_nonneg (cell / 64) (show g ≠ 0 by omega)
      have z2 := Int.emod_lt_of_pos (cell / 64) hg
      generalize cell / 64 % g = z at z1 z2
      omega
    refine q_ifAsg (b := decide (w / 4 % 2 = 1)) (v := .int (num1 cell w g)) (et_test (ev_op (ev_op (ev_op (ev_var rfl) ev_c (rv_div (by decide) (by decide))) ev_c (rv_mod (by decide))) ev_c rv_eqI)) (fun hb => ?_) (fun hb => ?_) fun H4 e4 => ?_
    · refine ev_is (ev_op (ev_op (ev_var rfl) (ev_var rfl) (rv_mul bn bg (by decide) (by decide) (by decide))) (ev_op (ev_op ev_c (ev_op ev_c (ev_int1b (ev_op (ev_var rfl) ev_c rv_lt)) (rv_mul (a := 2) (b := 2) (by decide) (by split <;> decide) (by decide) (by decide) (by decide))) rv_sub) (ev_op (ev_op (ev_var rfl) ev_c (rv_div (by decide) (by decide))) (ev_var rfl) (rv_mod hg)) (rv_mul (a := 2) (by split <;> decide) b64 (by decide) (by decide) (by decide))) rv_add) ?_
      unfold num1
      rw [if_pos (of_decide_eq_true hb)]
      simp only [decide_eq_true_eq]
    · unfold num1
      rw [if_neg (of_decide_eq_false hb)]
      rfl
    generalize hn1 : num1 cell w g = n1
    refine q_ifAsg (b := decide (w % 4 = 0)) (v := .int (num2 cell w n1)) (et_test (ev_op (ev_op (ev_var rfl) ev_c (rv_mod (by decide))) ev_c rv_eqI)) (fun hb => ?_) (fun hb => ?_) fun H5 e5 => ?_
    · refine ev_is (ev_op ev_c (ev_op ev_c (ev_op (ev_op (ev_var rfl) ev_c (rv_div (by decide) (by decide))) ev_c (rv_mod (by decide))) (rv_mul (a := 2) (b := 2) (by decide) (by omega) (by decide) (by decide) (by decide))) rv_sub) ?_
      unfold num2
      rw [if_pos (of_decide_eq_true hb)]
    · unfold num2
      rw [if_neg (of_decide_eq_false hb)]
      rfl
    generalize hn2 : num2 cell w n1 = n2
    refine q_ifAsg (b := decide (w % 4 = 1)) (v := .int (num3 cell w n2)) (et_test (ev_op (ev_op (ev_var rfl) ev_c (rv_mod (by decide))) ev_c rv_eqI)) (fun hb => ?_) (fun hb => ?_) fun H6 e6 => ?_
    · refine ev_is (ev_op (ev_op (ev_op (ev_var rfl) ev_c (rv_div (by decide) (by decide))) ev_c (rv_mod (by decide))) ev_c rv_sub) ?_
      unfold num3
      rw [if_pos (of_decide_eq_true hb)]
    · unfold num3
      rw [if_neg (of_decide_eq_false hb)]
      rfl
    generalize hn3 : num3 cell w n2 = n3
    refine q_ifAsg (b := decide (w % 4 = 3) && decide (0 < cell / 14000007 % 3)) (v := .int (num4 cell w n3)) (et_and (et_test (ev_op (ev_op (ev_var rfl) ev_c (rv_mod (by decide))) ev_c rv_eqI)) (fun _ => et_test (ev_op (ev_op (ev_op (ev_var rfl) ev_c (rv_div (by decide) (by decide))) ev_c (rv_mod (by decide))) ev_c rv_gt))) (fun hb => ?_) (fun hb => ?_) fun H7 e7 => ?_
    · refine ev_is ev_c ?_
      unfold num4
      rw [if_pos (by simpa using hb)]
    · unfold num4
      rw [if_neg (by simpa using hb)]
      rfl
    generalize hn4 : num4 cell w n3 = n4
    have eH : H7 o = some (.lst (((lawRow c n w g).take i).map V.int)) := e7 o _ (e6 o _ (e5 o _ (e4 o _ (e3 o _ (e2 o _ hH)))))
    refine s_app eH (ev_var rfl) (ev_var (v := .int n4) rfl) (by rw [List.length_map, List.length_take]; omega) fun H8 e8 => ?_
    refine ⟨⟨some (.int i), some (.int n4), ?_⟩, Ex.mut ((((((((ex.trans e2).trans e3).trans e4).trans e5).trans e6).trans e7)).trans e8) ho, ?_⟩
    · rfl
    · rw [upd_same]
      have en : lawNum (lawCell c (i + 1)) w g = n4 := by
        unfold lawNum
        rw [hc, hn1, hn2, hn3, hn4]
      unfold lawRow
      rw [range_take _ hi1, en]
  · obtain ⟨⟨y, z, rfl⟩, ex, hH⟩ := hp
    refine s_ret (ev_var rfl) fun H2 e2 => q o H2 ho (ex.trans e2) (e2 o _ ?_)
    rw [hH, Int.toNat_natCast]
    unfold lawRow
    rw [range_take_all]
end Sg
namespace Sg
open PySem PySem.Spec PyProof.Rows L2 Evl
theorem pure_law_alike {K : PySem.W.Frag} (vs : List V) (H : Hp) (Q : VK) (E : XK) (h : sp_law_alike K vs H Q E) : t_law_alike K { nx := fun _ H' => Q .non H', rt := Q } (start N__law_alike vs) H := by
  obtain ⟨a, b, ns, ms, rfl, hS, hT, hl, q⟩ := h
  refine q_when (b := !decide ((ns.length : Int) = ms.length)) (et_is (et_or (et_not (et_B (ev_islist (ev_var rfl) hS))) (fun _ => et_test (ev_op (ev_lenM (ev_var rfl) hS) (ev_lenM (ev_var rfl) hT) rv_neI))) (by rfl)) (fun hb H1 e1 => ?_) (fun hb H1 e1 => ?_)
  · have hne : ¬ ns = ms := fun e => by
      rw [e, decide_eq_true rfl] at hb
      cases hb
    rw [decide_eq_false hne] at q
    exact s_ret ev_c fun H2 e2 => q H2 (e1.trans e2)
  · have hlen : ns.length = ms.length := by
      have : (ns.length : Int) = ms.length := by simpa using hb
      omega
    refine q_forR1 (n := (ms.length : Int)) (ea_cons (ev_lenM (ev_var rfl) (ex_l e1 hT)) ea_nil) ⟨by omega, by omega⟩
      (fun i σ H' => (∃ y, σ = [some (.ref a), some (.ref b), y]) ∧ Ex H H' ∧ ∀ k, k < i → ns.getD k 0 = ms.getD k 0)
      (fun H2 e2 => ⟨⟨none, rfl⟩, e1.trans e2, fun k hk => absurd hk (Nat.not_lt_zero _)⟩) (fun i σ H' hi hp => ?_) (fun σ H' hp => ?_)
    · obtain ⟨⟨y, rfl⟩, ex, hh⟩ := hp
      have hi2 : i < ms.length := by omega
      have hi1 : i < ns.length := by omega
      refine s_when (b := !decide (ns.getD i 0 = ms.getD i 0)) (et_is (et_or (et_not (et_B (ev_call1 (z := .bl true) (ev_op (ev_var rfl) (ev_var rfl) (rv_ixN (ex_l ex hS) rfl hi1)) (spv fun H3 _ Q3 E3 q3 => ⟨_, rfl, q3⟩)))) (fun _ => et_test (ev_op (ev_op (ev_var rfl) (ev_var rfl) (rv_ixN (ex_l ex hS) rfl hi1)) (ev_op (ev_var rfl) (ev_var rfl) (rv_ixN (ex_l ex hT) rfl hi2)) rv_neI))) (by rfl)) (fun hb2 H2 e2 => ?_) (fun hb2 H2 e2 => ?_)
      · have hne : ¬ ns = ms := fun e => by
          rw [e, decide_eq_true rfl] at hb2
          cases hb2
        rw [decide_eq_false hne] at q
        exact s_ret ev_c fun H3 e3 => q H3 ((ex.trans e2).trans e3)
      · refine ⟨⟨some (.int i), rfl⟩, ex.trans e2, fun k hk => ?_⟩
        by_cases hki : k = i
        · rw [hki]
          simpa using hb2
        · exact hh k (by omega)
    · obtain ⟨⟨y, rfl⟩, ex, hh⟩ := hp
      have he : ns = ms := by
        refine List.ext_getElem hlen fun k h1 h2 => ?_
        have z := hh k (by simpa using h2)
        rwa [List.getD_eq_getElem?_getD, List.getD_eq_getElem?_getD, List.getElem?_eq_getElem h1, List.getElem?_eq_getElem h2] at z
      rw [decide_eq_true he] at q
      exact s_ret ev_c fun H3 e3 => q H3 (ex.trans e3)
end Sg
namespace Sg
open PySem PySem.Spec PyProof.Rows L2 Evl
theorem texts_split {ns : List Int} (h : ns ≠ []) : Txt.split (textL ns) (Str.ofString " ") = ns.map textI := by
  have e : TL.tl (Str.ofString " ") = 32 :: [] := by decide +kernel
  refine TL.split_join e (by decide +kernel) (fun z => h (List.map_eq_nil_iff.mp z)) fun p hp => ?_
  obtain ⟨i, _, rfl⟩ := List.mem_map.mp hp
  rw [tl_text]
  unfold numI
  split
  · intro z
    rcases List.mem_cons.mp z with z | z
    · exact absurd z (by decide)
    · exact TL.numL_free (Or.inl (by decide)) z
  · exact TL.numL_free (Or.inl (by decide))
theorem join_len (y : Str) : ∀ (parts : List Str), (TL.tl (Txt.join y parts)).length ≤ (parts.map (·.length)).sum + parts.length * y.length := by
  intro parts
  rw [TL.join_eq]
  induction parts with
  | nil => exact Nat.zero_le _
  | cons p l ih =>
    rw [TL.tl_join] at ih ⊢
    cases l with
    | nil =>
      show (TL.tl p).length ≤ _
      rw [List.map_cons, List.sum_cons, List.length_cons, TL.len_tl]
      omega
    | cons r l =>
      have e : TL.joinL (TL.tl y) ((p :: r :: l).map TL.tl) = TL.tl p ++ (TL.tl y ++ TL.joinL (TL.tl y) ((r :: l).map TL.tl)) := rfl
      have e3 : ((p :: r :: l).map (·.length)).sum = p.length + ((r :: l).map (·.length)).sum := rfl
      have e4 : (p :: r :: l).length = (r :: l).length + 1 := rfl
      rw [e, List.length_append, List.length_append, e3, e4, Nat.succ_mul]
      have e1 := TL.len_tl p
      have e2 := TL.len_tl y
      omega
theorem textL_len {ns : List Int} (h : ∀ x ∈ ns, x.natAbs < 1000000000000000000000) : (textL ns).length ≤ 23 * ns.length := by
  have a := join_len (Str.ofString " ") (ns.map textI)
  have b := texts_sum h
  rw [TL.len_tl]
  unfold textL
  have c : (Str.ofString " ").length = 1 := by decide +kernel
  rw [List.length_map, c] at a
  omega
theorem pure_read {K : PySem.W.Frag} (vs : List V) (H : Hp) (Q : VK) (E : XK) (h : sp_read K vs H Q E) : t_read K { nx := fun _ H' => Q .non H', rt := Q } (start N_read vs) H := by
  obtain ⟨ns, rfl, r, q⟩ := h
  have p := row_pos r
  have hb := row_text r
  have tz := textL_len hb
  refine q_asgL (xs := ns.map V.int) ?_ fun rp H1 nr e1 h1 => ?_
  · have el : EvL (tM1 rSplit (tVar 0) (tC (.str (Str.ofString " ")))) [some (.str (textL ns)), none, none] H ((ns.map textI).map V.str) := fun H0 e0 Q0 q0 => by
      refine ⟨_, rfl, ⟨_, rfl⟩, _, _, rfl, rfl, by decide +kernel, sz_of (by omega), fun p2 np => ?_⟩
      rw [texts_split fun z => by rw [z] at p; exact absurd p.1 (by decide)]
      exact q0 p2 _ np (Ex.new np) upd_same
    have lc := el_lcNL (σ := [some (.str (textL ns)), none, none]) (H := H) (t := tYes) (te := tCall (sp_number_of K) [] E0 (tCons (tVar 2) tNil)) (j := 2) (vs := [2]) (K := K) (fun _ => true) (fun i => .int (ns.getD i 0)) el (by rw [List.length_map, List.length_map]; omega) (fun _ => rfl) (fun _ _ _ _ _ => et_yes) (fun i x H2 e2 hx _ => ?_)
    · rw [List.length_map, List.length_map, given_map (ns := ns) V.int] at lc
      exact lc
    · rw [List.map_map, List.getElem?_map] at hx
      cases e : ns[i]? with
      | none => rw [e] at hx; cases hx
      | some n =>
        rw [e] at hx
        cases hx
        have hn := hb n (List.mem_of_getElem? e)
        rw [show ns.getD i 0 = n by rw [List.getD_eq_getElem?_getD, e] <;> rfl]
        refine ev_call1 (z := .int n) (ev_var rfl) (spv fun H3 _ Q3 E3 q3 => ⟨_, rfl, Nat.le_trans (text_len hn) (by decide), fun i hi ei => ?_, fun bad => ?_, fun _ => ⟨n, hn, rfl⟩⟩)
        · have ee : some i = some n := by rw [← int_text hi, ← int_text hn, show textI n = textI i from ei]
          cases ee
          exact q3
        · have g := chk_num hn
          rw [← tl_text] at g
          exact absurd (g.symm.trans bad) (by decide)
  · refine ⟨_, rfl, rp, ns, rfl, sq_of h1, fun _ H2 e2 => ?_, fun n => absurd r n⟩
    exact s_ret (ev_var rfl) fun H3 e3 => q rp H3 nr ((e1.trans e2).trans e3) (e3 rp _ (e2 rp _ h1))
/-- the text so far -/
def backT (ns : List Int) : List Nat := (ns.map fun i => 32 :: numI i).flatten
theorem joinT : ∀ (ns : List Int), ns ≠ [] → 32 :: TL.joinL [32] (ns.map numI) = backT ns
  | [], h => absurd rfl h
  | [i], _ => by
    show 32 :: numI i = [32 :: numI i].flatten
    simp
  | i :: j :: l, _ => by
    have ih := joinT (j :: l) (by simp)
    have e : TL.joinL [32] ((i :: j :: l).map numI) = numI i ++ ([32] ++ TL.joinL [32] ((j :: l).map numI)) := rfl
    rw [e]
    show 32 :: (numI i ++ (32 :: TL.joinL [32] ((j :: l).map numI))) = _
    rw [ih]
    rfl
theorem backT_snoc (ns : List Int) (i : Int) : backT (ns ++ [i]) = backT ns ++ 32 :: numI i := by
  unfold backT
  rw [List.map_append, List.flatten_append]
  simp
theorem backT_len {ns : List Int} (h : ∀ x ∈ ns, x.natAbs < 1000000000000000000000) : (backT ns).length ≤ 23 * ns.length := by
  induction ns with
  | nil => exact Nat.le_refl _
  | cons i l ih =>
    have e : backT (i :: l) = (32 :: numI i) ++ backT l := rfl
    rw [e, List.length_append, List.length_cons, List.length_cons]
    have a := numI_len (h i List.mem_cons_self)
    have b := ih fun x hx => h x (List.mem_cons_of_mem _ hx)
    omega
theorem tl_textL {ns : List Int} : TL.tl (textL ns) = TL.joinL [32] (ns.map numI) := by
  unfold textL
  rw [TL.join_eq, TL.tl_join, List.map_map]
  have e : TL.tl (Str.ofString " ") = [32] := by decide +kernel
  rw [e]
  congr 1
  exact List.map_congr_left fun i _ => tl_text i
theorem pure_law_text {K : PySem.W.Frag} (vs : List V) (H : Hp) (Q : VK) (E : XK) (h : sp_law_text K vs H Q E) : t_law_text K { nx := fun _ H' => Q .non H', rt := Q } (start N__law_text vs) H := by
  obtain ⟨a, ns, rfl, hS, r, q⟩ := h
  have p := row_pos r
  have hb := row_text r
  refine q_asg (v := .str (Str.ofString "")) ev_c fun H1 e1 => ?_
  refine q_forLn (xs := ns.map V.int) (ev_var rfl) (ex_l e1 hS) (fun i σ H' => (∃ (t : Str) (x2 : Option V), σ = [some (.ref a), some (.str t), x2] ∧ TL.tl t = backT (ns.take i)) ∧ Ex H H')
    (fun H2 e2 => ⟨⟨_, none, rfl, by rw [List.take_zero]; decide +kernel⟩, e1.trans e2⟩) (fun i σ H' _ hp => ex_l hp.2 hS) (fun i x σ H' hx hp => ?_) (fun σ H' hp => ?_)
  · obtain ⟨⟨t, x2, rfl, ht⟩, ex⟩ := hp
    obtain ⟨n, hn, rfl⟩ := int_of_map hx
    have hnb := hb n (List.mem_of_getElem? hn)
    have tl := backT_len (ns := ns.take i) fun x hx => hb x (List.mem_of_mem_take hx)
    have til : (ns.take i).length ≤ 32 := Nat.le_trans (List.length_take_le' _ _) p.2
    have t1 : t.length ≤ 736 := by rw [TL.len_tl, ht]; omega
    have one : (Str.ofString " ").length = 1 := by decide +kernel
    have nl := text_len hnb
    refine s_asg (v := .str ((t ++ Str.ofString " ") ++ textI n)) (fun H2 e2 Q2 q2 => ?_) fun H2 e2 => ⟨⟨_, some (.int n), rfl, ?_⟩, ex.trans e2⟩
    · refine ⟨_, rfl, t, Str.ofString " ", rfl, rfl, sz_of (by omega), ?_⟩
      refine ev_strI (ev_var rfl) hnb H2 e2 _ fun H3 e3 => ⟨_, _, rfl, rfl, sz_of ?_, q2 H3 e3⟩
      have : (t ++ Str.ofString " ").length = t.length + 1 := by
        rw [TL.len_tl, TL.tl_append, List.length_append, ← TL.len_tl, ← TL.len_tl, one]
      omega
    · rw [TL.tl_append, TL.tl_append, ht, tl_text, List.take_add_one, hn]
      show _ = backT (ns.take i ++ [n])
      rw [backT_snoc, List.append_assoc]
      congr 1
  · obtain ⟨⟨t, x2, rfl, ht⟩, ex⟩ := hp
    rw [List.length_map, List.take_length] at ht
    have ne : ns ≠ [] := fun z => by
      rw [z] at p
      exact absurd p.1 (by decide)
    have tl := backT_len (ns := ns) hb
    refine s_ret (v := .str (textL ns)) (ev_is (ev_slS (ev_var rfl) (eo_some ev_c) eo_none (by rw [TL.len_tl, ht]; omega)) (congrArg V.str ?_)) fun H2 e2 => q H2 (ex.trans e2)
    refine TL.ext_tl ?_
    rw [tl_rest, ht, tl_textL, ← joinT ns ne]
    rfl
theorem pure_law {K : PySem.W.Frag} (vs : List V) (H : Hp) (Q : VK) (E : XK) (h : sp_law K vs H Q E) : t_law K { nx := fun _ H' => Q .non H', rt := Q } (start N_law vs) H := by
  obtain ⟨a, ns, rfl, hS, hl, q⟩ := h
  obtain ⟨s, hs, es⟩ := mod_at3 (cellAt ns 0) 6 (by decide)
  have h32 := pow_le' hs
  have hn0 : 0 < 2 ^ s := Nat.two_pow_pos s
  have pw : 2 ^ s ∈ [1, 2, 4, 8, 16, 32] := pow_mem (by omega)
  refine q_asgL (el_law_row (g := 900000000000) (s := s) (ev_cell (k := 1) (ev_var rfl) ev_c hS) (ev_is (ev_op (ev_cell (k := 0) (ev_var rfl) ev_c hS) ev_c (rv_mod (by decide))) (congrArg V.int es)) (ev_cell (k := 2) (ev_var rfl) ev_c hS) (ev_op (x := .int 9) ev_c (ev_pow (n := 0) (by decide) (by decide) ev_c ev_c) (rv_mul (a := 4) (b := 40) (by decide) (by decide) (by decide) (by decide) (by decide))) (by omega) (by decide) (by decide)) fun rp H1 nrp e1 h1 => ?_
  have hbd := lawRow_bd (c := cellAt ns 1) (way := cellAt ns 2) (g := 900000000000) (n := 2 ^ s) (by decide)
  have hln := lawRow_length (cellAt ns 1) (2 ^ s) (cellAt ns 2) 900000000000
  generalize lawRow (cellAt ns 1) (2 ^ s) (cellAt ns 2) 900000000000 = row0 at h1 hbd hln
  have hS1 := ex_l e1 hS
  refine q_cut (M := fun σ' H' => ∃ row : List Int, σ' = [some (.ref a), some (.ref rp), none, none, none] ∧ Ex H H' ∧ H' rp = some (.lst (row.map V.int)) ∧ IsRow row) ?_ (fun σ' H' hm => ?_)
  · refine s_when (b := decide (cellAt ns 3 % 6 = 1)) (et_test (ev_op (ev_op (ev_cell (k := 3) (ev_var rfl) ev_c hS1) ev_c (rv_mod (by decide))) ev_c rv_eqI)) (fun hb H2 e2 => ?_) (fun hb H2 e2 => ?_)
    · have hS2 := ex_l e2 hS1
      have h2 := e2 rp _ h1
      obtain ⟨j, hj, ej⟩ := mod_at3 (cellAt ns 4) row0.length (by omega)
      obtain ⟨f, hf, ef⟩ : ∃ f : Int, (f = 1 ∨ f = -1) ∧ 1 - 2 * (cellAt ns 5 % 2) = f := ⟨_, by omega, rfl⟩
      refine s_setL (j := j) (v := .int (100000000000000000000 * f)) h2 (ev_op (ev_pow (n := 0) (by decide) (by decide) ev_c ev_c) (ev_is (ev_op ev_c (ev_op ev_c (ev_op (ev_cell (k := 5) (ev_var rfl) ev_c hS2) ev_c (rv_mod (by decide))) (rv_mul (a := 2) (b := 2) (by decide) (by omega) (by decide) (by decide) (by decide))) rv_sub) (congrArg V.int ef)) (rv_mul (a := 67) (b := 2) (by decide) (by rcases hf with z | z <;> rw [z] <;> decide) (by decide) (by decide) (by decide))) (ev_var rfl) (ev_is (ev_op (ev_cell (k := 4) (ev_var rfl) ev_c hS2) (ev_lenS (evs_var rfl (sq_of h2))) (rv_mod (by omega))) (congrArg V.int ej)) (by rw [List.length_map]; omega) fun H3 e3 => ?_
      refine ⟨row0.set j (100000000000000000000 * f), rfl, Ex.mut ((e1.trans e2).trans e3) nrp, by rw [upd_same, List.map_set], by rw [List.length_set, hln]; exact pw, fun x hx => ?_⟩
      rcases List.mem_or_eq_of_mem_set hx with hx | rfl
      · have := hbd x hx; omega
      · rcases hf with rfl | rfl <;> omega
    · exact ⟨row0, rfl, e1.trans e2, e2 rp _ h1, by rw [hln]; exact pw, fun x hx => by have := hbd x hx; omega⟩
  · obtain ⟨row, rfl, ex, hR, hir⟩ := hm
    have hp := row_pos hir
    have hR' : SqL K H' rp (row.map V.int) := sq_of hR
    refine q_asgL (el_list (ev_var rfl) hR') fun hp1 H2 nh e2 h2 => ?_
    have hH2 : SqL K H2 hp1 (row.map V.int) := sq_of h2
    refine q_asg (v := .str (textL row)) (ev_call1 (ev_var rfl) (spv fun H3 e3 Q3 E3 q3 => ⟨hp1, row, rfl, ex_l e3 hH2, fun _ => q3, fun n => absurd hir n⟩)) fun H3 e3 => ?_
    have hR3 := ex_l (e2.trans e3) hR'
    have txt : ∀ {H : Hp} {σ : L2.St} {E : XK}, σ[1]? = some (some (.ref rp)) → Ex H3 H → Ev (tCall (sp_law_text K) [] E (tCons (tVar 1) tNil)) σ H (.str (textL row)) := fun h e => ev_call1 (ev_var h) (spv fun H4 e4 Q4 E4 q4 => ⟨rp, row, rfl, ex_l (e.trans e4) hR3, hir, q4⟩)
    have rd : ∀ {H : Hp} {σ : L2.St} {E : XK}, σ[1]? = some (some (.ref rp)) → Ex H3 H → EvL (tCall (sp_read K) [] E (tCons (tCall (sp_law_text K) [] E0 (tCons (tVar 1) tNil)) tNil)) σ H (row.map V.int) := fun h e => el_call1 (txt h e) (spl fun H4 e4 Q4 E4 q4 => ⟨row, rfl, hir, q4⟩)
    refine q_when (b := false) (et_is (et_or (et_not (et_B (ev_isi (b := "str") (a := "str") (r := true) (x := .str (textL row)) (ev_var rfl) (fun _ _ => .base (.str _)) (by decide +kernel)))) fun _ => et_or (et_test (ev_op (ev_var rfl) (txt rfl (Ex.refl H3)) rv_neS)) fun _ => et_test (ev_neS (evs_var rfl (ex_l e3 hH2)) (evs_var rfl hR3))) (by rw [decide_eq_true rfl, decide_eq_true rfl] <;> rfl)) (fun z => nomatch z) (fun _ H4 e4 => ?_)
    refine q_asgL (rd rfl e4) fun fp H5 nf e5 h5 => ?_
    have e35 := e4.trans e5
    refine q_when (b := false) (et_is (et_not (et_B (ev_alikeS (evs_var rfl (sq_of h5)) (evs_var rfl (ex_l e35 hR3)) (by omega)))) (by rw [decide_eq_true rfl] <;> rfl)) (fun z => nomatch z) (fun _ H6 e6 => ?_)
    refine q_app (e6 fp _ h5) (ev_var rfl) ev_c (by rw [List.length_map]; omega) fun H7 e7 => ?_
    have exF : Ex H3 (upd H7 fp (.lst (row.map V.int ++ [V.int 0]))) := Ex.mut ((e35.trans e6).trans e7) (fresh_back e4 nf)
    exact s_ret (v := .bl true) (ev_is (ev_alikeS (evs_new (rd rfl exF)) (evs_var rfl (ex_l exF hR3)) (by omega)) (by rw [decide_eq_true rfl])) fun H8 _ => q H8
end Sg
namespace Sg
open PySem PySem.Spec PyProof.Rows L2 Evl
/-! ### the text -/
def topS (i : Nat) : Stmt := PySem.Challenge.pw_signsums_k13_written_and_read.main.body.getD i (.Pass ⟨0, 0, 0, 0⟩)
abbrev s_ask_row : Stmt := topS 7
theorem sc_ask_row : FnScope N_ask_row ["row"] (defScope s_ask_row) := ⟨rfl, rfl, rfl, by decide +kernel, rfl, by decide +kernel, by decide +kernel⟩
abbrev s_shown : Stmt := topS 10
theorem sc_shown : FnScope N_shown ["row"] (defScope s_shown) := ⟨rfl, rfl, rfl, by decide +kernel, rfl, by decide +kernel, by decide +kernel⟩
abbrev s_number_of : Stmt := topS 11
theorem sc_number_of : FnScope N_number_of ["word"] (defScope s_number_of) := ⟨rfl, rfl, rfl, by decide +kernel, rfl, by decide +kernel, by decide +kernel⟩
abbrev s_read : Stmt := topS 12
theorem sc_read : FnScope N_read ["text"] (defScope s_read) := ⟨rfl, rfl, rfl, by decide +kernel, rfl, by decide +kernel, by decide +kernel⟩
abbrev s__law_cell_at : Stmt := topS 14
theorem sc__law_cell_at : FnScope N__law_cell_at ["script", "k"] (defScope s__law_cell_at) := ⟨rfl, rfl, rfl, by decide +kernel, rfl, by decide +kernel, by decide +kernel⟩
abbrev s__law_whole : Stmt := topS 15
theorem sc__law_whole : FnScope N__law_whole ["found"] (defScope s__law_whole) := ⟨rfl, rfl, rfl, by decide +kernel, rfl, by decide +kernel, by decide +kernel⟩
abbrev s__law_next : Stmt := topS 16
theorem sc__law_next : FnScope N__law_next ["seed"] (defScope s__law_next) := ⟨rfl, rfl, rfl, by decide +kernel, rfl, by decide +kernel, by decide +kernel⟩
abbrev s__law_row : Stmt := topS 17
theorem sc__law_row : FnScope N__law_row ["cell", "steps", "way", "great"] (defScope s__law_row) := ⟨rfl, rfl, rfl, by decide +kernel, rfl, by decide +kernel, by decide +kernel⟩
abbrev s__law_alike : Stmt := topS 18
theorem sc__law_alike : FnScope N__law_alike ["found", "due"] (defScope s__law_alike) := ⟨rfl, rfl, rfl, by decide +kernel, rfl, by decide +kernel, by decide +kernel⟩
abbrev s__law_text : Stmt := topS 19
theorem sc__law_text : FnScope N__law_text ["row"] (defScope s__law_text) := ⟨rfl, rfl, rfl, by decide +kernel, rfl, by decide +kernel, by decide +kernel⟩
abbrev s_law : Stmt := topS 20
theorem sc_law : FnScope N_law ["script"] (defScope s_law) := ⟨rfl, rfl, rfl, by decide +kernel, rfl, by decide +kernel, by decide +kernel⟩
/-! ### what the top has written -/
structure Txt (K : PySem.W.Frag) (mg : Str → Option Value) where
  bool : mg "bool" = none
  int : mg "int" = none
  isinstance : mg "isinstance" = none
  len : mg "len" = none
  list : mg "list" = none
  range : mg "range" = none
  str : mg "str" = none
  m_SignError : mg "SignError" = some (.ref (He.ga K "SignError"))
  x_SignError : XOk K (He.ga K "SignError")
  m_NoRow : mg "NoRow" = some (.ref (He.ga K "NoRow"))
  x_NoRow : XOk K (He.ga K "NoRow")
  m_NoNote : mg "NoNote" = some (.ref (He.ga K "NoNote"))
  x_NoNote : XOk K (He.ga K "NoNote")
  m_LENGTHS : mg "LENGTHS" = some (.ref (He.ga K "LENGTHS"))
  v_LENGTHS : ∀ H : Hp, SqT K H (He.ga K "LENGTHS") [.int 1, .int 2, .int 4, .int 8, .int 16, .int 32]
  m_MOST : ∃ t, mg "MOST" = some (.int 100000000000000000000 t)
  m_FIGURES : ∃ t, mg "FIGURES" = some (.str "0123456789" t)
  d_ask_row : FuncData
  g_ask_row : mg "ask_row" = some (.ref (He.ga K "ask_row"))
  F_ask_row : Fun K "ask_row" "ask_row" s_ask_row (He.ga K "ask_row") d_ask_row
  b_ask_row : Binds K d_ask_row ["row"] []
  d_shown : FuncData
  g_shown : mg "shown" = some (.ref (He.ga K "shown"))
  F_shown : Fun K "shown" "shown" s_shown (He.ga K "shown") d_shown
  b_shown : Binds K d_shown ["row"] []
  d_number_of : FuncData
  g_number_of : mg "number_of" = some (.ref (He.ga K "number_of"))
  F_number_of : Fun K "number_of" "number_of" s_number_of (He.ga K "number_of") d_number_of
  b_number_of : Binds K d_number_of ["word"] []
  d_read : FuncData
  g_read : mg "read" = some (.ref (He.ga K "read"))
  F_read : Fun K "read" "read" s_read (He.ga K "read") d_read
  b_read : Binds K d_read ["text"] []
  d__law_cell_at : FuncData
  g__law_cell_at : mg "_law_cell_at" = some (.ref (He.ga K "_law_cell_at"))
  F__law_cell_at : Fun K "_law_cell_at" "_law_cell_at" s__law_cell_at (He.ga K "_law_cell_at") d__law_cell_at
  b__law_cell_at : Binds K d__law_cell_at ["script", "k"] []
  d__law_whole : FuncData
  g__law_whole : mg "_law_whole" = some (.ref (He.ga K "_law_whole"))
  F__law_whole : Fun K "_law_whole" "_law_whole" s__law_whole (He.ga K "_law_whole") d__law_whole
  b__law_whole : Binds K d__law_whole ["found"] []
  d__law_next : FuncData
  g__law_next : mg "_law_next" = some (.ref (He.ga K "_law_next"))
  F__law_next : Fun K "_law_next" "_law_next" s__law_next (He.ga K "_law_next") d__law_next
  b__law_next : Binds K d__law_next ["seed"] []
  d__law_row : FuncData
  g__law_row : mg "_law_row" = some (.ref (He.ga K "_law_row"))
  F__law_row : Fun K "_law_row" "_law_row" s__law_row (He.ga K "_law_row") d__law_row
  b__law_row : Binds K d__law_row ["cell", "steps", "way", "great"] []
  d__law_alike : FuncData
  g__law_alike : mg "_law_alike" = some (.ref (He.ga K "_law_alike"))
  F__law_alike : Fun K "_law_alike" "_law_alike" s__law_alike (He.ga K "_law_alike") d__law_alike
  b__law_alike : Binds K d__law_alike ["found", "due"] []
  d__law_text : FuncData
  g__law_text : mg "_law_text" = some (.ref (He.ga K "_law_text"))
  F__law_text : Fun K "_law_text" "_law_text" s__law_text (He.ga K "_law_text") d__law_text
  b__law_text : Binds K d__law_text ["row"] []
  d_law : FuncData
  g_law : mg "law" = some (.ref (He.ga K "law"))
  F_law : Fun K "law" "law" s_law (He.ga K "law") d_law
  b_law : Binds K d_law ["script"] []
end Sg
namespace Sg
open PySem PySem.Spec PyProof.Rows L2 Evl
section
variable {P : Program} {w : World} {K : PySem.W.Frag} {mg : Str → Option Value} {base : Heap}
theorem ok_ask_row (T : Txt K mg) : FnOk P w K mg base (L2.CX P w) 1 (He.ga K "ask_row") T.d_ask_row ["row"] (sp_ask_row K) := by
  refine T.F_ask_row.okX sc_ask_row len_ask_row (fun cdv A outer s H vs Q E hr h => ⟨t_ask_row K E, ?_, pure_ask_row (T.v_LENGTHS) vs H Q E h⟩)
  exact (pss_cons (ps_if (pt_cmpR op_notIn_seq (pe_callB call_len_seq (by rfl) T.len PySem.boot_len (pa_cons (pv 0) pa_nil)) (pe_glob (v := .ref (He.ga K "LENGTHS")) (by rfl) T.m_LENGTHS rfl) (by rfl))
   (pss_one (ps_raise rfl (takes_of rfl rfl rfl rfl) (pmk_own PySem.F.excBase_ValueError T.x_NoRow.ok T.m_NoRow T.x_NoRow.kp (raises_own T.x_NoRow.sb T.x_NoRow.ty) (by exact rfl))))
   pss_nil)
  (pss_one (ps_for (passes_of rfl) rfl (pi_list (pv 0)) (pg_name (i := 1) sc_ask_row.nd rfl (Or.inl rfl))
   (pss_one (ps_if (pt_not (pt_chain op_le op_le (pe_un un_neg (pe_glob (by rfl) T.m_MOST.choose_spec ⟨_, rfl⟩)) (pv 1) (pe_glob (by rfl) T.m_MOST.choose_spec ⟨_, rfl⟩)))
    (pss_one (ps_raise rfl (takes_of rfl rfl rfl rfl) (pmk_own PySem.F.excBase_ValueError T.x_NoRow.ok T.m_NoRow T.x_NoRow.kp (raises_own T.x_NoRow.sb T.x_NoRow.ty) (by exact rfl))))
    pss_nil)))))
theorem ok_shown (T : Txt K mg) (G_ask_row : FnOk P w K mg base (L2.CX P w) 1 (He.ga K "ask_row") T.d_ask_row ["row"] (sp_ask_row K)) : FnOk P w K mg base (L2.CX P w) 2 (He.ga K "shown") T.d_shown ["row"] (sp_shown K) := by
  refine T.F_shown.okX sc_shown len_shown (fun cdv A outer s H vs Q E hr h => ⟨t_shown K E, ?_, pure_shown vs H Q E h⟩)
  exact (pss_cons (ps_expr (pe_call G_ask_row (hr.mono (by decide)) (by rfl) T.g_ask_row T.F_ask_row.kp T.b_ask_row .nil (passes_call (takes_of rfl rfl rfl rfl) (fun _ _ _ _ h => h)) (pa_cons (pv 0) pa_nil)))
  (pss_one (ps_ret (pe_join pe_str (pe_lc (own := [("number", 1)]) (g := (gName 1)) (tt := tYes) rfl sc_shown.nd (pi_list (pv 0)) (blkOk_by (own := [("number", 1)]) (N := N_shown) (sc := defScope s_shown) (by decide +kernel)) (fun _ _ _ _ _ => pg_name (i := 1) sc_shown.nd rfl (Or.inl rfl)) (fun _ _ _ _ _ => pts_nil) (fun _ _ _ _ _ => (pe_callTy call_str_int (by rfl) T.str (by decide +kernel) (pa_cons (pv 1) pa_nil))))))))
theorem ok_number_of (T : Txt K mg) : FnOk P w K mg base (L2.CX P w) 1 (He.ga K "number_of") T.d_number_of ["word"] (sp_number_of K) := by
  refine T.F_number_of.okX sc_number_of len_number_of (fun cdv A outer s H vs Q E hr h => ⟨t_number_of K E, ?_, pure_number_of vs H Q E h⟩)
  exact (pss_cons (ps_set (i := 1) sc_number_of.nd rfl (Or.inl rfl) (pv 0))
  (pss_cons (ps_if (pt_cmpR op_eq (pe_slice sl_str (pv 0) po_none (po_some pe_int)) pe_str (nomark _))
   (pss_one (ps_set (i := 1) sc_number_of.nd rfl (Or.inl rfl) (pe_slice sl_str (pv 0) (po_some pe_int) po_none)))
   pss_nil)
  (pss_cons (ps_if (PW.pt (pw_or (pt_not (pt_chain op_le op_le pe_int (pe_callB call_len_str (by rfl) T.len PySem.boot_len (pa_cons (pv 1) pa_nil)) pe_int)) (pw_or1 (PW.pt (pw_and (pt_cmpR op_eq (pe_ix ix_str (pv 1) pe_int (fun _ _ => rfl)) pe_str (nomark _)) (pw_and1 (pt_cmpR op_ne (pv 0) pe_str (nomark _))))))))
   (pss_one (ps_raise rfl (takes_of rfl rfl rfl rfl) (pmk_own PySem.F.excBase_ValueError T.x_NoNote.ok T.m_NoNote T.x_NoNote.kp (raises_own T.x_NoNote.sb T.x_NoNote.ty) (by exact rfl))))
   pss_nil)
  (pss_cons (ps_for (passes_of rfl) rfl (pi_str (pv 1)) (pg_name (i := 2) sc_number_of.nd rfl (Or.inl rfl))
   (pss_one (ps_if (pt_cmpR op_notIn_sign (pv 2) (pe_glob (by rfl) T.m_FIGURES.choose_spec ⟨_, rfl⟩) (by rfl))
    (pss_one (ps_raise rfl (takes_of rfl rfl rfl rfl) (pmk_own PySem.F.excBase_ValueError T.x_NoNote.ok T.m_NoNote T.x_NoNote.kp (raises_own T.x_NoNote.sb T.x_NoNote.ty) (by exact rfl))))
    pss_nil)))
  (pss_one (ps_ret (pe_callTy call_int_str (by rfl) T.int (by decide +kernel) (pa_cons (pv 0) pa_nil))))))))
theorem ok_read (T : Txt K mg) (G_number_of : FnOk P w K mg base (L2.CX P w) 1 (He.ga K "number_of") T.d_number_of ["word"] (sp_number_of K)) (G_ask_row : FnOk P w K mg base (L2.CX P w) 1 (He.ga K "ask_row") T.d_ask_row ["row"] (sp_ask_row K)) : FnOk P w K mg base CX0 2 (He.ga K "read") T.d_read ["text"] (sp_read K) := by
  refine T.F_read.ok sc_read len_read (fun cdv A outer s H vs Q E hr h => ⟨t_read K, ?_, pure_read vs H Q E h⟩)
  exact (pss_cons (ps_setLc (i := 1) (own := [("word", 2)]) (g := (gName 2)) (tt := tYes) rfl sc_read.nd rfl rfl (sw_true rfl rfl rfl (by decide +kernel)) (pi_list (pe_split (pv 0) pe_str)) (blkOk_by (own := [("word", 2)]) (N := N_read) (sc := defScope s_read) (by decide +kernel)) (fun _ _ _ _ _ => pg_name (i := 2) sc_read.nd rfl (Or.inl rfl)) (fun _ _ _ _ _ => pts_nil) (fun _ _ _ _ _ => (pe_call G_number_of (hr.mono (by decide)) (by rfl) T.g_number_of T.F_number_of.kp T.b_number_of .nil passL (pa_cons (pv 2) pa_nil))))
  (pss_cons (ps_try_thru0 (pss_one (ps_expr (pe_call G_ask_row (hr.mono (by decide)) (by rfl) T.g_ask_row T.F_ask_row.kp T.b_ask_row .nil passL (pa_cons (pv 1) pa_nil)))))
  (pss_one (ps_ret (pv 1)))))
theorem ok_law_cell_at (T : Txt K mg) : FnOk P w K mg base CX0 1 (He.ga K "_law_cell_at") T.d__law_cell_at ["script", "k"] (sp_law_cell_at K) := by
  refine T.F__law_cell_at.ok sc__law_cell_at len_law_cell_at (fun cdv A outer s H vs Q E hr h => ⟨t_law_cell_at K, ?_, pure_law_cell_at vs H Q E h⟩)
  exact (pss_cons (ps_if (pt_cmpR op_lt (pv 1) (pe_callB call_len_seq (by rfl) T.len PySem.boot_len (pa_cons (pv 0) pa_nil)) (nomark _))
   (pss_one (ps_ret (pe_ix ix_list (pv 0) (pv 1) (fun _ _ => rfl))))
   pss_nil)
  (pss_one (ps_ret pe_int)))
theorem ok_law_whole (T : Txt K mg) : FnOk P w K mg base CX0 1 (He.ga K "_law_whole") T.d__law_whole ["found"] (sp_law_whole K) := by
  refine T.F__law_whole.ok sc__law_whole len_law_whole (fun cdv A outer s H vs Q E hr h => ⟨t_law_whole K, ?_, pure_law_whole vs H Q E h⟩)
  exact (pss_one (ps_ret (pe_and (pe_callB call_isi (by rfl) T.isinstance (by decide +kernel) (pa_cons (pv 0) (pa_cons (pe_bltn (v := .ty "int") (by rfl) T.int (by decide +kernel) rfl) pa_nil))) (pe_one (pe_not (pe_callB call_isi (by rfl) T.isinstance (by decide +kernel) (pa_cons (pv 0) (pa_cons (pe_bltn (v := .ty "bool") (by rfl) T.bool (by decide +kernel) rfl) pa_nil))))))))
theorem ok_law_next (T : Txt K mg) : FnOk P w K mg base CX0 1 (He.ga K "_law_next") T.d__law_next ["seed"] (sp_law_next K) := by
  refine T.F__law_next.ok sc__law_next len_law_next (fun cdv A outer s H vs Q E hr h => ⟨t_law_next K, ?_, pure_law_next vs H Q E h⟩)
  exact (pss_cons (ps_set (i := 0) sc__law_next.nd rfl (Or.inl rfl) (pe_op op_mod (pe_op op_add (pv 0) pe_int) pe_int))
  (pss_one (ps_ret (pe_op op_mod (pe_op op_add (pe_op op_add (pe_op op_mulW (pv 0) (pv 0)) (pe_op op_mulW pe_int (pv 0))) pe_int) pe_int))))
theorem ok_law_row (T : Txt K mg) (G_law_next : FnOk P w K mg base CX0 1 (He.ga K "_law_next") T.d__law_next ["seed"] (sp_law_next K)) : FnOk P w K mg base CX0 2 (He.ga K "_law_row") T.d__law_row ["cell", "steps", "way", "great"] (sp_law_row K) := by
  refine T.F__law_row.ok sc__law_row len_law_row (fun cdv A outer s H vs Q E hr h => ⟨t_law_row K, ?_, pure_law_row vs H Q E h⟩)
  exact (pss_cons (ps_set (i := 4) sc__law_row.nd rfl (Or.inl rfl) (pe_lst pa_nil))
  (pss_cons (ps_for PassesOwn.never rfl (pi_range1 (by rfl) T.range (pa_cons (pe_ix ix_list (pe_lst (pa_cons pe_int (pa_cons pe_int (pa_cons pe_int (pa_cons pe_int (pa_cons pe_int (pa_cons pe_int pa_nil))))))) (pv 1) (fun _ _ => rfl)) pa_nil)) (pg_name (i := 5) sc__law_row.nd rfl (Or.inl rfl))
   (pss_cons (ps_set (i := 0) sc__law_row.nd rfl (Or.inl rfl) (pe_call G_law_next (hr.mono (by decide)) (by rfl) T.g__law_next T.F__law_next.kp T.b__law_next .nil pass0 (pa_cons (pe_op op_add (pe_op op_mod (pv 0) pe_int) (pe_op op_mulW pe_int (pv 5))) pa_nil)))
   (pss_cons (ps_set (i := 6) sc__law_row.nd rfl (Or.inl rfl) (pe_op op_sub (pe_op op_mod (pe_op op_fdiv (pv 0) pe_int) pe_int) pe_int))
   (pss_cons (ps_if (pt_cmpR op_eq (pe_op op_mod (pe_op op_fdiv (pv 2) pe_int) pe_int) pe_int (nomark _))
    (pss_one (ps_set (i := 6) sc__law_row.nd rfl (Or.inl rfl) (pe_op op_add (pe_op op_mulW (pv 6) (pv 3)) (pe_op op_mulW (pe_op op_sub pe_int (pe_op op_mulW pe_int (pe_callTy call_int1 (by rfl) T.int (by decide +kernel) (pa_cons (pe_cmpR op_lt (pv 6) pe_int (nomark _)) pa_nil)))) (pe_op op_mod (pe_op op_fdiv (pv 0) pe_int) (pv 3))))))
    pss_nil)
   (pss_cons (ps_if (pt_cmpR op_eq (pe_op op_mod (pv 2) pe_int) pe_int (nomark _))
    (pss_one (ps_set (i := 6) sc__law_row.nd rfl (Or.inl rfl) (pe_op op_sub pe_int (pe_op op_mulW pe_int (pe_op op_mod (pe_op op_fdiv (pv 0) pe_int) pe_int)))))
    pss_nil)
   (pss_cons (ps_if (pt_cmpR op_eq (pe_op op_mod (pv 2) pe_int) pe_int (nomark _))
    (pss_one (ps_set (i := 6) sc__law_row.nd rfl (Or.inl rfl) (pe_op op_sub (pe_op op_mod (pe_op op_fdiv (pv 0) pe_int) pe_int) pe_int)))
    pss_nil)
   (pss_cons (ps_if (PW.pt (pw_and (pt_cmpR op_eq (pe_op op_mod (pv 2) pe_int) pe_int (nomark _)) (pw_and1 (pt_cmpR op_gt (pe_op op_mod (pe_op op_fdiv (pv 0) pe_int) pe_int) pe_int (nomark _)))))
    (pss_one (ps_set (i := 6) sc__law_row.nd rfl (Or.inl rfl) pe_int))
    pss_nil)
   (pss_one (ps_expr (pe_bm PySem.F.plainAttrs_list PySem.F.slot_list_append PySem.F.type_list_append mt_append (pv 4) (pa_cons (pv 6) pa_nil)))))))))))
  (pss_one (ps_ret (pv 4)))))
theorem ok_law_alike (T : Txt K mg) (G_law_whole : FnOk P w K mg base CX0 1 (He.ga K "_law_whole") T.d__law_whole ["found"] (sp_law_whole K)) : FnOk P w K mg base CX0 2 (He.ga K "_law_alike") T.d__law_alike ["found", "due"] (sp_law_alike K) := by
  refine T.F__law_alike.ok sc__law_alike len_law_alike (fun cdv A outer s H vs Q E hr h => ⟨t_law_alike K, ?_, pure_law_alike vs H Q E h⟩)
  exact (pss_cons (ps_if (PW.pt (pw_or (pt_not (pt_val (pe_callB call_isi (by rfl) T.isinstance (by decide +kernel) (pa_cons (pv 0) (pa_cons (pe_bltn (v := .ty "list") (by rfl) T.list (by decide +kernel) rfl) pa_nil))))) (pw_or1 (pt_cmpR op_ne (pe_callB call_len_seq (by rfl) T.len PySem.boot_len (pa_cons (pv 0) pa_nil)) (pe_callB call_len_seq (by rfl) T.len PySem.boot_len (pa_cons (pv 1) pa_nil)) (nomark _)))))
   (pss_one (ps_ret pe_bl))
   pss_nil)
  (pss_cons (ps_for PassesOwn.never rfl (pi_range1 (by rfl) T.range (pa_cons (pe_callB call_len_seq (by rfl) T.len PySem.boot_len (pa_cons (pv 1) pa_nil)) pa_nil)) (pg_name (i := 2) sc__law_alike.nd rfl (Or.inl rfl))
   (pss_one (ps_if (PW.pt (pw_or (pt_not (pt_val (pe_call G_law_whole (hr.mono (by decide)) (by rfl) T.g__law_whole T.F__law_whole.kp T.b__law_whole .nil pass0 (pa_cons (pe_ix ix_list (pv 0) (pv 2) (fun _ _ => rfl)) pa_nil)))) (pw_or1 (pt_cmpR op_ne (pe_ix ix_list (pv 0) (pv 2) (fun _ _ => rfl)) (pe_ix ix_list (pv 1) (pv 2) (fun _ _ => rfl)) (nomark _)))))
    (pss_one (ps_ret pe_bl))
    pss_nil)))
  (pss_one (ps_ret pe_bl))))
theorem ok_law_text (T : Txt K mg) : FnOk P w K mg base CX0 1 (He.ga K "_law_text") T.d__law_text ["row"] (sp_law_text K) := by
  refine T.F__law_text.ok sc__law_text len_law_text (fun cdv A outer s H vs Q E hr h => ⟨t_law_text K, ?_, pure_law_text vs H Q E h⟩)
  exact (pss_cons (ps_set (i := 1) sc__law_text.nd rfl (Or.inl rfl) pe_str)
  (pss_cons (ps_for PassesOwn.never rfl (pi_list (pv 0)) (pg_name (i := 2) sc__law_text.nd rfl (Or.inl rfl))
   (pss_one (ps_set (i := 1) sc__law_text.nd rfl (Or.inl rfl) (pe_op op_add_str (pe_op op_add_str (pv 1) pe_str) (pe_callTy call_str_int (by rfl) T.str (by decide +kernel) (pa_cons (pv 2) pa_nil))))))
  (pss_one (ps_ret (pe_slice sl_str (pv 1) (po_some pe_int) po_none)))))
theorem ok_law (T : Txt K mg) (G_law_row : FnOk P w K mg base CX0 2 (He.ga K "_law_row") T.d__law_row ["cell", "steps", "way", "great"] (sp_law_row K)) (G_shown : FnOk P w K mg base (L2.CX P w) 2 (He.ga K "shown") T.d_shown ["row"] (sp_shown K)) (G_read : FnOk P w K mg base CX0 2 (He.ga K "read") T.d_read ["text"] (sp_read K)) (G_law_alike : FnOk P w K mg base CX0 2 (He.ga K "_law_alike") T.d__law_alike ["found", "due"] (sp_law_alike K)) (G_law_cell_at : FnOk P w K mg base CX0 1 (He.ga K "_law_cell_at") T.d__law_cell_at ["script", "k"] (sp_law_cell_at K)) (G_law_text : FnOk P w K mg base CX0 1 (He.ga K "_law_text") T.d__law_text ["row"] (sp_law_text K)) : FnOk P w K mg base CX0 3 (He.ga K "law") T.d_law ["script"] (sp_law K) := by
  refine T.F_law.ok sc_law len_law (fun cdv A outer s H vs Q E hr h => ⟨t_law K, ?_, pure_law vs H Q E h⟩)
  exact (pss_cons (ps_set (i := 1) sc_law.nd rfl (Or.inl rfl) (pe_call G_law_row (hr.mono (by decide)) (by rfl) T.g__law_row T.F__law_row.kp T.b__law_row .nil pass0 (pa_cons (pe_call G_law_cell_at (hr.mono (by decide)) (by rfl) T.g__law_cell_at T.F__law_cell_at.kp T.b__law_cell_at .nil pass0 (pa_cons (pv 0) (pa_cons pe_int pa_nil))) (pa_cons (pe_op op_mod (pe_call G_law_cell_at (hr.mono (by decide)) (by rfl) T.g__law_cell_at T.F__law_cell_at.kp T.b__law_cell_at .nil pass0 (pa_cons (pv 0) (pa_cons pe_int pa_nil))) pe_int) (pa_cons (pe_call G_law_cell_at (hr.mono (by decide)) (by rfl) T.g__law_cell_at T.F__law_cell_at.kp T.b__law_cell_at .nil pass0 (pa_cons (pv 0) (pa_cons pe_int pa_nil))) (pa_cons (pe_op op_mulW pe_int (pe_op op_pow pe_int pe_int)) pa_nil))))))
  (pss_cut (ps_if (pt_cmpR op_eq (pe_op op_mod (pe_call G_law_cell_at (hr.mono (by decide)) (by rfl) T.g__law_cell_at T.F__law_cell_at.kp T.b__law_cell_at .nil pass0 (pa_cons (pv 0) (pa_cons pe_int pa_nil))) pe_int) pe_int (nomark _))
   (pss_one (ps_asg (pe_op op_mulW (pe_op op_pow pe_int pe_int) (pe_op op_sub pe_int (pe_op op_mulW pe_int (pe_op op_mod (pe_call G_law_cell_at (hr.mono (by decide)) (by rfl) T.g__law_cell_at T.F__law_cell_at.kp T.b__law_cell_at .nil pass0 (pa_cons (pv 0) (pa_cons pe_int pa_nil))) pe_int)))) (pg_sub (pv 1) (pe_op op_mod (pe_call G_law_cell_at (hr.mono (by decide)) (by rfl) T.g__law_cell_at T.F__law_cell_at.kp T.b__law_cell_at .nil pass0 (pa_cons (pv 0) (pa_cons pe_int pa_nil))) (pe_callB call_len_seq (by rfl) T.len PySem.boot_len (pa_cons (pv 1) pa_nil))) set_list)))
   pss_nil)
  (pss_cons (ps_set (i := 2) sc_law.nd rfl (Or.inl rfl) (pe_callTy call_list_of (by rfl) T.list (by decide +kernel) (pa_cons (pv 1) pa_nil)))
  (pss_cons (ps_set (i := 3) sc_law.nd rfl (Or.inl rfl) (pe_call G_shown (hr.mono (by decide)) (by rfl) T.g_shown T.F_shown.kp T.b_shown .nil passL (pa_cons (pv 2) pa_nil)))
  (pss_cons (ps_if (PW.pt (pw_or (pt_not (pt_val (pe_callB call_isi (by rfl) T.isinstance (by decide +kernel) (pa_cons (pv 3) (pa_cons (pe_bltn (v := .ty "str") (by rfl) T.str (by decide +kernel) rfl) pa_nil))))) (pw_or (pt_cmpR op_ne (pv 3) (pe_call G_law_text (hr.mono (by decide)) (by rfl) T.g__law_text T.F__law_text.kp T.b__law_text .nil pass0 (pa_cons (pv 1) pa_nil)) (nomark _)) (pw_or1 (pt_cmpR (op_neD hr.units) (pv 2) (pv 1) (nomark _))))))
   (pss_one (ps_ret pe_bl))
   pss_nil)
  (pss_cons (ps_set (i := 4) sc_law.nd rfl (Or.inl rfl) (pe_call G_read (hr.mono (by decide)) (by rfl) T.g_read T.F_read.kp T.b_read .nil pass0 (pa_cons (pe_call G_law_text (hr.mono (by decide)) (by rfl) T.g__law_text T.F__law_text.kp T.b__law_text .nil pass0 (pa_cons (pv 1) pa_nil)) pa_nil)))
  (pss_cons (ps_if (pt_not (pt_val (pe_call G_law_alike (hr.mono (by decide)) (by rfl) T.g__law_alike T.F__law_alike.kp T.b__law_alike .nil pass0 (pa_cons (pv 4) (pa_cons (pv 1) pa_nil)))))
   (pss_one (ps_ret pe_bl))
   pss_nil)
  (pss_cons (ps_expr (pe_bm PySem.F.plainAttrs_list PySem.F.slot_list_append PySem.F.type_list_append mt_append (pv 4) (pa_cons pe_int pa_nil)))
  (pss_one (ps_ret (pe_call G_law_alike (hr.mono (by decide)) (by rfl) T.g__law_alike T.F__law_alike.kp T.b__law_alike .nil pass0 (pa_cons (pe_call G_read (hr.mono (by decide)) (by rfl) T.g_read T.F_read.kp T.b_read .nil pass0 (pa_cons (pe_call G_law_text (hr.mono (by decide)) (by rfl) T.g__law_text T.F__law_text.kp T.b__law_text .nil pass0 (pa_cons (pv 1) pa_nil)) pa_nil)) (pa_cons (pv 1) pa_nil)))))))))))))
end
end Sg
namespace Sg
open PySem PySem.Spec PyProof.Rows L2
/-! ### the head: what is looked at behind the top -/
/-- a def without defaults, from the head's facts -/
theorem fun_of {K : PySem.W.Frag} {x : Str} {st : Stmt} {f : Addr} {fd : FuncData} (F : FunD K x x (defArgs st) (defBody st) (defScope st) [] [] f fd) : Fun K x x st f fd := by
  obtain ⟨oc, od, dV, kV, doc, pm, an, cdv, ct, osl, e, lk, hc, hD, hK⟩ := F.ex
  rcases hD with ⟨_, e0⟩ | ⟨e0, _⟩
  · subst e0
    exact ⟨⟨oc, od, kV, doc, pm, an, cdv, ct, osl, e, lk, hc⟩, F.kp⟩
  · exact absurd rfl e0
abbrev AlE : Type := He.AlD × Bool
def obsE (n : Nat) (fa : List He.Fa) (fn : List He.DefD) (ex : PySem.W.Frag → Bool) (g : Addr → Option Obj) : AlE :=
  (He.obsD fa fn (He.frG g (He.asD g n)), ex (He.frG g (He.asD g n)))
def SaysE (fa : List He.Fa) (fn : List He.DefD) (ex : PySem.W.Frag → Bool) (K : PySem.W.Frag) : Prop := He.SaysD fa fn K ∧ ex K = true
def hookE (n : Nat) (fa : List He.Fa) (fn : List He.DefD) (ex : PySem.W.Frag → Bool) : PySem.W.Hook where
  α := AlE
  obs := fun s => obsE n fa fn ex s.heap.get?
  val := fun _ => (He.valD fn, true)
  says := fun _ h => ∃ K : PySem.W.Frag, K.In h ∧ SaysE fa fn ex K
  of := fun _ _ e => ⟨_, He.frG_in, congrArg (fun z : AlE => z.1) e, congrArg (fun z : AlE => z.2) e⟩
  keeps := fun _ _ _ ⟨K, hK, c⟩ k => ⟨K, PySem.W.Frag.In.keeps hK k, c⟩
theorem obsE_eq {n : Nat} {fa : List He.Fa} {fn : List He.DefD} {ex : PySem.W.Frag → Bool} {g : Addr → Option Obj} {s : Shared} (h : ∀ a, g a = s.heap.get? a) : obsE n fa fn ex g = (hookE n fa fn ex).obs s := by
  rw [show g = s.heap.get? from funext h] <;> rfl
theorem xok_of {K : PySem.W.Frag} {x : Str} (c : (He.Fa.exc x).ok K = true) : XOk K (He.ga K x) := by
  obtain ⟨c1, c2⟩ := He.ba c
  obtain ⟨c3, c4⟩ := He.ba c2
  obtain ⟨c5, c6⟩ := He.ba c4
  exact ⟨c1, c3, of_decide_eq_true c5, of_decide_eq_true c6⟩
end Sg
namespace Sg
open PySem PySem.Spec PyProof.Rows L2
def D_ask_row : He.DefD := ⟨("ask_row", none), "ask_row", "ask_row", defArgs s_ask_row, defBody s_ask_row, defScope s_ask_row, [], []⟩
def D_shown : He.DefD := ⟨("shown", none), "shown", "shown", defArgs s_shown, defBody s_shown, defScope s_shown, [], []⟩
def D_number_of : He.DefD := ⟨("number_of", none), "number_of", "number_of", defArgs s_number_of, defBody s_number_of, defScope s_number_of, [], []⟩
def D_read : He.DefD := ⟨("read", none), "read", "read", defArgs s_read, defBody s_read, defScope s_read, [], []⟩
def D__law_cell_at : He.DefD := ⟨("_law_cell_at", none), "_law_cell_at", "_law_cell_at", defArgs s__law_cell_at, defBody s__law_cell_at, defScope s__law_cell_at, [], []⟩
def D__law_whole : He.DefD := ⟨("_law_whole", none), "_law_whole", "_law_whole", defArgs s__law_whole, defBody s__law_whole, defScope s__law_whole, [], []⟩
def D__law_next : He.DefD := ⟨("_law_next", none), "_law_next", "_law_next", defArgs s__law_next, defBody s__law_next, defScope s__law_next, [], []⟩
def D__law_row : He.DefD := ⟨("_law_row", none), "_law_row", "_law_row", defArgs s__law_row, defBody s__law_row, defScope s__law_row, [], []⟩
def D__law_alike : He.DefD := ⟨("_law_alike", none), "_law_alike", "_law_alike", defArgs s__law_alike, defBody s__law_alike, defScope s__law_alike, [], []⟩
def D__law_text : He.DefD := ⟨("_law_text", none), "_law_text", "_law_text", defArgs s__law_text, defBody s__law_text, defScope s__law_text, [], []⟩
def D_law : He.DefD := ⟨("law", none), "law", "law", defArgs s_law, defBody s_law, defScope s_law, [], []⟩
def headFn : List He.DefD := [D_ask_row, D_shown, D_number_of, D_read, D__law_cell_at, D__law_whole, D__law_next, D__law_row, D__law_alike, D__law_text, D_law]
def headFa : List He.Fa := [.glo "ask_row", .glo "shown", .glo "number_of", .glo "read", .glo "_law_cell_at", .glo "_law_whole", .glo "_law_next", .glo "_law_row", .glo "_law_alike", .glo "_law_text", .glo "law", .glo "SignError", .exc "SignError", .glo "NoRow", .exc "NoRow", .glo "NoNote", .exc "NoNote", .glo "LENGTHS", .int "MOST" 100000000000000000000, .str "FIGURES" "0123456789", .free "bool", .free "int", .free "isinstance", .free "len", .free "list", .free "range", .free "str", .exm "NoRow" "SignError" true, .exm "NoNote" "SignError" true, .exm "NoRow" "NoRow" true]
def headEx (K : PySem.W.Frag) : Bool := (He.tupB K "LENGTHS" [.int (1), .int (2), .int (4), .int (8), .int (16), .int (32)])
abbrev headR : PySem.W.OpenRow := PySem.W.OpenLaw.row PySem.Challenge.rw_signsums_k13_written_and_read
abbrev headHk : PySem.W.Hook := hookE 4 headFa headFn headEx
def headOb (s : PySem.W.SharedT) : AlE := obsE 4 headFa headFn headEx (HandSHeadRun.getT s)
theorem headOb_eq (s : PySem.W.SharedT) : headOb s = headHk.obs s.abs := obsE_eq (HandSHeadRun.getT_eq s)
def headLooseA : List PySem.Str := ["SignError", "NoRow", "NoNote", "LENGTHS", "MOST", "ask_row", "FIGURES", "shown", "number_of", "read", "_law_cell_at", "_law_whole", "_law_next", "_law_row", "_law_alike", "_law_text"]
def headLooseB : List PySem.Str := []
def headLoose : List PySem.Str := headLooseA ++ headLooseB
theorem headRun (w : World) : HandSHeadRun.RunEq headR (PySem.W.view headR.prog [20]) headHk headOb 3000 headLoose w := by
  intro os
  kernel_rfl
theorem head_txt {K : PySem.W.Frag} {h : Heap} {mg : Str → Option Value} (X : K.In h) (G : h.Ns mainGlobals mg) (c : SaysE headFa headFn headEx K) : Nonempty (Txt K mg) := by
  have fct : ∀ f : He.Fa, f ∈ headFa → f.ok K = true := fun f hf => by
    obtain ⟨i, hi⟩ := List.mem_iff_getElem?.mp hf
    exact c.1.fact i hi
  have hx := c.2
  unfold headEx at hx
  obtain ⟨d_ask_row, FD_ask_row⟩ := c.1.def_ 0 (d := D_ask_row) rfl
  have F_ask_row : Fun K "ask_row" "ask_row" s_ask_row (He.ga K "ask_row") d_ask_row := fun_of FD_ask_row
  obtain ⟨d_shown, FD_shown⟩ := c.1.def_ 1 (d := D_shown) rfl
  have F_shown : Fun K "shown" "shown" s_shown (He.ga K "shown") d_shown := fun_of FD_shown
  obtain ⟨d_number_of, FD_number_of⟩ := c.1.def_ 2 (d := D_number_of) rfl
  have F_number_of : Fun K "number_of" "number_of" s_number_of (He.ga K "number_of") d_number_of := fun_of FD_number_of
  obtain ⟨d_read, FD_read⟩ := c.1.def_ 3 (d := D_read) rfl
  have F_read : Fun K "read" "read" s_read (He.ga K "read") d_read := fun_of FD_read
  obtain ⟨d__law_cell_at, FD__law_cell_at⟩ := c.1.def_ 4 (d := D__law_cell_at) rfl
  have F__law_cell_at : Fun K "_law_cell_at" "_law_cell_at" s__law_cell_at (He.ga K "_law_cell_at") d__law_cell_at := fun_of FD__law_cell_at
  obtain ⟨d__law_whole, FD__law_whole⟩ := c.1.def_ 5 (d := D__law_whole) rfl
  have F__law_whole : Fun K "_law_whole" "_law_whole" s__law_whole (He.ga K "_law_whole") d__law_whole := fun_of FD__law_whole
  obtain ⟨d__law_next, FD__law_next⟩ := c.1.def_ 6 (d := D__law_next) rfl
  have F__law_next : Fun K "_law_next" "_law_next" s__law_next (He.ga K "_law_next") d__law_next := fun_of FD__law_next
  obtain ⟨d__law_row, FD__law_row⟩ := c.1.def_ 7 (d := D__law_row) rfl
  have F__law_row : Fun K "_law_row" "_law_row" s__law_row (He.ga K "_law_row") d__law_row := fun_of FD__law_row
  obtain ⟨d__law_alike, FD__law_alike⟩ := c.1.def_ 8 (d := D__law_alike) rfl
  have F__law_alike : Fun K "_law_alike" "_law_alike" s__law_alike (He.ga K "_law_alike") d__law_alike := fun_of FD__law_alike
  obtain ⟨d__law_text, FD__law_text⟩ := c.1.def_ 9 (d := D__law_text) rfl
  have F__law_text : Fun K "_law_text" "_law_text" s__law_text (He.ga K "_law_text") d__law_text := fun_of FD__law_text
  obtain ⟨d_law, FD_law⟩ := c.1.def_ 10 (d := D_law) rfl
  have F_law : Fun K "law" "law" s_law (He.ga K "law") d_law := fun_of FD_law
  exact ⟨{
    bool := He.free_ok X G (c.1.fact 20 (f := .free "bool") rfl)
    int := He.free_ok X G (c.1.fact 21 (f := .free "int") rfl)
    isinstance := He.free_ok X G (c.1.fact 22 (f := .free "isinstance") rfl)
    len := He.free_ok X G (c.1.fact 23 (f := .free "len") rfl)
    list := He.free_ok X G (c.1.fact 24 (f := .free "list") rfl)
    range := He.free_ok X G (c.1.fact 25 (f := .free "range") rfl)
    str := He.free_ok X G (c.1.fact 26 (f := .free "str") rfl)
    m_SignError := He.glo_ok X G (c.1.fact 11 (f := .glo "SignError") rfl)
    x_SignError := xok_of (c.1.fact 12 (f := .exc "SignError") rfl)
    m_NoRow := He.glo_ok X G (c.1.fact 13 (f := .glo "NoRow") rfl)
    x_NoRow := xok_of (c.1.fact 14 (f := .exc "NoRow") rfl)
    m_NoNote := He.glo_ok X G (c.1.fact 15 (f := .glo "NoNote") rfl)
    x_NoNote := xok_of (c.1.fact 16 (f := .exc "NoNote") rfl)
    m_LENGTHS := He.glo_ok X G (c.1.fact 17 (f := .glo "LENGTHS") rfl)
    v_LENGTHS := fun H => He.tupB_ok hx H
    m_MOST := He.int_ok X G (c.1.fact 18 (f := .int "MOST" 100000000000000000000) rfl)
    m_FIGURES := He.str_ok X G (c.1.fact 19 (f := .str "FIGURES" "0123456789") rfl)
    d_ask_row := d_ask_row
    g_ask_row := He.glo_ok X G (c.1.fact 0 (f := .glo "ask_row") rfl)
    F_ask_row := F_ask_row
    b_ask_row := F_ask_row.binds fun _ _ _ _ _ _ us hl => match us, hl with | [_], _ => rfl
    d_shown := d_shown
    g_shown := He.glo_ok X G (c.1.fact 1 (f := .glo "shown") rfl)
    F_shown := F_shown
    b_shown := F_shown.binds fun _ _ _ _ _ _ us hl => match us, hl with | [_], _ => rfl
    d_number_of := d_number_of
    g_number_of := He.glo_ok X G (c.1.fact 2 (f := .glo "number_of") rfl)
    F_number_of := F_number_of
    b_number_of := F_number_of.binds fun _ _ _ _ _ _ us hl => match us, hl with | [_], _ => rfl
    d_read := d_read
    g_read := He.glo_ok X G (c.1.fact 3 (f := .glo "read") rfl)
    F_read := F_read
    b_read := F_read.binds fun _ _ _ _ _ _ us hl => match us, hl with | [_], _ => rfl
    d__law_cell_at := d__law_cell_at
    g__law_cell_at := He.glo_ok X G (c.1.fact 4 (f := .glo "_law_cell_at") rfl)
    F__law_cell_at := F__law_cell_at
    b__law_cell_at := F__law_cell_at.binds fun _ _ _ _ _ _ us hl => match us, hl with | [_, _], _ => rfl
    d__law_whole := d__law_whole
    g__law_whole := He.glo_ok X G (c.1.fact 5 (f := .glo "_law_whole") rfl)
    F__law_whole := F__law_whole
    b__law_whole := F__law_whole.binds fun _ _ _ _ _ _ us hl => match us, hl with | [_], _ => rfl
    d__law_next := d__law_next
    g__law_next := He.glo_ok X G (c.1.fact 6 (f := .glo "_law_next") rfl)
    F__law_next := F__law_next
    b__law_next := F__law_next.binds fun _ _ _ _ _ _ us hl => match us, hl with | [_], _ => rfl
    d__law_row := d__law_row
    g__law_row := He.glo_ok X G (c.1.fact 7 (f := .glo "_law_row") rfl)
    F__law_row := F__law_row
    b__law_row := F__law_row.binds fun _ _ _ _ _ _ us hl => match us, hl with | [_, _, _, _], _ => rfl
    d__law_alike := d__law_alike
    g__law_alike := He.glo_ok X G (c.1.fact 8 (f := .glo "_law_alike") rfl)
    F__law_alike := F__law_alike
    b__law_alike := F__law_alike.binds fun _ _ _ _ _ _ us hl => match us, hl with | [_, _], _ => rfl
    d__law_text := d__law_text
    g__law_text := He.glo_ok X G (c.1.fact 9 (f := .glo "_law_text") rfl)
    F__law_text := F__law_text
    b__law_text := F__law_text.binds fun _ _ _ _ _ _ us hl => match us, hl with | [_], _ => rfl
    d_law := d_law
    g_law := He.glo_ok X G (c.1.fact 10 (f := .glo "law") rfl)
    F_law := F_law
    b_law := F_law.binds fun _ _ _ _ _ _ us hl => match us, hl with | [_], _ => rfl }⟩
end Sg
namespace Sg
open PySem PySem.Spec PyProof.Rows L2 Evl
section
variable {P : Program} {w : World} {K : PySem.W.Frag} {mg : Str → Option Value} {base : Heap}
theorem law_binds (T : Txt K mg) (s : Shared) (u : Value) : BindsTo s T.d_law ⟨[u], []⟩ [("script", u)] := by
  obtain ⟨oc, od, kV, doc, pm, an, cdv, ct, osl, e, _, _⟩ := T.F_law.ex
  rw [e]
  exact .of_eq rfl
theorem all_ok (T : Txt K mg) : FnOk P w K mg base CX0 3 (He.ga K "law") T.d_law ["script"] (sp_law K) := by
  have G_ask_row := ok_ask_row (P := P) (w := w) (base := base) T
  have G_number_of := ok_number_of (P := P) (w := w) (base := base) T
  have G_law_cell_at := ok_law_cell_at (P := P) (w := w) (base := base) T
  have G_law_whole := ok_law_whole (P := P) (w := w) (base := base) T
  have G_law_next := ok_law_next (P := P) (w := w) (base := base) T
  have G_law_text := ok_law_text (P := P) (w := w) (base := base) T
  have G_shown := ok_shown (P := P) (w := w) (base := base) T G_ask_row
  have G_read := ok_read (P := P) (w := w) (base := base) T G_number_of G_ask_row
  have G_law_row := ok_law_row (P := P) (w := w) (base := base) T G_law_next
  have G_law_alike := ok_law_alike (P := P) (w := w) (base := base) T G_law_whole
  have G_law := ok_law (P := P) (w := w) (base := base) T G_law_row G_shown G_read G_law_alike G_law_cell_at G_law_text
  exact G_law
end
end Sg
open PySem PySem.W PySem.Calls PyProof.Rows
set_option maxHeartbeats 0 in
theorem PySem.Challenge.cw_signsums_k13_written_and_read_holds : PySem.Challenge.rw_signsums_k13_written_and_read.Holds := by
  w_on; o_law
  refine HandSHeadRun.head_any (r := OpenLaw.row PySem.Challenge.rw_signsums_k13_written_and_read) (q := view (OpenLaw.row PySem.Challenge.rw_signsums_k13_written_and_read).prog [20]) (H := Sg.headHk) (ob := Sg.headOb) (M := 3000) (loose := Sg.headLoose) (d := HandSHeadRun.topDef (OpenLaw.row PySem.Challenge.rw_signsums_k13_written_and_read).prog 20) (kwd := []) Sg.headOb_eq
    (by kernel_rfl) (fun s => by kernel_rfl) Sg.headRun (by kernel_rfl) (by kernel_rfl) (by kernel_rfl) (by rfl) (by first | assumption | decide +kernel) (by decide +kernel) ⟨rfl, rfl, rfl, rfl, rfl, by decide +kernel⟩ ?hw ?hc
  case hw => w_witness2
  case hc =>
    refine L2.walk_ofE (l := PySem.Challenge.rw_signsums_k13_written_and_read) (n := 63) (k := 3) (x := "script") (CX := L2.CX0) rfl (by decide) (by kernel_rfl) ⟨rfl, by decide, by decide⟩ ?F (fun _ _ _ _ z => z)
    intro w mg fa h Y G hmg0
    obtain ⟨K, KX, c⟩ := Y
    obtain ⟨T⟩ := Sg.head_txt KX G c
    have hmg : mg ("law" : PySem.Str) = some (.ref fa) := by
      have e : (HandSHeadRun.topDef (OpenLaw.row PySem.Challenge.rw_signsums_k13_written_and_read).prog 20).name = ("law" : PySem.Str) := by kernel_rfl
      rw [← e]
      exact hmg0
    have ea := T.g_law.symm.trans hmg
    cases ea
    have b := T.b_law
    exact ⟨K, T.d_law, Sg.sp_law K, KX, Sg.law_binds T, fun H a ns hl _ hS => ⟨a, ns, rfl, hS, hl, fun _ => rfl⟩, fun base _ _ => Sg.all_ok T⟩

