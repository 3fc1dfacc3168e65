import PyProof.Rows.All
import Wide.All
import OpenK.AllK
import Wide.FinOn
import PyProof.EqAt
import PyProof.EqKinds
import PyProof.TupleCall
import Open.SpecLaws
import KE.OsGo
import HandS.ForSpec
import HandS.Comp
import HandS.Dict
import HandS.Text
import HandS.WordsDict
import HandS.ExcInit
import HandS.ExcField
import HandS.RevRange
import PySem.Challenge.RW_wordchains_s01_answers
set_option Elab.async false
set_option linter.all false
set_option maxRecDepth 100000
set_option maxHeartbeats 4000000
/-! M1: the plain law, part 1: the specification's tables, told by the words that are gone. Core Lean and the specification alone. -/
namespace WM
open Uw94

/-! ### bits -/
theorem isIn_bit (m i : Nat) : isIn m i = m.testBit i := by
  unfold isIn
  rw [Nat.testBit_eq_decide_div_mod_eq]
  by_cases h : m / 2 ^ i % 2 = 1
  · rw [h]; simp
  · rw [decide_eq_false h]; simpa using h
theorem pow_pos (i : Nat) : 0 < 2 ^ i := Nat.two_pow_pos i
theorem le_of_bit {m i : Nat} (h : m.testBit i = true) : 2 ^ i ≤ m := Nat.ge_two_pow_of_testBit h
theorem bit_high {m n i : Nat} (h : m < 2 ^ n) (hi : n ≤ i) : m.testBit i = false := Nat.testBit_lt_two_pow (Nat.lt_of_lt_of_le h (Nat.pow_le_pow_right (by decide) hi))
/-- one bit more, told by + -/
theorem or_pow {g i : Nat} (h : g.testBit i = false) : g ||| 2 ^ i = g + 2 ^ i := by
  have e : g = 2 ^ (i + 1) * (g / 2 ^ (i + 1)) + g % 2 ^ (i + 1) := (Nat.div_add_mod _ _).symm
  have hr : g % 2 ^ (i + 1) < 2 ^ (i + 1) := Nat.mod_lt _ (pow_pos _)
  have hb : (g % 2 ^ (i + 1)).testBit i = false := by
    rw [Nat.testBit_mod_two_pow, h]; simp
  have hr2 : g % 2 ^ (i + 1) < 2 ^ i := by
    refine Nat.lt_pow_two_of_testBit _ fun j hj => ?_
    by_cases hji : j = i
    · rw [hji]; exact hb
    · exact bit_high hr (by omega)
  have e2 : g = 2 ^ (i + 1) * (g / 2 ^ (i + 1)) ||| g % 2 ^ (i + 1) := by
    rw [← Nat.two_pow_add_eq_or_of_lt hr]; exact e
  have e0 : 2 ^ (i + 1) = 2 ^ i * 2 := Nat.pow_succ ..
  have e3 : g % 2 ^ (i + 1) + 2 ^ i < 2 ^ (i + 1) := by
    generalize g % 2 ^ (i + 1) = r at hr2
    omega
  have e4 : g % 2 ^ (i + 1) ||| 2 ^ i = g % 2 ^ (i + 1) + 2 ^ i := Nat.or_two_pow_eq_add_of_lt hr2
  have e5 : g ||| 2 ^ i = 2 ^ (i + 1) * (g / 2 ^ (i + 1)) + (g % 2 ^ (i + 1) + 2 ^ i) := by
    rw [Nat.two_pow_add_eq_or_of_lt e3, ← e4, ← Nat.or_assoc, ← e2]
  omega
theorem bit_or {g i j : Nat} : (g ||| 2 ^ i).testBit j = (g.testBit j || decide (i = j)) := by
  rw [Nat.testBit_or, Nat.testBit_two_pow]
theorem or_lt {g i n : Nat} (h : g < 2 ^ n) (hi : i < n) : g ||| 2 ^ i < 2 ^ n := Nat.or_lt_two_pow h (Nat.pow_lt_pow_right (by decide) hi)
theorem lt_or {g i : Nat} (h : g.testBit i = false) : g < g ||| 2 ^ i := by
  rw [or_pow h]
  have := pow_pos i
  omega
theorem full_bit {n g i : Nat} (hg : g < 2 ^ n) : (2 ^ n - 1 - g).testBit i = (decide (i < n) && !g.testBit i) := by
  have e : 2 ^ n - 1 - g = 2 ^ n - (g + 1) := by omega
  rw [e, Nat.testBit_two_pow_sub_succ hg]

/-! ### a table's fold -/
section
variable (F : Array Nat → Nat → Nat)
def inner (c : Nat) (t : Array Nat) : Array Nat := (List.range c).foldl (fun t c => t.push (F t c)) t
theorem inner_zero (t : Array Nat) : inner F 0 t = t := rfl
theorem inner_succ (c : Nat) (t : Array Nat) : inner F (c + 1) t = (inner F c t).push (F (inner F c t) c) := by
  unfold inner
  rw [List.range_succ, List.foldl_append]
  rfl
theorem inner_size (c : Nat) (t : Array Nat) : (inner F c t).size = t.size + c := by
  induction c with
  | zero => rfl
  | succ c ih => rw [inner_succ, Array.size_push, ih]; omega
theorem getD_push_lt {t : Array Nat} {x k d : Nat} (h : k < t.size) : (t.push x).getD k d = t.getD k d := by
  simp [Array.getD, Array.getElem_push, h, Nat.lt_succ_of_lt h]
theorem getD_push_eq {t : Array Nat} {x d : Nat} : (t.push x).getD t.size d = x := by
  simp [Array.getD]
theorem inner_old (c : Nat) (t : Array Nat) {k : Nat} (h : k < t.size) : (inner F c t).getD k 0 = t.getD k 0 := by
  induction c with
  | zero => rfl
  | succ c ih => rw [inner_succ, getD_push_lt (by rw [inner_size]; omega), ih]
theorem inner_new (c : Nat) (t : Array Nat) {j : Nat} (h : j < c) : (inner F c t).getD (t.size + j) 0 = F (inner F j t) j := by
  induction c with
  | zero => omega
  | succ c ih =>
    rw [inner_succ]
    by_cases e : j = c
    · subst e
      have s := inner_size F j t
      rw [← s, getD_push_eq]
    · rw [getD_push_lt (by rw [inner_size]; omega), ih (by omega)]
end
section
variable (G : Nat → Array Nat → Nat → Nat)
def outer (M : Nat) : Array Nat := (List.range M).foldl (fun t m => inner (G m) 9 t) #[]
theorem outer_succ (M : Nat) : outer G (M + 1) = inner (G M) 9 (outer G M) := by
  unfold outer
  rw [List.range_succ, List.foldl_append]
  rfl
theorem outer_size (M : Nat) : (outer G M).size = M * 9 := by
  induction M with
  | zero => rfl
  | succ M ih => rw [outer_succ, inner_size, ih]; omega
theorem outer_old {m k : Nat} : ∀ (M : Nat), m ≤ M → k < m * 9 → (outer G M).getD k 0 = (outer G m).getD k 0
  | 0, h, hk => by omega
  | M + 1, h, hk => by
    by_cases e : m = M + 1
    · rw [e]
    · rw [outer_succ, inner_old _ _ _ (by rw [outer_size]; omega), outer_old M (by omega) hk]
theorem outer_at {m M c : Nat} (h : m < M) (hc : c < 9) : (outer G M).getD (m * 9 + c) 0 = G m (inner (G m) c (outer G m)) c := by
  rw [outer_old G (m := m + 1) M h (by omega), outer_succ]
  have s := outer_size G m
  rw [← s]
  exact inner_new _ _ _ hc
end

/-- letters are below 8 -/
def Small (w : Words) : Prop := ∀ p ∈ w, p.1 ≤ 7 ∧ p.2 ≤ 7
theorem Small.first {w : Words} (h : Small w) (i : Nat) : first w i ≤ 7 := by
  unfold Uw94.first
  by_cases hi : i < w.length
  · rw [List.getD_eq_getElem?_getD, List.getElem?_eq_getElem hi]
    exact (h _ (List.getElem_mem hi)).1
  · rw [List.getD_eq_getElem?_getD, List.getElem?_eq_none (by omega)]
    exact Nat.zero_le _
theorem Small.last {w : Words} (h : Small w) (i : Nat) : last w i ≤ 7 := by
  unfold Uw94.last
  by_cases hi : i < w.length
  · rw [List.getD_eq_getElem?_getD, List.getElem?_eq_getElem hi]
    exact (h _ (List.getElem_mem hi)).2
  · rw [List.getD_eq_getElem?_getD, List.getElem?_eq_none (by omega)]
    exact Nat.zero_le _

/-- f asks only of words of the set -/
def Asks (w : Words) (f : Nat → Must → (Nat → Nat) → Nat) : Prop := ∀ m c v v', (∀ i, i < w.length → isIn m i = true → v i = v' i) → f m c v = f m c v'
/-- a table's number is f of the numbers behind -/
theorem table_at {w : Words} (hw : Small w) {f : Nat → Must → (Nat → Nat) → Nat} (hf : Asks w f) {m c : Nat} (hm : m < 2 ^ w.length) (hc : c < 9) :
    at_ (table w f) m c = f m c fun i => at_ (table w f) (m - 2 ^ i) (behind w i) := by
  have e : table w f = outer (fun m t c => f m c fun i => t.getD ((m - 2 ^ i) * LETTERS + behind w i) 0) (2 ^ w.length) := rfl
  have e1 : at_ (table w f) m c = (outer (fun m t c => f m c fun i => t.getD ((m - 2 ^ i) * LETTERS + behind w i) 0) (2 ^ w.length)).getD (m * 9 + c) 0 := rfl
  rw [e1, outer_at _ hm hc]
  refine hf _ _ _ _ fun i hi hin => ?_
  show _ = (table w f).getD ((m - 2 ^ i) * 9 + behind w i) 0
  have h1 : 2 ^ i ≤ m := le_of_bit (by rw [← isIn_bit]; exact hin)
  have h2 := pow_pos i
  have h3 : behind w i ≤ 8 := Nat.succ_le_succ (hw.last i)
  have h4 : (m - 2 ^ i) * LETTERS + behind w i < m * 9 := by
    have key : ∀ b p : Nat, b ≤ 8 → p ≤ m → 0 < p → (m - p) * 9 + b < m * 9 := by
      intro b p hb hp h0
      omega
    exact key _ _ h3 h1 h2
  rw [inner_old _ _ _ (by rw [outer_size]; exact h4), e]
  exact (outer_old _ _ (Nat.le_of_lt hm) h4).symm

/-! ### what the five tables ask -/
theorem mem_may {w : Words} {m c i : Nat} : i ∈ may w m c ↔ i < w.length ∧ isIn m i = true ∧ fits w c i = true := by
  unfold Uw94.may
  rw [List.mem_filter, List.mem_range, Bool.and_eq_true]
theorem asks_win (w : Words) : Asks w (winF w) := by
  intro m c v v' h
  unfold winF
  have e : (may w m c).any (fun i => v i == 0) = (may w m c).any (fun i => v' i == 0) := by
    rw [Bool.eq_iff_iff, List.any_eq_true, List.any_eq_true]
    constructor
    · rintro ⟨i, hi, q⟩
      have := mem_may.mp hi
      exact ⟨i, hi, by rw [← h i this.1 this.2.1]; exact q⟩
    · rintro ⟨i, hi, q⟩
      have := mem_may.mp hi
      exact ⟨i, hi, by rw [h i this.1 this.2.1]; exact q⟩
  rw [e]
theorem map_may {w : Words} {m c : Nat} {v v' : Nat → Nat} (h : ∀ i, i < w.length → isIn m i = true → v i = v' i) : (may w m c).map v = (may w m c).map v' := by
  refine List.map_congr_left fun i hi => ?_
  have := mem_may.mp hi
  exact h i this.1 this.2.1
theorem asks_long (w : Words) : Asks w (longF w) := by
  intro m c v v' h
  unfold longF
  have e : (may w m c).map (fun i => v i + 1) = (may w m c).map (fun i => v' i + 1) := map_may (v := fun i => v i + 1) (v' := fun i => v' i + 1) fun i h1 h2 => by show v i + 1 = v' i + 1; rw [h i h1 h2]
  rw [e]
theorem asks_all (w : Words) : Asks w (allF w) := by
  intro m c v v' h
  unfold allF
  rw [map_may h]
theorem asks_chain (w : Words) : Asks w (chainF w) := by
  intro m c v v' h
  unfold chainF
  rw [map_may h]
theorem asks_part (w : Words) : Asks w (partF w) := by
  intro m c v v' h
  unfold partF
  by_cases hm : m = 0
  · rw [if_pos hm, if_pos hm]
  · rw [if_neg hm, if_neg hm]
    have e : ((List.range w.length).filter (isIn m)).map (fun i => v i + if (c != 0 && fits w c i) = true then 0 else 1) = ((List.range w.length).filter (isIn m)).map (fun i => v' i + if (c != 0 && fits w c i) = true then 0 else 1) := by
      refine List.map_congr_left fun i hi => ?_
      obtain ⟨h1, h2⟩ := List.mem_filter.mp hi
      rw [h i (List.mem_range.mp h1) h2]
    exact congrArg (List.foldl min 100) e

/-! ### the program's view: the words that are gone, the letter (8: any) -/
def mustOf (l : Nat) : Nat := if l = 8 then 0 else l + 1
theorem mustOf_lt {l : Nat} (h : l ≤ 8) : mustOf l < 9 := by
  unfold mustOf; split <;> omega
theorem mustOf_last {w : Words} (hw : Small w) (i : Nat) : mustOf (last w i) = behind w i := by
  have := hw.last i
  unfold mustOf behind
  rw [if_neg (by omega)]
def allG (w : Words) : Nat := 2 ^ w.length - 1
/-- the set of those that are left -/
def compl (w : Words) (g : Nat) : Nat := full w - g
def leftL (w : Words) (g : Nat) : List Nat := (List.range w.length).filter fun i => !g.testBit i
def begB (w : Words) (i l : Nat) : Bool := l == 8 || first w i == l
def nextL (w : Words) (g l : Nat) : List Nat := (leftL w g).filter fun i => begB w i l
theorem begB_fits {w : Words} {i l : Nat} (hl : l ≤ 8) : begB w i l = fits w (mustOf l) i := by
  unfold begB fits mustOf
  by_cases h : l = 8
  · subst h; simp
  · rw [if_neg h]
    have e1 : (l == 8) = false := by simpa using h
    have e2 : (l + 1 == 0) = false := by simp
    rw [e1, e2, Bool.false_or, Bool.false_or, Bool.eq_iff_iff]
    simp
theorem compl_bit {w : Words} {g i : Nat} (hg : g < 2 ^ w.length) (hi : i < w.length) : isIn (compl w g) i = !g.testBit i := by
  rw [isIn_bit]
  unfold compl full
  rw [full_bit hg, decide_eq_true hi, Bool.true_and]
theorem leftL_eq {w : Words} {g : Nat} (hg : g < 2 ^ w.length) : leftL w g = (List.range w.length).filter (isIn (compl w g)) := by
  unfold leftL
  refine List.filter_congr fun i hi => ?_
  rw [compl_bit hg (List.mem_range.mp hi)]
theorem nextL_may {w : Words} {g l : Nat} (hg : g < 2 ^ w.length) (hl : l ≤ 8) : nextL w g l = may w (compl w g) (mustOf l) := by
  unfold nextL Uw94.may
  rw [leftL_eq hg, List.filter_filter]
  refine List.filter_congr fun i hi => ?_
  rw [begB_fits hl, Bool.and_comm]
theorem mem_left {w : Words} {g i : Nat} : i ∈ leftL w g ↔ i < w.length ∧ g.testBit i = false := by
  unfold leftL
  rw [List.mem_filter, List.mem_range]
  simp
theorem mem_next {w : Words} {g l i : Nat} : i ∈ nextL w g l ↔ i < w.length ∧ g.testBit i = false ∧ begB w i l = true := by
  unfold nextL
  rw [List.mem_filter, mem_left, and_assoc]
theorem left_length {w : Words} {g : Nat} : (leftL w g).length ≤ w.length := by
  unfold leftL
  refine Nat.le_trans (List.length_filter_le _ _) ?_
  rw [List.length_range]; exact Nat.le_refl _
theorem next_length {w : Words} {g l : Nat} : (nextL w g l).length ≤ w.length := Nat.le_trans (List.length_filter_le _ _) left_length
theorem compl_with {w : Words} {g i : Nat} (hg : g < 2 ^ w.length) (hi : i < w.length) (hb : g.testBit i = false) : compl w (g ||| 2 ^ i) = compl w g - 2 ^ i := by
  have h1 := or_lt hg hi
  rw [or_pow hb] at h1 ⊢
  unfold compl full
  omega
theorem compl_lt {w : Words} {g : Nat} : compl w g < 2 ^ w.length := by
  unfold compl full
  have := pow_pos w.length
  omega
theorem compl_zero_iff {w : Words} {g : Nat} (hg : g < 2 ^ w.length) : compl w g = 0 ↔ g = allG w := by
  unfold compl full allG
  omega

/-! ### the numbers of the five tables, as the program asks them -/
def fk (w : Words) (k : Nat) : Nat → Must → (Nat → Nat) → Nat :=
  if k = 0 then winF w else if k = 1 then longF w else if k = 2 then allF w else if k = 3 then chainF w else partF w
theorem asks_fk (w : Words) (k : Nat) : Asks w (fk w k) := by
  unfold fk
  split
  · exact asks_win w
  split
  · exact asks_long w
  split
  · exact asks_all w
  split
  · exact asks_chain w
  · exact asks_part w
def val (w : Words) (k g l : Nat) : Nat := at_ (table w (fk w k)) (compl w g) (mustOf l)
/-- behind a word that is said -/
def bh (w : Words) (v : Nat → Nat → Nat) (g i : Nat) : Nat := v (g ||| 2 ^ i) (last w i)
theorem bh_val {w : Words} (hw : Small w) {k g i : Nat} (hg : g < 2 ^ w.length) (hi : i < w.length) (hb : g.testBit i = false) :
    at_ (table w (fk w k)) (compl w g - 2 ^ i) (behind w i) = bh w (val w k) g i := by
  unfold bh val
  rw [compl_with hg hi hb, mustOf_last hw]
theorem val_eq {w : Words} (hw : Small w) {k g l : Nat} (hg : g < 2 ^ w.length) (hl : l ≤ 8) :
    val w k g l = fk w k (compl w g) (mustOf l) (bh w (val w k) g) := by
  unfold val
  rw [table_at hw (asks_fk w k) compl_lt (mustOf_lt hl)]
  refine asks_fk w k _ _ _ _ fun i hi hin => ?_
  rw [compl_bit hg hi] at hin
  exact bh_val hw hg hi (by simpa using hin)

/-! ### the worths by the program's own words -/
def winM (w : Words) (v : Nat → Nat → Nat) (g l : Nat) : Nat := if (nextL w g l).any (fun i => bh w v g i == 0) = true then 1 else 0
def longM (w : Words) (v : Nat → Nat → Nat) (g l : Nat) : Nat := (nextL w g l).foldl (fun b i => max b (1 + bh w v g i)) 0
def totalM (w : Words) (v : Nat → Nat → Nat) (g l : Nat) : Nat := ((nextL w g l).map (bh w v g)).sum
def waysM (w : Words) (v : Nat → Nat → Nat) (g l : Nat) : Nat := if g = allG w then 1 else totalM w v g l
def chainsM (w : Words) (v : Nat → Nat → Nat) (g l : Nat) : Nat := 1 + totalM w v g l
def newC (w : Words) (l i : Nat) : Nat := if (l != 8 && begB w i l) = true then 0 else 1
def fewL (w : Words) (v : Nat → Nat → Nat) (g l : Nat) : List Nat := (leftL w g).map fun i => newC w l i + bh w v g i
def fewM (w : Words) (v : Nat → Nat → Nat) (g l : Nat) : Nat := if g = allG w then 0 else (fewL w v g l).foldl min 100
def worthM (w : Words) (k : Nat) (v : Nat → Nat → Nat) (g l : Nat) : Nat :=
  if k = 0 then winM w v g l else if k = 1 then longM w v g l else if k = 2 then waysM w v g l else if k = 3 then chainsM w v g l else fewM w v g l
theorem foldl_add : ∀ (l : List Nat) (a : Nat), l.foldl (fun a b => a + b) a = a + l.sum
  | [], a => by simp
  | x :: r, a => by
    rw [List.foldl_cons, foldl_add r, List.sum_cons]
    omega
theorem foldl_max_map (f : Nat → Nat) : ∀ (l : List Nat) (a : Nat), (l.map fun i => f i + 1).foldl max a = l.foldl (fun b i => max b (1 + f i)) a
  | [], a => rfl
  | x :: r, a => by
    rw [List.map_cons, List.foldl_cons, List.foldl_cons, foldl_max_map f r, Nat.add_comm (f x) 1]
theorem newC_fits {w : Words} {l i : Nat} (hl : l ≤ 8) : (if (mustOf l != 0 && fits w (mustOf l) i) = true then 0 else 1) = newC w l i := by
  unfold newC
  rw [← begB_fits hl]
  have e : (mustOf l != 0) = (l != 8) := by
    unfold mustOf
    by_cases h : l = 8
    · subst h; rfl
    · rw [if_neg h]
      have e1 : (l != 8) = true := by simpa using h
      rw [e1]; simp
  rw [e]
/-- every number of a table is the worth by the numbers behind -/
theorem val_worth {w : Words} (hw : Small w) {k g l : Nat} (hg : g < 2 ^ w.length) (hl : l ≤ 8) : val w k g l = worthM w k (val w k) g l := by
  rw [val_eq hw hg hl]
  unfold fk worthM
  split
  · unfold winF winM
    rw [nextL_may hg hl]
  split
  · unfold longF longM
    rw [nextL_may hg hl, foldl_max_map]
  split
  · unfold allF waysM totalM
    rw [foldl_add, Nat.zero_add, nextL_may hg hl]
    by_cases h : compl w g = 0
    · rw [if_pos h, if_pos ((compl_zero_iff hg).mp h)]
    · rw [if_neg h, if_neg (fun e => h ((compl_zero_iff hg).mpr e))]
  split
  · unfold chainF chainsM totalM
    rw [foldl_add, nextL_may hg hl]
  · unfold partF fewM fewL
    rw [leftL_eq hg]
    by_cases h : compl w g = 0
    · rw [if_pos h, if_pos ((compl_zero_iff hg).mp h)]
    · rw [if_neg h, if_neg (fun e => h ((compl_zero_iff hg).mpr e))]
      refine congrArg (List.foldl min 100) (List.map_congr_left fun i hi => ?_)
      rw [newC_fits hl, Nat.add_comm]
end WM

/-! M2: the plain law, part 2: least numbers, first chains, what is said, a word taken away. -/
namespace WM
open Uw94

/-! ### one word less is left -/
theorem left_nodup {w : Words} {g : Nat} : (leftL w g).Nodup := List.nodup_range.sublist List.filter_sublist
theorem left_with {w : Words} {g i : Nat} (h : i ∈ leftL w g) : (leftL w (g ||| 2 ^ i)).length + 1 = (leftL w g).length := by
  have e : leftL w (g ||| 2 ^ i) = (leftL w g).erase i := by
    rw [left_nodup.erase_eq_filter]
    unfold leftL
    rw [List.filter_filter]
    refine List.filter_congr fun j hj => ?_
    rw [bit_or]
    by_cases c : i = j
    · subst c; simp
    · have c' : ¬ j = i := fun z => c z.symm
      simp [c, c']
  rw [e, List.length_erase_of_mem h]
  have : 0 < (leftL w g).length := List.length_pos_of_mem h
  omega
theorem left_zero_iff {w : Words} {g : Nat} (hg : g < 2 ^ w.length) : leftL w g = [] ↔ g = allG w := by
  constructor
  · intro h
    rw [← compl_zero_iff hg]
    refine Nat.eq_of_testBit_eq fun i => ?_
    rw [Nat.zero_testBit]
    by_cases hi : i < w.length
    · rw [← isIn_bit, compl_bit hg hi]
      cases e : g.testBit i with
      | true => rfl
      | false =>
        have : i ∈ leftL w g := mem_left.mpr ⟨hi, e⟩
        rw [h] at this
        exact absurd this (by simp)
    · exact bit_high compl_lt (by omega)
  · intro h
    have h0 := (compl_zero_iff hg).mpr h
    rw [leftL_eq hg, h0]
    refine List.filter_eq_nil_iff.mpr fun i _ => ?_
    rw [isIn_bit, Nat.zero_testBit]
    exact Bool.false_ne_true
theorem next_left {w : Words} {g l i : Nat} (h : i ∈ nextL w g l) : i ∈ leftL w g := (List.mem_filter.mp h).1

/-! ### the least number of chains -/
theorem foldl_min_le : ∀ (l : List Nat) (a : Nat), l.foldl min a ≤ a ∧ ∀ y ∈ l, l.foldl min a ≤ y
  | [], a => ⟨Nat.le_refl _, fun y h => absurd h (by simp)⟩
  | x :: r, a => by
    obtain ⟨h1, h2⟩ := foldl_min_le r (min a x)
    rw [List.foldl_cons]
    refine ⟨by omega, fun y hy => ?_⟩
    rcases List.mem_cons.mp hy with e | e
    · subst e; omega
    · exact h2 y e
theorem foldl_min_mem : ∀ (l : List Nat) (a : Nat), l.foldl min a = a ∨ l.foldl min a ∈ l
  | [], a => .inl rfl
  | x :: r, a => by
    rw [List.foldl_cons]
    rcases foldl_min_mem r (min a x) with h | h
    · by_cases c : a ≤ x
      · left; rw [h]; omega
      · right; rw [h, Nat.min_eq_right (by omega)]; exact List.mem_cons_self
    · right; exact List.mem_cons_of_mem _ h
theorem few_le {w : Words} (hw : Small w) : ∀ (n : Nat) (g l : Nat), g < 2 ^ w.length → l ≤ 8 → (leftL w g).length ≤ n → val w 4 g l ≤ n
  | 0, g, l, hg, hl, h => by
    have h0 : leftL w g = [] := List.length_eq_zero_iff.mp (by omega)
    rw [val_worth hw hg hl]
    show fewM w (val w 4) g l ≤ 0
    unfold fewM
    rw [if_pos ((left_zero_iff hg).mp h0)]
    exact Nat.le_refl _
  | n + 1, g, l, hg, hl, h => by
    rw [val_worth hw hg hl]
    show fewM w (val w 4) g l ≤ n + 1
    unfold fewM
    by_cases c : g = allG w
    · rw [if_pos c]; exact Nat.zero_le _
    · rw [if_neg c]
      cases e : leftL w g with
      | nil => exact absurd ((left_zero_iff hg).mp e) c
      | cons i r =>
        have hi : i ∈ leftL w g := by rw [e]; exact List.mem_cons_self
        obtain ⟨h1, h2⟩ := mem_left.mp hi
        have q := left_with hi
        have b := few_le hw n (g ||| 2 ^ i) (last w i) (or_lt hg h1) (by have := hw.last i; omega) (by omega)
        have hm : newC w l i + bh w (val w 4) g i ∈ fewL w (val w 4) g l := by
          unfold fewL
          rw [e]
          exact List.mem_cons_self
        refine Nat.le_trans ((foldl_min_le _ _).2 _ hm) ?_
        have hn : newC w l i ≤ 1 := by unfold newC; split <;> omega
        have hb : bh w (val w 4) g i ≤ n := b
        omega
/-- Python's min of the program's list is the specification's -/
theorem few_min {w : Words} (hw : Small w) (h9 : w.length ≤ 9) {g l m : Nat} (hg : g < 2 ^ w.length) (hl : l ≤ 8) (hm : m ∈ fewL w (val w 4) g l) (hle : ∀ y ∈ fewL w (val w 4) g l, m ≤ y) (hne : g ≠ allG w) : m = val w 4 g l := by
  have hv : val w 4 g l = (fewL w (val w 4) g l).foldl min 100 := by
    rw [val_worth hw hg hl]
    show fewM w (val w 4) g l = _
    unfold fewM
    rw [if_neg hne]
  have hlen := Nat.le_trans (left_length (w := w) (g := g)) h9
  have h1 := few_le hw 9 g l hg hl hlen
  rw [hv] at h1 ⊢
  rcases foldl_min_mem (fewL w (val w 4) g l) 100 with e | e
  · omega
  · have h2 := hle _ e
    have h3 := (foldl_min_le (fewL w (val w 4) g l) 100).2 _ hm
    omega
theorem few_pos {w : Words} {v : Nat → Nat → Nat} {g l : Nat} (hg : g < 2 ^ w.length) (hne : g ≠ allG w) : 0 < (fewL w v g l).length := by
  unfold fewL
  rw [List.length_map]
  cases e : leftL w g with
  | nil => exact absurd ((left_zero_iff hg).mp e) hne
  | cons i r => exact Nat.succ_pos _

/-! ### the first longest chain -/
theorem foldl_max_mem (f : Nat → Nat) : ∀ (l : List Nat) (a : Nat), l.foldl (fun b i => max b (1 + f i)) a = a ∨ ∃ i ∈ l, l.foldl (fun b i => max b (1 + f i)) a = 1 + f i
  | [], a => .inl rfl
  | x :: r, a => by
    rw [List.foldl_cons]
    rcases foldl_max_mem f r (max a (1 + f x)) with h | ⟨i, hi, h⟩
    · by_cases c : 1 + f x ≤ a
      · left; rw [h]; omega
      · right; exact ⟨x, List.mem_cons_self, by rw [h]; omega⟩
    · right; exact ⟨i, List.mem_cons_of_mem _ hi, h⟩
theorem foldl_max_le (f : Nat → Nat) : ∀ (l : List Nat) (a n : Nat), a ≤ n → (∀ i ∈ l, 1 + f i ≤ n) → l.foldl (fun b i => max b (1 + f i)) a ≤ n
  | [], a, n, h, _ => h
  | x :: r, a, n, h, hl => by
    rw [List.foldl_cons]
    exact foldl_max_le f r _ n (by have := hl x List.mem_cons_self; omega) fun i hi => hl i (List.mem_cons_of_mem _ hi)
/-- where a longest chain has a word, there is one behind which it is one less -/
theorem long_step {w : Words} (hw : Small w) {g l n : Nat} (hg : g < 2 ^ w.length) (hl : l ≤ 8) (h : val w 1 g l = n + 1) : ∃ i ∈ nextL w g l, bh w (val w 1) g i = n := by
  rw [val_worth hw hg hl] at h
  have h : longM w (val w 1) g l = n + 1 := h
  unfold longM at h
  rcases foldl_max_mem (bh w (val w 1) g) (nextL w g l) 0 with e | ⟨i, hi, e⟩
  · omega
  · exact ⟨i, hi, by omega⟩
theorem long_le {w : Words} (hw : Small w) : ∀ (n : Nat) (g l : Nat), g < 2 ^ w.length → l ≤ 8 → (leftL w g).length ≤ n → val w 1 g l ≤ n
  | 0, g, l, hg, hl, h => by
    have h0 : leftL w g = [] := List.length_eq_zero_iff.mp (by omega)
    rw [val_worth hw hg hl]
    show longM w (val w 1) g l ≤ 0
    unfold longM nextL
    rw [h0]
    exact Nat.le_refl _
  | n + 1, g, l, hg, hl, h => by
    rw [val_worth hw hg hl]
    show longM w (val w 1) g l ≤ n + 1
    unfold longM
    refine foldl_max_le _ _ _ _ (Nat.zero_le _) fun i hi => ?_
    have h0 := next_left hi
    obtain ⟨h1, h2⟩ := mem_left.mp h0
    have q := left_with h0
    have b : bh w (val w 1) g i ≤ n := long_le hw n (g ||| 2 ^ i) (last w i) (or_lt hg h1) (by have := hw.last i; omega) (by omega)
    omega
/-- the program's chain -/
def chainM (w : Words) (v : Nat → Nat → Nat) : Nat → Nat → Nat → List Nat
  | 0, _, _ => []
  | n + 1, g, l => match (nextL w g l).find? fun i => bh w v g i == n with
    | none => []
    | some i => i :: chainM w v n (g ||| 2 ^ i) (last w i)
theorem chainM_succ {w : Words} {v : Nat → Nat → Nat} {n g l i : Nat} (h : (nextL w g l).find? (fun i => bh w v g i == n) = some i) : chainM w v (n + 1) g l = i :: chainM w v n (g ||| 2 ^ i) (last w i) := by
  show (match (nextL w g l).find? fun i => bh w v g i == n with
    | none => []
    | some i => i :: chainM w v n (g ||| 2 ^ i) (last w i)) = _
  rw [h]
theorem find_congr {p q : Nat → Bool} : ∀ {l : List Nat}, (∀ i ∈ l, p i = q i) → l.find? p = l.find? q
  | [], _ => rfl
  | x :: r, h => by
    rw [List.find?_cons, List.find?_cons, h x List.mem_cons_self, find_congr fun i hi => h i (List.mem_cons_of_mem _ hi)]
theorem chainM_by {w : Words} (hw : Small w) : ∀ (n g l : Nat), g < 2 ^ w.length → l ≤ 8 → chainM w (val w 1) n g l = byTable w (table w (longF w)) n (compl w g) (mustOf l)
  | 0, _, _, _, _ => rfl
  | n + 1, g, l, hg, hl => by
    show (match (nextL w g l).find? fun i => bh w (val w 1) g i == n with
      | none => []
      | some i => i :: chainM w (val w 1) n (g ||| 2 ^ i) (last w i)) = (match (may w (compl w g) (mustOf l)).find? fun i => at_ (table w (longF w)) (compl w g - 2 ^ i) (behind w i) == n with
      | none => []
      | some i => i :: byTable w (table w (longF w)) n (compl w g - 2 ^ i) (behind w i))
    have e : (nextL w g l).find? (fun i => bh w (val w 1) g i == n) = (may w (compl w g) (mustOf l)).find? fun i => at_ (table w (longF w)) (compl w g - 2 ^ i) (behind w i) == n := by
      rw [← nextL_may hg hl]
      refine find_congr fun i hi => ?_
      obtain ⟨h1, h2, _⟩ := mem_next.mp hi
      have q := bh_val hw (k := 1) hg h1 h2
      have q : at_ (table w (longF w)) (compl w g - 2 ^ i) (behind w i) = bh w (val w 1) g i := q
      rw [q]
    rw [← e]
    cases f : (nextL w g l).find? fun i => bh w (val w 1) g i == n with
    | none => rfl
    | some i =>
      have hi := List.mem_of_find?_eq_some f
      obtain ⟨h1, h2, _⟩ := mem_next.mp hi
      show i :: chainM w (val w 1) n (g ||| 2 ^ i) (last w i) = i :: byTable w (table w (longF w)) n (compl w g - 2 ^ i) (behind w i)
      rw [chainM_by hw n _ _ (or_lt hg h1) (by have := hw.last i; omega), compl_with hg h1 h2, mustOf_last hw]
theorem find_some {p : Nat → Bool} {l : List Nat} (h : ∃ i ∈ l, p i = true) : ∃ i, l.find? p = some i ∧ i ∈ l ∧ p i = true := by
  cases f : l.find? p with
  | none =>
    obtain ⟨i, hi, q⟩ := h
    exact absurd q (List.find?_eq_none.mp f i hi)
  | some i => exact ⟨i, rfl, List.mem_of_find?_eq_some f, List.find?_some f⟩
/-- one turn of the longest chain -/
theorem long_find {w : Words} (hw : Small w) {g l n : Nat} (hg : g < 2 ^ w.length) (hl : l ≤ 8) (h : val w 1 g l = n + 1) :
    ∃ i, (nextL w g l).find? (fun i => bh w (val w 1) g i == n) = some i ∧ i < w.length ∧ g.testBit i = false ∧ val w 1 (g ||| 2 ^ i) (last w i) = n := by
  obtain ⟨j, hj, q⟩ := long_step hw hg hl h
  obtain ⟨i, hf, hi, p⟩ := find_some (p := fun i => bh w (val w 1) g i == n) ⟨j, hj, by simpa using q⟩
  obtain ⟨h1, h2, _⟩ := mem_next.mp hi
  exact ⟨i, hf, h1, h2, by simpa [bh] using p⟩
theorem chainM_length {w : Words} (hw : Small w) : ∀ (n g l : Nat), g < 2 ^ w.length → l ≤ 8 → val w 1 g l = n → (chainM w (val w 1) n g l).length = n
  | 0, _, _, _, _, _ => rfl
  | n + 1, g, l, hg, hl, h => by
    obtain ⟨i, hf, h1, h2, h3⟩ := long_find hw hg hl h
    rw [chainM_succ hf, List.length_cons, chainM_length hw n _ _ (or_lt hg h1) (by have := hw.last i; omega) h3]
theorem longest_eq {w : Words} (hw : Small w) {g l : Nat} (hg : g < 2 ^ w.length) (hl : l ≤ 8) : longest w (compl w g) (mustOf l) = chainM w (val w 1) (val w 1 g l) g l := by
  rw [chainM_by hw _ _ _ hg hl]
  rfl

/-! ### the first way to say all -/
def wayM (w : Words) (v : Nat → Nat → Nat) : Nat → Nat → Nat → List Nat
  | 0, _, _ => []
  | n + 1, g, l => match (nextL w g l).find? fun i => bh w v g i != 0 with
    | none => []
    | some i => i :: wayM w v n (g ||| 2 ^ i) (last w i)
theorem wayM_succ {w : Words} {v : Nat → Nat → Nat} {n g l i : Nat} (h : (nextL w g l).find? (fun i => bh w v g i != 0) = some i) : wayM w v (n + 1) g l = i :: wayM w v n (g ||| 2 ^ i) (last w i) := by
  show (match (nextL w g l).find? fun i => bh w v g i != 0 with
    | none => []
    | some i => i :: wayM w v n (g ||| 2 ^ i) (last w i)) = _
  rw [h]
theorem wayM_none {w : Words} {v : Nat → Nat → Nat} {n g l : Nat} (h : (nextL w g l).find? (fun i => bh w v g i != 0) = none) : wayM w v n g l = [] := by
  cases n with
  | zero => rfl
  | succ n =>
    show (match (nextL w g l).find? fun i => bh w v g i != 0 with
      | none => []
      | some i => i :: wayM w v n (g ||| 2 ^ i) (last w i)) = _
    rw [h]
theorem wayM_by {w : Words} (hw : Small w) : ∀ (n g l : Nat), g < 2 ^ w.length → l ≤ 8 → wayM w (val w 2) n g l = allBy w (table w (allF w)) n (compl w g) (mustOf l)
  | 0, _, _, _, _ => rfl
  | n + 1, g, l, hg, hl => by
    show (match (nextL w g l).find? fun i => bh w (val w 2) g i != 0 with
      | none => []
      | some i => i :: wayM w (val w 2) n (g ||| 2 ^ i) (last w i)) = (match (may w (compl w g) (mustOf l)).find? fun i => at_ (table w (allF w)) (compl w g - 2 ^ i) (behind w i) != 0 with
      | none => []
      | some i => i :: allBy w (table w (allF w)) n (compl w g - 2 ^ i) (behind w i))
    have e : (nextL w g l).find? (fun i => bh w (val w 2) g i != 0) = (may w (compl w g) (mustOf l)).find? fun i => at_ (table w (allF w)) (compl w g - 2 ^ i) (behind w i) != 0 := by
      rw [← nextL_may hg hl]
      refine find_congr fun i hi => ?_
      obtain ⟨h1, h2, _⟩ := mem_next.mp hi
      have q := bh_val hw (k := 2) hg h1 h2
      have q : at_ (table w (allF w)) (compl w g - 2 ^ i) (behind w i) = bh w (val w 2) g i := q
      rw [q]
    rw [← e]
    cases f : (nextL w g l).find? fun i => bh w (val w 2) g i != 0 with
    | none => rfl
    | some i =>
      have hi := List.mem_of_find?_eq_some f
      obtain ⟨h1, h2, _⟩ := mem_next.mp hi
      show i :: wayM w (val w 2) n (g ||| 2 ^ i) (last w i) = i :: allBy w (table w (allF w)) n (compl w g - 2 ^ i) (behind w i)
      rw [wayM_by hw n _ _ (or_lt hg h1) (by have := hw.last i; omega), compl_with hg h1 h2, mustOf_last hw]
theorem wayM_fuel {w : Words} {v : Nat → Nat → Nat} : ∀ (N c g l : Nat), (leftL w g).length = c → c ≤ N → wayM w v N g l = wayM w v c g l
  | N, 0, g, l, h, _ => by
    have h0 : leftL w g = [] := List.length_eq_zero_iff.mp h
    refine wayM_none ?_
    unfold nextL
    rw [h0]
    rfl
  | 0, c + 1, g, l, h, hc => by omega
  | N + 1, c + 1, g, l, h, hc => by
    cases f : (nextL w g l).find? fun i => bh w v g i != 0 with
    | none => rw [wayM_none f, wayM_none f]
    | some i =>
      have hi := List.mem_of_find?_eq_some f
      have q := left_with (next_left hi)
      rw [wayM_succ f, wayM_succ f, wayM_fuel N c _ _ (by omega) (by omega)]
theorem sum_ne {f : Nat → Nat} : ∀ {l : List Nat}, (l.map f).sum ≠ 0 → ∃ i ∈ l, f i ≠ 0
  | [], h => absurd rfl h
  | x :: r, h => by
    by_cases c : f x = 0
    · rw [List.map_cons, List.sum_cons, c, Nat.zero_add] at h
      obtain ⟨i, hi, q⟩ := sum_ne h
      exact ⟨i, List.mem_cons_of_mem _ hi, q⟩
    · exact ⟨x, List.mem_cons_self, c⟩
/-- one turn of the first way -/
theorem way_find {w : Words} (hw : Small w) {g l : Nat} (hg : g < 2 ^ w.length) (hl : l ≤ 8) (h : val w 2 g l ≠ 0) (hne : 0 < (leftL w g).length) :
    ∃ i, (nextL w g l).find? (fun i => bh w (val w 2) g i != 0) = some i ∧ i < w.length ∧ g.testBit i = false ∧ val w 2 (g ||| 2 ^ i) (last w i) ≠ 0 := by
  rw [val_worth hw hg hl] at h
  have h : waysM w (val w 2) g l ≠ 0 := h
  unfold waysM at h
  rw [if_neg (fun e => by rw [(left_zero_iff hg).mpr e] at hne; exact absurd hne (by simp))] at h
  obtain ⟨j, hj, q⟩ := sum_ne h
  obtain ⟨i, hf, hi, p⟩ := find_some (p := fun i => bh w (val w 2) g i != 0) ⟨j, hj, by simpa using q⟩
  obtain ⟨h1, h2, _⟩ := mem_next.mp hi
  exact ⟨i, hf, h1, h2, by simpa [bh] using p⟩
theorem allBy_eq {w : Words} (hw : Small w) {g l : Nat} (hg : g < 2 ^ w.length) (hl : l ≤ 8) :
    allBy w (table w (allF w)) w.length (compl w g) (mustOf l) = wayM w (val w 2) (leftL w g).length g l := by
  rw [← wayM_by hw _ _ _ hg hl]
  exact wayM_fuel _ _ _ _ rfl left_length

/-! ### who wins -/
def winL (w : Words) (g l : Nat) : List Nat := (nextL w g l).filter fun i => bh w (val w 0) g i == 0
theorem winners_eq {w : Words} (hw : Small w) {g l : Nat} (hg : g < 2 ^ w.length) (hl : l ≤ 8) : winners w (compl w g) (mustOf l) = winL w g l := by
  unfold winners winL
  show (may w (compl w g) (mustOf l)).filter (fun i => at_ (table w (winF w)) (compl w g - 2 ^ i) (behind w i) == 0) = _
  rw [nextL_may hg hl]
  refine List.filter_congr fun i hi => ?_
  rw [← nextL_may hg hl] at hi
  obtain ⟨h1, h2, _⟩ := mem_next.mp hi
  have q := bh_val hw (k := 0) hg h1 h2
  have q : at_ (table w (winF w)) (compl w g - 2 ^ i) (behind w i) = bh w (val w 0) g i := q
  rw [q]
theorem win_val {w : Words} (hw : Small w) {g l : Nat} (hg : g < 2 ^ w.length) (hl : l ≤ 8) : val w 0 g l = flag (!(winL w g l).isEmpty) := by
  rw [val_worth hw hg hl]
  show winM w (val w 0) g l = _
  unfold winM flag winL
  have e : (nextL w g l).any (fun i => bh w (val w 0) g i == 0) = !((nextL w g l).filter fun i => bh w (val w 0) g i == 0).isEmpty := by
    rw [Bool.eq_iff_iff, List.any_eq_true]
    constructor
    · rintro ⟨i, hi, q⟩
      have : i ∈ (nextL w g l).filter fun i => bh w (val w 0) g i == 0 := List.mem_filter.mpr ⟨hi, q⟩
      cases f : (nextL w g l).filter fun i => bh w (val w 0) g i == 0 with
      | nil => rw [f] at this; exact absurd this (by simp)
      | cons a b => rfl
    · intro h
      cases f : (nextL w g l).filter fun i => bh w (val w 0) g i == 0 with
      | nil => rw [f] at h; exact absurd h (by simp)
      | cons a b =>
        have : a ∈ (nextL w g l).filter fun i => bh w (val w 0) g i == 0 := by rw [f]; exact List.mem_cons_self
        obtain ⟨h1, h2⟩ := List.mem_filter.mp this
        exact ⟨a, h1, h2⟩
  rw [e]

/-! ### what has been said -/
def goneL (said : List Nat) : Nat := said.foldl (fun g i => g ||| 2 ^ i) 0
theorem gone_from {w : Words} : ∀ (said : List Nat) (g : Nat), g < 2 ^ w.length → said.Nodup → (∀ i ∈ said, i < w.length ∧ g.testBit i = false) →
    said.foldl (fun m i => m - 2 ^ i) (compl w g) = compl w (said.foldl (fun g i => g ||| 2 ^ i) g) ∧ said.foldl (fun g i => g ||| 2 ^ i) g < 2 ^ w.length
  | [], g, hg, _, _ => ⟨rfl, hg⟩
  | x :: r, g, hg, nd, h => by
    rw [List.foldl_cons, List.foldl_cons]
    obtain ⟨h1, h2⟩ := h x List.mem_cons_self
    obtain ⟨n1, n2⟩ := List.nodup_cons.mp nd
    rw [← compl_with hg h1 h2]
    refine gone_from r _ (or_lt hg h1) n2 fun i hi => ?_
    obtain ⟨a, b⟩ := h i (List.mem_cons_of_mem _ hi)
    refine ⟨a, ?_⟩
    rw [bit_or, b, Bool.false_or]
    exact decide_eq_false fun e => n1 (e ▸ hi)
theorem gone_bit : ∀ (said : List Nat) (g j : Nat), (said.foldl (fun g i => g ||| 2 ^ i) g).testBit j = (g.testBit j || decide (j ∈ said))
  | [], g, j => by simp
  | x :: r, g, j => by
    rw [List.foldl_cons, gone_bit r, bit_or, Bool.or_assoc]
    congr 1
    by_cases c : x = j
    · subst c; simp
    · have c' : ¬ j = x := fun z => c z.symm
      simp [c, c']
structure Ok (s : St) : Prop where
  many : s.words.length ≤ 9
  small : Small s.words
  nd : s.said.Nodup
  lt : ∀ i ∈ s.said, i < s.words.length
def goneS (s : St) : Nat := goneL s.said
def letterS (s : St) : Nat := match s.said.getLast? with
  | none => 8
  | some i => last s.words i
theorem Ok.gone_lt {s : St} (h : Ok s) : goneS s < 2 ^ s.words.length :=
  (gone_from (w := s.words) s.said 0 (pow_pos _) h.nd fun i hi => ⟨h.lt i hi, Nat.zero_testBit i⟩).2
theorem full_compl (w : Words) : full w = compl w 0 := rfl
theorem Ok.left {s : St} (h : Ok s) : leftOf s = compl s.words (goneS s) :=
  (gone_from (w := s.words) s.said 0 (pow_pos _) h.nd fun i hi => ⟨h.lt i hi, Nat.zero_testBit i⟩).1
theorem Ok.letter_le {s : St} (h : Ok s) : letterS s ≤ 8 := by
  unfold letterS
  split
  · exact Nat.le_refl _
  · rename_i i _
    have := h.small.last i
    omega
theorem Ok.must {s : St} (h : Ok s) : must s = mustOf (letterS s) := by
  unfold Uw94.must letterS
  cases s.said.getLast? with
  | none => rfl
  | some i => exact (mustOf_last h.small i).symm
theorem Ok.letter_lt {s : St} (h : Ok s) (hne : s.said ≠ []) : letterS s ≤ 7 := by
  unfold letterS
  cases e : s.said.getLast? with
  | none => exact absurd (List.getLast?_eq_none_iff.mp e) hne
  | some i => exact h.small.last i

/-! ### each call keeps the state in order -/
theorem ok_init : Ok init := ⟨Nat.zero_le _, fun p h => absurd h (by simp [init]), List.nodup_nil, fun i h => absurd h (by simp [init])⟩
theorem Ok.word {s : St} (h : Ok s) {a b : Nat} (ha : a ≤ 7) (hb : b ≤ 7) (hn : s.words.length < 9) : Ok ⟨s.words ++ [(a, b)], []⟩ where
  many := by
    show (s.words ++ [(a, b)]).length ≤ 9
    rw [List.length_append]
    show s.words.length + 1 ≤ 9
    omega
  small := fun p hp => by
    rcases List.mem_append.mp hp with q | q
    · exact h.small p q
    · have e : p = (a, b) := by simpa using q
      rw [e]
      exact ⟨ha, hb⟩
  nd := List.nodup_nil
  lt := fun i hi => absurd hi (by simp)
theorem Ok.say {s : St} (h : Ok s) {i : Nat} (hi : i < s.words.length) (hn : i ∉ s.said) : Ok { s with said := s.said ++ [i] } where
  many := h.many
  small := h.small
  nd := by
    show (s.said ++ [i]).Nodup
    rw [List.nodup_append]
    refine ⟨h.nd, by simp, fun a ha b hb => ?_⟩
    have e : b = i := by simpa using hb
    rw [e]
    exact fun z => hn (z ▸ ha)
  lt := fun j hj => by
    have hj : j ∈ s.said ++ [i] := hj
    rcases List.mem_append.mp hj with q | q
    · exact h.lt j q
    · have e : j = i := by simpa using q
      rw [e]; exact hi
theorem Ok.back {s : St} (h : Ok s) : Ok { s with said := s.said.dropLast } where
  many := h.many
  small := h.small
  nd := h.nd.sublist (List.dropLast_sublist _)
  lt := fun j hj => h.lt j ((List.dropLast_sublist _).subset hj)

/-! ### a word taken away -/
section
variable (i : Nat)
def sk (j : Nat) : Nat := if j < i then j else j + 1
theorem sk_ne {j : Nat} : sk i j ≠ i := by unfold sk; split <;> omega
theorem sk_inj {j k : Nat} (h : sk i j = sk i k) : j = k := by unfold sk at h; split at h <;> split at h <;> omega
theorem range_sk : ∀ n : Nat, i ≤ n → (List.range (n + 1)).filter (fun j => decide (j ≠ i)) = (List.range n).map (sk i)
  | 0, h => by
    have : i = 0 := by omega
    subst this
    rfl
  | n + 1, h => by
    rw [List.range_succ, List.filter_append]
    by_cases c : i ≤ n
    · rw [range_sk n c, List.range_succ (n := n), List.map_append]
      congr 1
      have e1 : n + 1 ≠ i := by omega
      have e2 : ¬ n < i := by omega
      simp [e1, sk, e2]
    · have e : i = n + 1 := by omega
      subst e
      have e1 : (List.range (n + 1)).filter (fun j => decide (j ≠ n + 1)) = List.range (n + 1) := by
        refine List.filter_eq_self.mpr fun j hj => ?_
        have := List.mem_range.mp hj
        exact decide_eq_true (by omega)
      have e2 : (List.range (n + 1)).map (sk (n + 1)) = List.range (n + 1) := by
        refine (List.map_congr_left (g := id) fun j hj => ?_).trans (List.map_id _)
        have := List.mem_range.mp hj
        unfold sk
        rw [if_pos this]
        rfl
      rw [e1, e2]
      simp
end
theorem erase_get {w : Words} {i j : Nat} : (without w i)[j]? = w[sk i j]? := by
  unfold without sk
  rw [List.getElem?_eraseIdx]
  split <;> rfl
theorem erase_first {w : Words} {i j : Nat} : first (without w i) j = first w (sk i j) := by
  unfold Uw94.first
  rw [List.getD_eq_getElem?_getD, List.getD_eq_getElem?_getD, erase_get]
theorem erase_last {w : Words} {i j : Nat} : last (without w i) j = last w (sk i j) := by
  unfold Uw94.last
  rw [List.getD_eq_getElem?_getD, List.getD_eq_getElem?_getD, erase_get]
theorem erase_small {w : Words} (hw : Small w) (i : Nat) : Small (without w i) := fun p hp => hw p ((List.eraseIdx_sublist _ _).subset hp)
theorem erase_length {w : Words} {i : Nat} (hi : i < w.length) : (without w i).length + 1 = w.length := by
  unfold without
  rw [List.length_eraseIdx_of_lt hi]
  omega
/-- the words that are gone, with and without the word -/
structure Rel (w : Words) (i g' g : Nat) : Prop where
  lt' : g' < 2 ^ (without w i).length
  lt : g < 2 ^ w.length
  one : g.testBit i = true
  bit : ∀ j, j < (without w i).length → g.testBit (sk i j) = g'.testBit j
theorem sk_lt {w : Words} {i j : Nat} (hi : i < w.length) (hj : j < (without w i).length) : sk i j < w.length := by
  have := erase_length hi
  unfold sk; split <;> omega
theorem Rel.with {w : Words} {i g' g j : Nat} (hi : i < w.length) (r : Rel w i g' g) (hj : j < (without w i).length) : Rel w i (g' ||| 2 ^ j) (g ||| 2 ^ sk i j) where
  lt' := or_lt r.lt' hj
  lt := or_lt r.lt (sk_lt hi hj)
  one := by rw [bit_or, r.one, Bool.true_or]
  bit := fun k hk => by
    rw [bit_or, bit_or, r.bit k hk]
    congr 1
    by_cases c : j = k
    · subst c; simp
    · rw [decide_eq_false c, decide_eq_false fun e => c (sk_inj i e)]
theorem Rel.next {w : Words} {i g' g l : Nat} (hi : i < w.length) (r : Rel w i g' g) : nextL w g l = (nextL (without w i) g' l).map (sk i) := by
  obtain ⟨n, hn⟩ : ∃ n, w.length = n + 1 := ⟨w.length - 1, by omega⟩
  have hn' : (without w i).length = n := by have := erase_length hi; omega
  unfold nextL leftL
  rw [List.filter_filter, List.filter_filter, hn, hn']
  have e1 : (List.range (n + 1)).filter (fun a => begB w a l && !g.testBit a) = ((List.range (n + 1)).filter fun a => decide (a ≠ i)).filter fun a => begB w a l && !g.testBit a := by
    rw [List.filter_filter]
    refine List.filter_congr fun a ha => ?_
    by_cases c : a = i
    · subst c
      rw [r.one]; simp
    · rw [decide_eq_true c, Bool.and_true]
  rw [e1, range_sk i n (by omega), List.filter_map]
  congr 1
  refine List.filter_congr fun j hj => ?_
  show (begB w (sk i j) l && !g.testBit (sk i j)) = _
  rw [r.bit j (by rw [hn']; exact List.mem_range.mp hj)]
  unfold begB
  rw [erase_first]
theorem Rel.val {w : Words} (hw : Small w) {i : Nat} (hi : i < w.length) {k : Nat} (hk : k = 0 ∨ k = 1) : ∀ (n g' g l : Nat), l ≤ 8 → (leftL (without w i) g').length ≤ n → Rel w i g' g → val w k g l = val (without w i) k g' l := by
  intro n
  induction n with
  | zero =>
    intro g' g l hl h r
    have h0 : leftL (without w i) g' = [] := List.length_eq_zero_iff.mp (by omega)
    have hn' : nextL (without w i) g' l = [] := by unfold nextL; rw [h0]; rfl
    have hn : nextL w g l = [] := by rw [r.next hi, hn']; rfl
    rw [val_worth hw r.lt hl, val_worth (erase_small hw i) r.lt' hl]
    rcases hk with rfl | rfl
    · show winM _ _ _ _ = winM _ _ _ _
      unfold winM
      rw [hn, hn']; rfl
    · show longM _ _ _ _ = longM _ _ _ _
      unfold longM
      rw [hn, hn']; rfl
  | succ n ih =>
    intro g' g l hl h r
    have hb : ∀ j ∈ nextL (without w i) g' l, bh w (WM.val w k) g (sk i j) = bh (without w i) (WM.val (without w i) k) g' j := fun j hj => by
      have h0 := next_left hj
      obtain ⟨h1, _⟩ := mem_left.mp h0
      have q := left_with h0
      unfold bh
      rw [erase_last]
      exact ih _ _ _ (by have := hw.last (sk i j); omega) (by omega) (r.with hi h1)
    rw [val_worth hw r.lt hl, val_worth (erase_small hw i) r.lt' hl]
    rcases hk with rfl | rfl
    · show winM _ _ _ _ = winM _ _ _ _
      unfold winM
      rw [r.next hi, List.any_map]
      have e : (nextL (without w i) g' l).any ((fun a => bh w (WM.val w 0) g a == 0) ∘ sk i) = (nextL (without w i) g' l).any fun a => bh (without w i) (WM.val (without w i) 0) g' a == 0 := by
        rw [Bool.eq_iff_iff, List.any_eq_true, List.any_eq_true]
        constructor
        · rintro ⟨j, hj, q⟩
          exact ⟨j, hj, by rw [← hb j hj]; exact q⟩
        · rintro ⟨j, hj, q⟩
          exact ⟨j, hj, by show (bh w (WM.val w 0) g (sk i j) == 0) = true; rw [hb j hj]; exact q⟩
      rw [e]
    · show longM _ _ _ _ = longM _ _ _ _
      unfold longM
      rw [r.next hi, List.foldl_map]
      have key : ∀ (L : List Nat) (a : Nat), (∀ j ∈ L, bh w (WM.val w 1) g (sk i j) = bh (without w i) (WM.val (without w i) 1) g' j) →
          L.foldl (fun x y => max x (1 + bh w (WM.val w 1) g (sk i y))) a = L.foldl (fun b j => max b (1 + bh (without w i) (WM.val (without w i) 1) g' j)) a := by
        intro L
        induction L with
        | nil => intro a _; rfl
        | cons x r ih2 =>
          intro a hh
          rw [List.foldl_cons, List.foldl_cons, hh x List.mem_cons_self]
          exact ih2 _ fun j hj => hh j (List.mem_cons_of_mem _ hj)
      exact key _ _ hb
theorem rel_start {w : Words} {i : Nat} (hi : i < w.length) : Rel w i 0 (2 ^ i) where
  lt' := pow_pos _
  lt := Nat.pow_lt_pow_right (by decide) hi
  one := by rw [Nat.testBit_two_pow]; simp
  bit := fun j _ => by
    rw [Nat.testBit_two_pow, Nat.zero_testBit]
    exact decide_eq_false fun e => sk_ne i e.symm
theorem away_win {w : Words} (hw : Small w) {i : Nat} (hi : i < w.length) : flag (wins (without w i) (full (without w i)) 0) = val w 0 (2 ^ i) 8 := by
  rw [Rel.val hw hi (.inl rfl) _ 0 (2 ^ i) 8 (Nat.le_refl _) (Nat.le_refl _) (rel_start hi)]
  show flag (val (without w i) 0 0 8 == 1) = _
  rw [win_val (erase_small hw i) (pow_pos _) (Nat.le_refl _)]
  generalize (!(winL (without w i) 0 8).isEmpty) = b
  cases b <;> rfl
theorem longest_length {w : Words} (hw : Small w) {g l : Nat} (hg : g < 2 ^ w.length) (hl : l ≤ 8) : (longest w (compl w g) (mustOf l)).length = val w 1 g l := by
  rw [longest_eq hw hg hl, chainM_length hw _ _ _ hg hl rfl]
theorem away_long {w : Words} (hw : Small w) {i : Nat} (hi : i < w.length) : (longest (without w i) (full (without w i)) 0).length = val w 1 (2 ^ i) 8 := by
  rw [Rel.val hw hi (.inr rfl) _ 0 (2 ^ i) 8 (Nat.le_refl _) (Nat.le_refl _) (rel_start hi)]
  exact longest_length (l := 8) (erase_small hw i) (g := 0) (pow_pos _) (Nat.le_refl _)
theorem least_eq {w : Words} (hw : Small w) : ((least w : Nat) : Int) = (w.length : Int) - (val w 1 0 8 : Nat) := by
  have h1 : (longest w (full w) 0).length = val w 1 0 8 := longest_length (l := 8) hw (g := 0) (pow_pos _) (Nat.le_refl _)
  have h2 := long_le hw w.length 0 8 (pow_pos _) (Nat.le_refl _) left_length
  unfold least
  rw [h1]
  omega
theorem parts_eq {w : Words} : parts w = val w 4 0 8 := rfl
end WM

/-! M3: the plain law, part 3: the flat list of calls and the flat list of answers. -/
namespace WM
open Uw94

/-! ### a call's number and its whole numbers -/
def code : Call → Nat
  | .clear => 0
  | .word _ _ => 1
  | .say _ => 2
  | .back => 3
  | .may => 4
  | .said => 5
  | .wins => 6
  | .longest => 7
  | .all => 8
  | .chains => 9
  | .parts => 10
  | .away _ => 11
  | .least => 12
def nums : Call → List Nat
  | .word a b => [a, b]
  | .say i => [i]
  | .away i => [i]
  | _ => []
def enc (x : Call) : List Int := (code x : Int) :: (nums x).map fun (n : Nat) => (n : Int)
def fl (xs : List Call) : List Int := xs.flatMap enc
def playS : St → List Call → List (List Int)
  | _, [] => []
  | s, x :: r => (step s x).2 :: playS (step s x).1 r
theorem code_le (x : Call) : code x ≤ 12 := by cases x <;> exact Nat.le_of_ble_eq_true rfl

theorem callIn_enc {ns : List Nat} {x : Call} (h : Uw94Neutral.callIn ns = some x) : ns = code x :: nums x := by
  unfold Uw94Neutral.callIn at h
  split at h <;> first
    | (cases h; rfl)
    | cases h
theorem nat_back {c : List Int} (h : c.all Uw94Neutral.nat = true) : (c.map Int.toNat).map (fun (n : Nat) => (n : Int)) = c := by
  rw [List.map_map]
  refine (List.map_congr_left (g := id) fun z hz => ?_).trans (List.map_id _)
  have q := List.all_eq_true.mp h z hz
  unfold Uw94Neutral.nat at q
  rw [Bool.and_eq_true, decide_eq_true_eq] at q
  show ((z.toNat : Nat) : Int) = z
  omega
theorem callOf_enc {c : List Int} {x : Call} (h : Uw94Neutral.callOf c = some x) : c = enc x := by
  unfold Uw94Neutral.callOf at h
  split at h
  · cases h
  · rename_i hn
    have hn : c.all Uw94Neutral.nat = true := by simpa using hn
    have q := callIn_enc h
    rw [← nat_back hn, q]
    rfl

theorem fin_rows {a n k : Nat} (h : (some (a, 0) : Option (Nat × Nat)) = some (n, k)) : k = 0 := by
  cases h
  rfl
theorem shape_rows {p : Int} {n k : Nat} (h : PyUw94.shape p = some (n, k)) : k = 0 := by
  unfold PyUw94.shape at h
  by_cases c0 : p = 0
  · rw [if_pos c0] at h; exact fin_rows h
  rw [if_neg c0] at h
  by_cases c1 : p = 1
  · rw [if_pos c1] at h; exact fin_rows h
  rw [if_neg c1] at h
  by_cases c2 : p = 2
  · rw [if_pos c2] at h; exact fin_rows h
  rw [if_neg c2] at h
  by_cases c3 : p = 3
  · rw [if_pos c3] at h; exact fin_rows h
  rw [if_neg c3] at h
  by_cases c4 : p = 4
  · rw [if_pos c4] at h; exact fin_rows h
  rw [if_neg c4] at h
  by_cases c5 : p = 5
  · rw [if_pos c5] at h; exact fin_rows h
  rw [if_neg c5] at h
  by_cases c6 : p = 6
  · rw [if_pos c6] at h; exact fin_rows h
  rw [if_neg c6] at h
  by_cases c7 : p = 7
  · rw [if_pos c7] at h; exact fin_rows h
  rw [if_neg c7] at h
  by_cases c8 : p = 8
  · rw [if_pos c8] at h; exact fin_rows h
  rw [if_neg c8] at h
  by_cases c9 : p = 9
  · rw [if_pos c9] at h; exact fin_rows h
  rw [if_neg c9] at h
  by_cases c10 : p = 10
  · rw [if_pos c10] at h; exact fin_rows h
  rw [if_neg c10] at h
  by_cases c11 : p = 11
  · rw [if_pos c11] at h; exact fin_rows h
  rw [if_neg c11] at h
  by_cases c12 : p = 12
  · rw [if_pos c12] at h; exact fin_rows h
  rw [if_neg c12] at h
  cases h
theorem whole_id (c : List (List Int)) : PyUw94.whole c = c := by
  unfold PyUw94.whole
  split <;> rfl
theorem call_heads {l t : List Int} {c : List (List Int)} (h : PyFlat.call PyUw94.shape l = some (c, t)) : ∃ x, c = [x] ∧ l = x ++ t := by
  cases l with
  | nil => cases h
  | cons p r =>
    unfold PyFlat.call at h
    dsimp only at h
    cases e : PyUw94.shape p with
    | none =>
      rw [e] at h
      cases h
    | some nk =>
      obtain ⟨n, k⟩ := nk
      have hk := shape_rows e
      subst hk
      rw [e] at h
      dsimp only at h
      split at h
      · cases h
      · have q : (some ((p :: r.take n) :: [], r.drop n) : Option (List (List Int) × List Int)) = some (c, t) := h
        have q := Option.some.inj q
        injection q with q1 q2
        refine ⟨p :: r.take n, q1.symm, ?_⟩
        rw [← q2]
        show p :: r = p :: (r.take n ++ r.drop n)
        rw [List.take_append_drop]
theorem calls_heads : ∀ (f : Nat) (l : List Int) (raw : List (List (List Int))), PyFlat.calls PyUw94.shape f l = some raw → ∃ hs : List (List Int), raw = hs.map (fun h => [h]) ∧ l = hs.flatten
  | f, [], raw, h => by
    have e : raw = [] := by
      cases f <;> exact (Option.some.inj h).symm
    exact ⟨[], e, rfl⟩
  | 0, _ :: _, raw, h => by cases h
  | f + 1, p :: r, raw, h => by
    unfold PyFlat.calls at h
    cases e : PyFlat.call PyUw94.shape (p :: r) with
    | none =>
      rw [e] at h
      cases h
    | some ct =>
      obtain ⟨c, t⟩ := ct
      rw [e] at h
      dsimp only at h
      cases e2 : PyFlat.calls PyUw94.shape f t with
      | none =>
        rw [e2] at h
        cases h
      | some cs =>
        rw [e2] at h
        obtain ⟨x, hx, hl⟩ := call_heads e
        obtain ⟨hs, h1, h2⟩ := calls_heads f t cs e2
        have q := Option.some.inj h
        refine ⟨x :: hs, ?_, ?_⟩
        · rw [← q, hx, h1]
          rfl
        · rw [hl, h2]
          rfl
theorem whole_map (raw : List (List (List Int))) : raw.map PyUw94.whole = raw := (List.map_congr_left (g := id) fun c _ => whole_id c).trans (List.map_id _)
theorem some_all : ∀ (hs : List (List Int)), hs.all Uw94Neutral.asked1 = true → ∃ xs : List Call, hs = xs.map enc ∧ ∀ (i : Nat) (h : List Int), hs[i]? = some h → Uw94Neutral.callOf h = xs[i]?
  | [], _ => ⟨[], rfl, fun i h e => by simp at e⟩
  | h :: r, q => by
    rw [List.all_cons, Bool.and_eq_true] at q
    obtain ⟨xs, e1, e2⟩ := some_all r q.2
    have q1 : (Uw94Neutral.callOf h).isSome = true := q.1
    obtain ⟨x, hx⟩ := Option.isSome_iff_exists.mp q1
    refine ⟨x :: xs, ?_, fun i y e => ?_⟩
    · rw [List.map_cons, ← callOf_enc hx, ← e1]
    · cases i with
      | zero =>
        have e : h = y := Option.some.inj e
        rw [← e]
        exact hx
      | succ i => exact e2 i y e
theorem played_eq : ∀ (hs : List (List Int)) (xs : List Call) (s : St), (∀ (i : Nat) (h : List Int), hs[i]? = some h → Uw94Neutral.callOf h = xs[i]?) → hs.length = xs.length →
    PyFlat.played (fun s c => Uw94Neutral.step s (c.headD [])) s (hs.map fun h => [h]) = playS s xs
  | [], [], _, _, _ => rfl
  | [], _ :: _, _, _, hl => by simp at hl
  | _ :: _, [], _, _, hl => by simp at hl
  | h :: r, x :: xs, s, e, hl => by
    have e0 : Uw94Neutral.callOf h = some x := e 0 h rfl
    have st : Uw94Neutral.step s h = step s x := by
      unfold Uw94Neutral.step
      rw [e0]
      rfl
    show (Uw94Neutral.step s h).2 :: PyFlat.played (fun s c => Uw94Neutral.step s (c.headD [])) (Uw94Neutral.step s h).1 (r.map fun h => [h]) = (step s x).2 :: playS (step s x).1 xs
    rw [st, played_eq r xs _ (fun i y q => e (i + 1) y q) (by simpa using hl)]
/-- what is asked is a row of calls, and what is due are their answers -/
theorem parse {l : List Int} (h : PyUw94.answers_asked l = true) : ∃ xs : List Call, l = fl xs ∧ PyUw94.answers l = PyFlat.told (playS init xs) ∧ (PyUw94.answers l).length ≤ 10000000 := by
  unfold PyUw94.answers_asked at h
  cases e : PyFlat.calls PyUw94.shape l.length l with
  | none =>
    rw [e] at h
    cases h
  | some raw =>
    rw [e] at h
    dsimp only at h
    rw [Bool.and_eq_true, Bool.and_eq_true] at h
    obtain ⟨⟨_, h2⟩, h3⟩ := h
    obtain ⟨hs, q1, q2⟩ := calls_heads _ _ _ e
    rw [whole_map] at h2
    have eh : (raw.map fun c => c.headD []) = hs := by
      rw [q1, List.map_map]
      exact (List.map_congr_left (g := id) fun c _ => rfl).trans (List.map_id _)
    rw [eh] at h2
    unfold Uw94Neutral.asked at h2
    rw [Bool.and_eq_true] at h2
    obtain ⟨xs, z1, z2⟩ := some_all hs h2.1
    refine ⟨xs, ?_, ?_, ?_⟩
    · rw [q2, z1]
      unfold fl
      rw [List.flatMap_def]
    · unfold PyUw94.answers PyUw94.calls
      rw [e]
      dsimp only
      rw [whole_map, q1, played_eq hs xs _ z2 (by rw [z1, List.length_map])]
      rfl
    · unfold PyFlat.short at h3
      exact of_decide_eq_true h3
theorem told_cons (a : List Int) (r : List (List Int)) : PyFlat.told (a :: r) = ((a.length : Int) :: a) ++ PyFlat.told r := rfl
theorem fl_cons (x : Call) (r : List Call) : fl (x :: r) = enc x ++ fl r := rfl
end WM

/-! W0: short words for the walk: a def that can be called, whatever its address; comprehensions that write nothing but their list. -/
namespace WC
open PySem PySem.Spec PyProof.Rows L2

/-! ### numbers as values -/
abbrev vn (l : List Nat) : List V := l.map fun (n : Nat) => V.int (n : Int)
theorem vn_get {l : List Nat} {i : Nat} {n : Nat} (h : l[i]? = some n) : (vn l)[i]? = some (V.int (n : Int)) := by
  rw [List.getElem?_map, h]
  rfl
theorem vn_inv {l : List Nat} {i : Nat} {x : V} (h : (vn l)[i]? = some x) : ∃ n, l[i]? = some n ∧ x = V.int (n : Int) := by
  rw [List.getElem?_map] at h
  cases e : l[i]? with
  | none => rw [e] at h; cases h
  | some n => rw [e] at h; exact ⟨n, rfl, (Option.some.inj h).symm⟩
theorem vn_len (l : List Nat) : (vn l).length = l.length := List.length_map _
theorem vn_flat : ∀ l : List Nat, (vn l).all flatV = true
  | [] => rfl
  | x :: r => by
    show (flatV (V.int (x : Int)) && (vn r).all flatV) = true
    rw [vn_flat r]
    rfl
theorem vn_in : ∀ (l : List Nat) (i : Nat), inV (V.int (i : Int)) (vn l) = l.contains i
  | [], _ => rfl
  | x :: r, i => by
    have ih := vn_in r i
    show (eqV (V.int (x : Int)) (V.int (i : Int)) || inV (V.int (i : Int)) (vn r)) = (x :: r).contains i
    rw [ih, List.contains_cons]
    congr 1
    show ((x : Int) == (i : Int)) = (i == x)
    rw [Bool.eq_iff_iff, beq_iff_eq, beq_iff_eq]
    omega
theorem line_big {n : Nat} (h : n ≤ 1000) : n ≤ sizeLine := Nat.le_of_lt (small1000 h)

/-! ### the fields of an instance -/
theorem lk_here {k : Str} {v : V} {r : List (Str × V)} : List.lookup k ((k, v) :: r) = some v := by
  have e : (k == k) = true := beq_self_eq_true k
  simp only [List.lookup, e]
theorem lk_past {k g : Str} {v : V} {r : List (Str × V)} (h : (k == g) = false) : List.lookup k ((g, v) :: r) = List.lookup k r := by
  simp only [List.lookup, h]
theorem put_here {f : Str} {v x : V} {r : List (Str × V)} : putF f v ((f, x) :: r) = (f, v) :: r := if_pos rfl
theorem put_past {f g : Str} {v x : V} {r : List (Str × V)} (h : ¬ g = f) : putF f v ((g, x) :: r) = (g, x) :: putF f v r := if_neg h

/-! ### a def that can be called -/
structure Can (P : Program) (w : World) (K : PySem.W.Frag) (mg : Str → Option Value) (base : Heap) (CX : CXT) (k : Nat) (x : Str) (ps : List Str) (sp : Sp) : Prop where
  ex : ∃ (f : Addr) (fd : FuncData), FnOk P w K mg base CX k f fd ps sp ∧ Binds K fd ps [] ∧ mg x = some (.ref f) ∧ PySem.W.keepIn K (.ref f) = true
structure CanM (P : Program) (w : World) (K : PySem.W.Frag) (mg : Str → Option Value) (base : Heap) (CX : CXT) (k : Nat) (C : Addr) (x : Str) (ps : List Str) (sp : Sp) : Prop where
  ex : ∃ (f : Addr) (fd : FuncData), FnOk P w K mg base CX k f fd ps sp ∧ Binds K fd ps [] ∧ Meth K C x f
/-- a class that can be made by its __init__ -/
structure CanI (P : Program) (w : World) (K : PySem.W.Frag) (mg : Str → Option Value) (base : Heap) (k : Nat) (C : Addr) (x : Str) (ps : List Str) (sp : Sp) : Prop where
  ex : ∃ (f : Addr) (fd : FuncData), FnOk P w K mg base CX0 k f fd ps sp ∧ Binds K fd ps [] ∧ Mk K C f ∧ mg x = some (.ref C)
/-- a def (a method) of the text as it stands behind the top, with how its arguments bind -/
structure Def (K : PySem.W.Frag) (mg : Str → Option Value) (x : Str) (st : Stmt) (ps : List Str) : Prop where
  ex : ∃ (f : Addr) (fd : FuncData), Fun K x x st f fd ∧ Binds K fd ps [] ∧ mg x = some (.ref f)
structure DefM (K : PySem.W.Frag) (C : Addr) (x qual : Str) (st : Stmt) (ps : List Str) : Prop where
  ex : ∃ (f : Addr) (fd : FuncData), Fun K x qual st f fd ∧ Binds K fd ps [] ∧ Meth K C x f
structure DefI (K : PySem.W.Frag) (mg : Str → Option Value) (C : Addr) (c qual : Str) (st : Stmt) (ps : List Str) : Prop where
  ex : ∃ (f : Addr) (fd : FuncData), Fun K "__init__" qual st f fd ∧ Binds K fd ps [] ∧ Mk K C f ∧ mg c = some (.ref C)
section
variable {P : Program} {w : World} {K : PySem.W.Frag} {mg : Str → Option Value} {base : Heap} {k : Nat} {N ps : List Str} {sp : Sp} {x qual c : Str} {C : Addr} {st : Stmt}
theorem Def.can (D : Def K mg x st ps) (S : FnScope N ps (defScope st)) (len : ∀ vs H Q E, sp vs H Q E → vs.length = ps.length)
    (hbody : ∀ (f : Addr) (cdv : Value) (A : Around) (outer : List Env) (s : Shared) (H : Hp) (vs : List V) (Q : VK) (E : XK), Room k (A.deeper (envOfC x (defScope st) s.heap.objs.size f cdv)) → sp vs H Q E →
      ∃ t, PSs (cxOf CX0 P w K mg base N x (defScope st) f cdv A outer s H E).nox (defBody st) t ∧ t { nx := fun _ H' => Q .non H', rt := Q } (start N vs) H) : Can P w K mg base CX0 (k + 1) x ps sp := by
  obtain ⟨f, fd, F, b, m⟩ := D.ex
  exact ⟨f, fd, F.ok S len (hbody f), b, m, F.kp⟩
theorem Def.canX (D : Def K mg x st ps) (S : FnScope N ps (defScope st)) (len : ∀ vs H Q E, sp vs H Q E → vs.length = ps.length)
    (hbody : ∀ (f : Addr) (cdv : Value) (A : Around) (outer : List Env) (s : Shared) (H : Hp) (vs : List V) (Q : VK) (E : XK), Room k (A.deeper (envOfC x (defScope st) s.heap.objs.size f cdv)) → sp vs H Q E →
      ∃ t, PSs (cxOf (L2.CX P w) P w K mg base N x (defScope st) f cdv A outer s H E) (defBody st) t ∧ t { nx := fun _ H' => Q .non H', rt := Q } (start N vs) H) : Can P w K mg base (L2.CX P w) (k + 1) x ps sp := by
  obtain ⟨f, fd, F, b, m⟩ := D.ex
  exact ⟨f, fd, F.okX S len (hbody f), b, m, F.kp⟩
theorem DefM.can (D : DefM K C x qual st ps) (S : FnScope N ps (defScope st)) (len : ∀ vs H Q E, sp vs H Q E → vs.length = ps.length)
    (hbody : ∀ (f : Addr) (cdv : Value) (A : Around) (outer : List Env) (s : Shared) (H : Hp) (vs : List V) (Q : VK) (E : XK), Room k (A.deeper (envOfC qual (defScope st) s.heap.objs.size f cdv)) → sp vs H Q E →
      ∃ t, PSs (cxOf CX0 P w K mg base N qual (defScope st) f cdv A outer s H E).nox (defBody st) t ∧ t { nx := fun _ H' => Q .non H', rt := Q } (start N vs) H) : CanM P w K mg base CX0 (k + 1) C x ps sp := by
  obtain ⟨f, fd, F, b, m⟩ := D.ex
  exact ⟨f, fd, F.ok S len (hbody f), b, m⟩
theorem DefM.canX (D : DefM K C x qual st ps) (S : FnScope N ps (defScope st)) (len : ∀ vs H Q E, sp vs H Q E → vs.length = ps.length)
    (hbody : ∀ (f : Addr) (cdv : Value) (A : Around) (outer : List Env) (s : Shared) (H : Hp) (vs : List V) (Q : VK) (E : XK), Room k (A.deeper (envOfC qual (defScope st) s.heap.objs.size f cdv)) → sp vs H Q E →
      ∃ t, PSs (cxOf (L2.CX P w) P w K mg base N qual (defScope st) f cdv A outer s H E) (defBody st) t ∧ t { nx := fun _ H' => Q .non H', rt := Q } (start N vs) H) : CanM P w K mg base (L2.CX P w) (k + 1) C x ps sp := by
  obtain ⟨f, fd, F, b, m⟩ := D.ex
  exact ⟨f, fd, F.okX S len (hbody f), b, m⟩
theorem DefI.can (D : DefI K mg C c qual st ps) (S : FnScope N ps (defScope st)) (len : ∀ vs H Q E, sp vs H Q E → vs.length = ps.length)
    (hbody : ∀ (f : Addr) (cdv : Value) (A : Around) (outer : List Env) (s : Shared) (H : Hp) (vs : List V) (Q : VK) (E : XK), Room k (A.deeper (envOfC qual (defScope st) s.heap.objs.size f cdv)) → sp vs H Q E →
      ∃ t, PSs (cxOf CX0 P w K mg base N qual (defScope st) f cdv A outer s H E).nox (defBody st) t ∧ t { nx := fun _ H' => Q .non H', rt := Q } (start N vs) H) : CanI P w K mg base (k + 1) C c ps sp := by
  obtain ⟨f, fd, F, b, m, g⟩ := D.ex
  exact ⟨f, fd, F.ok S len (hbody f), b, m, g⟩
end

/-! ### the rules of a call -/
theorem passN {X : Cx} (σ : L2.St) : PassesAt CX0 X σ E0 := fun _ _ _ _ _ _ h => h.elim
section
variable {X : Cx} {k j : Nat} {C : Addr} {ps : List Str} {sp : Sp} {x m : Str} {p pos apos : Pos} {e o : Expr} {es : List Expr} {ta : TE} {t : TA}
/-- f(e, ..), f lets nothing out -/
theorem pe_fn (c : Can X.prog X.w X.K X.mg X.base CX0 k x ps sp) (hr : Room j X.A) (ha : PA X (e :: es) t) (hk : k ≤ j := by decide) (hg : Gl X x := by rfl) (hdb : (x == ("__debug__" : Str)) = false := by decide)
    (he : starEach (e :: es) X.env = (false, eval e X.env) :: starEach es X.env := by rfl) (hpl : (backTo pos (starEach es X.env)).any (·.1) = false := by rfl) :
    PE X (.Call (.Name x p) (e :: es) [] pos) (tCallS sp (fun _ => E0) t) := by
  obtain ⟨f, fd, F, b, m, kp⟩ := c.ex
  exact pe_callS F (hr.mono hk) hg m kp b passN ha hdb he hpl
/-- f(e, ..), f may let out what is taken here -/
theorem pe_fnX {W : WX} (c : Can X.prog X.w X.K X.mg X.base (L2.CX X.prog X.w) k x ps sp) (tk : Takes X W) (hr : Room j X.A) (ha : PA X (e :: es) t) (hk : k ≤ j := by decide) (hg : Gl X x := by rfl) (hdb : (x == ("__debug__" : Str)) = false := by decide)
    (he : starEach (e :: es) X.env = (false, eval e X.env) :: starEach es X.env := by rfl) (hpl : (backTo pos (starEach es X.env)).any (·.1) = false := by rfl) :
    PE X (.Call (.Name x p) (e :: es) [] pos) (tCallS sp (WE W) t) := by
  obtain ⟨f, fd, F, b, m, kp⟩ := c.ex
  exact pe_callS F (hr.mono hk) hg m kp b (fun σ => passAt tk σ) ha hdb he hpl
/-- o.m(e, ..) -/
def tMt (C : Addr) (m : Str) (sp : Sp) (E : L2.St → XK) (ta : TE) (t : TA) : TE := fun σ H Q => ta σ H fun x H1 => ∃ a dx fs, x = .ref a ∧ H1 a = some (.ins C dx fs) ∧ fs.lookup m = none ∧ t σ H1 fun vs H2 => sp (x :: vs) H2 Q (E σ)
theorem pe_mt0 {CX : CXT} {f : Addr} {fd : FuncData} {E : L2.St → XK} {pl : Sem Bool} (he : PE X o ta) (c : Cls X.K C) (hm : Meth X.K C m f)
    (F : FnOk X.prog X.w X.K X.mg X.base CX k f fd ps sp) (hr : Room k X.A) (hb : Binds X.K fd ps []) (hx : ∀ σ, PassesAt CX X σ (E σ)) (ha : PA X (e :: es) t)
    (hst : starEach (e :: es) X.env = (false, eval e X.env) :: starEach es X.env := by rfl) (hpl : (backTo pos (starEach es X.env)).any (·.1) = false := by rfl)
    (ht : eval (.Call (.Attribute o m apos) (e :: es) [] pos) X.env = (do
      let ov ← eval o X.env
      standAt apos.atName
      let (f, first) ← holding [ov] (getMethod ov m pl)
      callWith pos f first (backTo pos (starEach (e :: es) X.env)) (backToKw pos (keywordEach [] X.env))) := by rfl) :
    PE X (.Call (.Attribute o m apos) (e :: es) [] pos) (tMt C m sp E ta t) := by
  refine ⟨fun pins s σ H Q I h => ?_⟩
  refine PySem.W.methodCall_KW (pl := pl) (thn (he.run pins s σ H _ I h) fun u s1 ⟨x, H1, I1, rx, a, dx, fs, ex, ea, l, q⟩ => ?_) ht
  subst ex
  obtain rfl : u = Value.ref a := rx
  refine getmeth_ok I1 ea c hm l ?_
  refine PySem.W.callWith_K (first := [.ref a]) (h₀ := X.base) I.ok.mod.kin hm.kp (thn (ha.run pos pins s1 σ H1 _ I1 q) fun us s2 ⟨vs, H2, I2, r, q2⟩ => ⟨I2.kIn, ?_⟩) hst hpl
  exact run_fnS (us := .ref a :: us) (vs := .ref a :: vs) F hr hb (hx σ) I2 (.cons rfl r) q2
theorem pe_mt00 {CX : CXT} {f : Addr} {fd : FuncData} {E : L2.St → XK} {pl : Sem Bool} (he : PE X o ta) (c : Cls X.K C) (hm : Meth X.K C m f)
    (F : FnOk X.prog X.w X.K X.mg X.base CX k f fd ps sp) (hr : Room k X.A) (hb : Binds X.K fd ps []) (hx : ∀ σ, PassesAt CX X σ (E σ))
    (ht : eval (.Call (.Attribute o m apos) [] [] pos) X.env = (do
      let ov ← eval o X.env
      standAt apos.atName
      let (f, first) ← holding [ov] (getMethod ov m pl)
      callWith pos f first (backTo pos (starEach [] X.env)) (backToKw pos (keywordEach [] X.env))) := by rfl) :
    PE X (.Call (.Attribute o m apos) [] [] pos) (tMt C m sp E ta tNil) := by
  refine ⟨fun pins s σ H Q I h => ?_⟩
  refine PySem.W.methodCall_KW (pl := pl) (thn (he.run pins s σ H _ I h) fun u s1 ⟨x, H1, I1, rx, a, dx, fs, ex, ea, l, q⟩ => ?_) ht
  subst ex
  obtain rfl : u = Value.ref a := rx
  refine getmeth_ok I1 ea c hm l ?_
  exact PySem.W.callWith_K0 (first := [.ref a]) I1.kIn hm.kp (run_fnS (us := [.ref a]) (vs := [.ref a]) F hr hb (hx σ) I1 (.cons rfl .nil) q)
theorem pe_mt {pl : Sem Bool} (c : CanM X.prog X.w X.K X.mg X.base CX0 k C m ps sp) (T : Cls X.K C) (he : PE X o ta) (hr : Room j X.A) (ha : PA X (e :: es) t) (hk : k ≤ j := by decide)
    (hst : starEach (e :: es) X.env = (false, eval e X.env) :: starEach es X.env := by rfl) (hpl : (backTo pos (starEach es X.env)).any (·.1) = false := by rfl)
    (ht : eval (.Call (.Attribute o m apos) (e :: es) [] pos) X.env = (do
      let ov ← eval o X.env
      standAt apos.atName
      let (f, first) ← holding [ov] (getMethod ov m pl)
      callWith pos f first (backTo pos (starEach (e :: es) X.env)) (backToKw pos (keywordEach [] X.env))) := by rfl) :
    PE X (.Call (.Attribute o m apos) (e :: es) [] pos) (tMt C m sp (fun _ => E0) ta t) := by
  obtain ⟨f, fd, F, b, mt⟩ := c.ex
  exact pe_mt0 he T mt F (hr.mono hk) b passN ha hst hpl ht
theorem pe_mtX {W : WX} {pl : Sem Bool} (c : CanM X.prog X.w X.K X.mg X.base (L2.CX X.prog X.w) k C m ps sp) (tk : Takes X W) (T : Cls X.K C) (he : PE X o ta) (hr : Room j X.A) (ha : PA X (e :: es) t) (hk : k ≤ j := by decide)
    (hst : starEach (e :: es) X.env = (false, eval e X.env) :: starEach es X.env := by rfl) (hpl : (backTo pos (starEach es X.env)).any (·.1) = false := by rfl)
    (ht : eval (.Call (.Attribute o m apos) (e :: es) [] pos) X.env = (do
      let ov ← eval o X.env
      standAt apos.atName
      let (f, first) ← holding [ov] (getMethod ov m pl)
      callWith pos f first (backTo pos (starEach (e :: es) X.env)) (backToKw pos (keywordEach [] X.env))) := by rfl) :
    PE X (.Call (.Attribute o m apos) (e :: es) [] pos) (tMt C m sp (WE W) ta t) := by
  obtain ⟨f, fd, F, b, mt⟩ := c.ex
  exact pe_mt0 he T mt F (hr.mono hk) b (fun σ => passAt tk σ) ha hst hpl ht
theorem pe_mn {pl : Sem Bool} (c : CanM X.prog X.w X.K X.mg X.base CX0 k C m ps sp) (T : Cls X.K C) (he : PE X o ta) (hr : Room j X.A) (hk : k ≤ j := by decide)
    (ht : eval (.Call (.Attribute o m apos) [] [] pos) X.env = (do
      let ov ← eval o X.env
      standAt apos.atName
      let (f, first) ← holding [ov] (getMethod ov m pl)
      callWith pos f first (backTo pos (starEach [] X.env)) (backToKw pos (keywordEach [] X.env))) := by rfl) :
    PE X (.Call (.Attribute o m apos) [] [] pos) (tMt C m sp (fun _ => E0) ta tNil) := by
  obtain ⟨f, fd, F, b, mt⟩ := c.ex
  exact pe_mt00 he T mt F (hr.mono hk) b passN ht
theorem pe_mnX {W : WX} {pl : Sem Bool} (c : CanM X.prog X.w X.K X.mg X.base (L2.CX X.prog X.w) k C m ps sp) (tk : Takes X W) (T : Cls X.K C) (he : PE X o ta) (hr : Room j X.A) (hk : k ≤ j := by decide)
    (ht : eval (.Call (.Attribute o m apos) [] [] pos) X.env = (do
      let ov ← eval o X.env
      standAt apos.atName
      let (f, first) ← holding [ov] (getMethod ov m pl)
      callWith pos f first (backTo pos (starEach [] X.env)) (backToKw pos (keywordEach [] X.env))) := by rfl) :
    PE X (.Call (.Attribute o m apos) [] [] pos) (tMt C m sp (WE W) ta tNil) := by
  obtain ⟨f, fd, F, b, mt⟩ := c.ex
  exact pe_mt00 he T mt F (hr.mono hk) b (fun σ => passAt tk σ) ht
/-- C() -/
theorem pe_new (c : CanI X.prog X.w X.K X.mg X.base k C x ps sp) (hr : Room j X.A) (hk : k + 1 ≤ j := by decide) (hg : Gl X x := by rfl) (hdb : (x == ("__debug__" : Str)) = false := by decide) :
    PE X (.Call (.Name x p) [] [] pos) (tMake C sp [] E0 tNil) := by
  obtain ⟨f, fd, F, b, M, m⟩ := c.ex
  exact pe_make0 M F (hr.mono hk) hg m b .nil pass0 hdb
/-- a constant of the module -/
theorem pe_k {n : Int} (h : ∃ t, X.mg x = some (.int n t)) (hg : Gl X x := by rfl) (hd : (x == ("__debug__" : Str)) = false := by decide) : PE X (.Name x pos) (tC (.int n)) := by
  obtain ⟨t, e⟩ := h
  exact pe_glob hg e ⟨t, rfl⟩ hd
end

/-! ### readings -/
theorem fld_at {K : PySem.W.Frag} {C a dx : Addr} {f : Str} {i : Nat} {σ : L2.St} {H : Hp} {Q : VK} {fs : List (Str × V)} {v : V} (h0 : σ[i]? = some (some (.ref a))) (h1 : H a = some (.ins C dx fs)) (c : Cls K C) (n : NoAttr K C f) (l : fs.lookup f = some v) (q : Q v H) :
    tFld K (tVar i) f σ H Q := ⟨_, h0, a, C, dx, fs, v, rfl, h1, c, n, l, q⟩
theorem q_int {Q : VK} {H : Hp} {a b : Int} (e : a = b) (k : Q (.int b) H) : Q (.int a) H := by
  rw [e]
  exact k
theorem q_bl {Q : VK} {H : Hp} {a b : Bool} (e : a = b) (k : Q (.bl b) H) : Q (.bl a) H := by
  rw [e]
  exact k
theorem if_true_of {c : Bool} {A B : Prop} (hc : c = true) (h : A) : if c = true then A else B := by
  rw [if_pos hc]
  exact h
theorem if_false_of {c : Bool} {A B : Prop} (hc : c = false) (h : B) : if c = true then A else B := by
  rw [hc, if_neg Bool.false_ne_true]
  exact h
theorem same_upd {H H' : Hp} {a : Addr} {o : HO} (e : Same H H') (n : H a = none) : Same H (upd H' a o) := fun b u h => by
  rw [upd_ne (ne_of_none h n)]
  exact e b u h
theorem same_new {H : Hp} {a : Addr} {o : HO} (n : H a = none) : Same H (upd H a o) := same_upd (Same.refl H) n

/-! ### comprehensions that write nothing but their list -/
/-- filtered, each kept item one value: what stands behind the first i items -/
def part {α : Type} (c : α → Bool) (y : α → V) (xs : List α) (i : Nat) : List V := ((xs.take i).filter c).map y
theorem part_succ {α : Type} {c : α → Bool} {y : α → V} {xs : List α} {i : Nat} {x : α} (h : xs[i]? = some x) : part c y xs (i + 1) = part c y xs i ++ (if c x = true then [y x] else []) := by
  unfold part
  rw [List.take_succ, h, List.filter_append, List.map_append]
  congr 1
  cases e : c x <;> simp [e]
theorem part_all {α : Type} {c : α → Bool} {y : α → V} {xs : List α} : part c y xs xs.length = (xs.filter c).map y := by
  unfold part
  rw [List.take_length]
theorem part_len {α : Type} {c : α → Bool} {y : α → V} {xs : List α} {i : Nat} : (part c y xs i).length ≤ xs.length := by
  unfold part
  rw [List.length_map]
  refine Nat.le_trans (List.length_filter_le _ _) ?_
  rw [List.length_take]
  omega
/-- a turn's reading: kept with y, or not -/
def Turn1 (g : TG) (tt : TT) (te : TE) (vs : List Nat) (σ : L2.St) (x : V) (H : Hp) (c : Bool) (y : V) : Prop :=
  ∀ (R1 : V → Hp → Prop) (R0 : Hp → Prop), (c = true → ∀ H', Same H H' → R1 y H') → (c = false → ∀ H', Same H H' → R0 H') →
    g x (wipe σ vs) H fun σ2 H2 => wipe σ2 vs = wipe σ vs ∧ tt σ2 H2 fun b H3 => if b = true then te σ2 H3 R1 else R0 H3
theorem lc_pure {K : PySem.W.Frag} {a : Addr} {ns : List Nat} {g : TG} {tt : TT} {te : TE} {vs : List Nat} {σ : L2.St} {H1 : Hp} {D : Addr} {Qd : Hp → Prop} (c : Nat → Bool) (y : Nat → V) (hl : ns.length ≤ 1000)
    (hS : SqL K H1 a (vn ns)) (hD : H1 D = none)
    (turn : ∀ (n : Nat) H, n ∈ ns → Same H1 H → Turn1 g tt te vs σ (.int (n : Int)) H (c n) (y n))
    (hd : ∀ H, Same H1 H → H D = some (.lst ((ns.filter c).map y)) → Qd H) :
    ∃ W : Nat → Nat → Hp → Prop, (∃ m, W 0 m (upd H1 D (.lst []))) ∧ ∀ i m H, W i m H →
      ((Itl K a).stop i H ∧ Qd H) ∨ ((Itl K a).go i H ∧ ∃ Nx : Hp → Prop, (∀ H', Nx H' → ∃ m', m' < m ∧ W (i + 1) m' H') ∧ ∀ x H', (Itl K a).yld i H x H' → g x (wipe σ vs) H' fun σ2 H2 => wipe σ2 vs = wipe σ vs ∧ tt σ2 H2 fun b H3 =>
        if b = true then te σ2 H3 fun y H4 => ∃ acc, H4 D = some (.lst acc) ∧ acc.length < sizeLine ∧ Nx (upd H4 D (.lst (acc ++ [y]))) else Nx H3) := by
  refine lc_list (K := K) (a := a) (xs := vn ns) (fun i H => Same H1 H ∧ H D = some (.lst (part c y ns i))) ⟨same_new hD, upd_same⟩ (fun i H _ p => p.1.seq hS) (fun i x H hx p => ?_) fun H p => hd H p.1 ?_
  · obtain ⟨n, hn, rfl⟩ := vn_inv hx
    refine turn n H (List.mem_of_getElem? hn) p.1 _ _ (fun hc H' s => ?_) (fun hc H' s => ?_)
    · refine ⟨_, s _ _ p.2, Nat.lt_of_le_of_lt part_len (small1000 hl), same_upd (p.1.trans s) hD, ?_⟩
      rw [upd_same, part_succ hn, if_pos hc]
    · refine ⟨p.1.trans s, ?_⟩
      rw [part_succ hn, hc, if_neg Bool.false_ne_true, List.append_nil]
      exact s _ _ p.2
  · have q := p.2
    rw [vn_len, part_all] at q
    exact q
theorem lc_pureR {m : Nat} {g : TG} {tt : TT} {te : TE} {vs : List Nat} {σ : L2.St} {H1 : Hp} {D : Addr} {Qd : Hp → Prop} (c : Nat → Bool) (y : Nat → V) (hl : m ≤ 1000) (hD : H1 D = none)
    (turn : ∀ (n : Nat) H, n < m → Same H1 H → Turn1 g tt te vs σ (.int (n : Int)) H (c n) (y n))
    (hd : ∀ H, Same H1 H → H D = some (.lst (((List.range m).filter c).map y)) → Qd H) :
    ∃ W : Nat → Nat → Hp → Prop, (∃ m, W 0 m (upd H1 D (.lst []))) ∧ ∀ i k H, W i k H →
      ((Itr 0 m).stop i H ∧ Qd H) ∨ ((Itr 0 m).go i H ∧ ∃ Nx : Hp → Prop, (∀ H', Nx H' → ∃ m', m' < k ∧ W (i + 1) m' H') ∧ ∀ x H', (Itr 0 m).yld i H x H' → g x (wipe σ vs) H' fun σ2 H2 => wipe σ2 vs = wipe σ vs ∧ tt σ2 H2 fun b H3 =>
        if b = true then te σ2 H3 fun y H4 => ∃ acc, H4 D = some (.lst acc) ∧ acc.length < sizeLine ∧ Nx (upd H4 D (.lst (acc ++ [y]))) else Nx H3) := by
  have hr : ∀ i, i < m → (List.range m)[i]? = some i := fun i hi => by rw [List.getElem?_range hi]
  refine lc_range (lo := 0) (n := m) (fun i H => Same H1 H ∧ H D = some (.lst (part c y (List.range m) i))) ⟨same_new hD, upd_same⟩ (fun i H hi p => ?_) fun H p => hd H p.1 ?_
  · rw [Int.zero_add]
    refine turn i H hi p.1 _ _ (fun hc H' s => ?_) (fun hc H' s => ?_)
    · refine ⟨_, s _ _ p.2, Nat.lt_of_le_of_lt part_len (small1000 (by rw [List.length_range]; exact hl)), same_upd (p.1.trans s) hD, ?_⟩
      rw [upd_same, part_succ (hr i hi), if_pos hc]
    · refine ⟨p.1.trans s, ?_⟩
      rw [part_succ (hr i hi), hc, if_neg Bool.false_ne_true, List.append_nil]
      exact s _ _ p.2
  · have q := p.2
    have e := part_all (c := c) (y := y) (xs := List.range m)
    rw [List.length_range] at e
    rw [e] at q
    exact q
end WC

/-! W1: the text by places; the classes; the refusal; Words; the bits of a number. -/
namespace WC
open PySem PySem.Spec PyProof.Rows L2
open Uw94 (Words)

def top (i : Nat) : Stmt := PySem.Challenge.pw_wordchains_s01_answers.main.body.getD i (.Pass ⟨0, 0, 0, 0⟩)
abbrev sRI : Stmt := inClass (top 1) 0
abbrev sMust : Stmt := top 2
abbrev sWI : Stmt := inClass (top 7) 0
abbrev sMany : Stmt := inClass (top 7) 1
abbrev sPut : Stmt := inClass (top 7) 2
abbrev sTail : Stmt := inClass (top 7) 3
abbrev sBegins : Stmt := inClass (top 7) 4
abbrev sLeft : Stmt := inClass (top 7) 5
abbrev sNext : Stmt := inClass (top 7) 6
abbrev sIsGone : Stmt := top 8
abbrev sWith : Stmt := top 9
abbrev sAllGone : Stmt := top 10
abbrev sGoneOf : Stmt := top 11

/-! ### what the top has written of the classes, the constants, the built-ins -/
structure TR (K : PySem.W.Frag) (mg : Str → Option Value) (CR : Addr) : Prop where
  oex : OexC K CR
  xf : XfC K CR
  noN : PySem.W.findIn K (.ref CR) "number" = some none
  gR : mg "Refusal" = some (.ref CR)
  mVE : mg "ValueError" = none
  vV : PySem.W.findCls K (.type "ValueError") (.type "type") "__init__" = some (.val (.builtin "ValueError.__init__"))
  te : PySem.W.exmOne K (.ref CR) (.ref CR) = some true
structure DefR (K : PySem.W.Frag) (CR : Addr) : Prop where
  ex : ∃ (f : Addr) (fd : FuncData), Fun K "__init__" "Refusal.__init__" sRI f fd ∧ Binds K fd ["self", "number"] [] ∧ PySem.W.findIn K (.ref CR) "__init__" = some (some (.ref f)) ∧ PySem.W.typeIn K (.ref f) = some (.type "function")
structure TW (K : PySem.W.Frag) (CW : Addr) : Prop where
  cl : Cls K CW
  nH : NoAttr K CW "heads"
  nT : NoAttr K CW "tails"
/-- the constants of the module, the built-ins that it doesn't hide -/
structure TK (mg : Str → Option Value) : Prop where
  high : ∃ t, mg "HIGHEST_LETTER" = some (.int 7 t)
  any : ∃ t, mg "ANY" = some (.int 8 t)
  most : ∃ t, mg "MOST_WORDS" = some (.int 9 t)
  len : mg "len" = none
  range : mg "range" = none
  reversed : mg "reversed" = none
  max : mg "max" = none
  min : mg "min" = none
  sum : mg "sum" = none
  list : mg "list" = none

section
variable {P : Program} {w : World} {K : PySem.W.Frag} {mg : Str → Option Value} {base : Heap} {CR CW : Addr}

/-! ### Refusal, must -/
abbrev xdN (n : Int) : List (Str × V) := [("number", V.int n)]
/-- refused with n: all that was tracked stands; the error's own dict holds the number -/
def Rz (CR : Addr) (E : XK) (n : Int) (H : Hp) : Prop := ∀ (H' : Hp) (d : Addr), Same H H' → H' d = some (.xd (xdN n)) → E (.ref CR) (some d) H'
def spRI (CR : Addr) : Sp := fun vs H Q _ => ∃ (a : Addr) (n : Int), vs = [.ref a, .int n] ∧ H a = some (exo a CR none) ∧
  ∀ dx, H dx = none → dx ≠ a → Q .non (upd (upd H dx (exd dx (xdN n))) a (exo a CR (some dx)))
def spMust (CR : Addr) : Sp := fun vs H Q E => ∃ (t : Bool) (n : Int), vs = [.bl t, .int n] ∧ (t = true → Q .non H) ∧ (t = false → Rz CR E n H)
theorem scRI : FnScope ["self", "number"] ["self", "number"] (defScope sRI) := ⟨rfl, rfl, rfl, by decide +kernel, rfl, by decide +kernel, by decide +kernel⟩
theorem ok_ri {f : Addr} {fd : FuncData} (F : Fun K "__init__" "Refusal.__init__" sRI f fd) (T : TR K mg CR) : FnOk P w K mg base CX0 1 f fd ["self", "number"] (spRI CR) := by
  refine F.ok scRI (fun vs H Q E h => ?_) (fun cdv A outer s H vs Q E hr h => ?_)
  · obtain ⟨a, n, rfl, _⟩ := h
    rfl
  · obtain ⟨a, n, rfl, ha, k⟩ := h
    refine ⟨_, pss_cons (ps_expr (pe_veinit rfl T.mVE T.vV (pa_cons (pv 0) (pa_cons pe_str pa_nil)))) (pss_one (ps_ost (pv 0) (pv 1))), ?_⟩
    exact ⟨_, rfl, a, CR, _, rfl, (by show 1 ≤ 1000; decide), T.oex, ha, _, rfl, _, rfl, a, CR, rfl, T.oex, T.noN, .inl ⟨ha, fun dx n ne => k dx n ne⟩⟩
theorem scMust : FnScope ["truth", "number"] ["truth", "number"] (defScope sMust) := ⟨rfl, rfl, rfl, by decide +kernel, rfl, by decide +kernel, by decide +kernel⟩
theorem can_must (D : Def K mg "must" sMust ["truth", "number"]) (R : DefR K CR) (T : TR K mg CR) : Can P w K mg base (L2.CX P w) 3 "must" ["truth", "number"] (spMust CR) := by
  obtain ⟨fI, fdI, FI, bI, iC, tI⟩ := R.ex
  have GI : FnOk P w K mg base CX0 1 fI fdI ["self", "number"] (spRI CR) := ok_ri FI T
  refine D.canX scMust (fun vs H Q E h => ?_) (fun f cdv A outer s H vs Q E hr h => ?_)
  · obtain ⟨t, n, rfl, _⟩ := h
    rfl
  · obtain ⟨t, n, rfl, h1, h0⟩ := h
    refine ⟨_, pss_one (ps_if (pt_not (pt_val (pv 0))) (pss_one (ps_raise rfl (takes_of rfl rfl rfl rfl) (pmk_oex T.oex iC tI GI hr bI .nil pass0 rfl T.gR (by exact (pa_cons (pv 1) pa_nil))))) pss_nil), ?_⟩
    refine ⟨_, rfl, _, rfl, ?_⟩
    cases t with
    | true => exact if_false_of rfl (h1 rfl)
    | false =>
      refine if_true_of rfl ⟨_, rfl, (by show 1 ≤ 1000; decide), fun a ha => ?_⟩
      refine ⟨a, n, rfl, upd_same, fun dx hdx hne => ⟨rfl, dx, xdN n, upd_same, ?_, ?_, ?_⟩⟩
      · rw [upd_ne hne, upd_same]
      · rw [upd_ne hne] at hdx
        exact hdx
      · have hd : H dx = none := by
          rw [upd_ne hne] at hdx
          exact hdx
        refine h0 rfl _ dx (fun b o e => ?_) upd_same
        have nb := ne_of_none e ha
        have nd := ne_of_none e hd
        rw [upd_ne nd, del_ne nb, upd_ne nb, upd_ne nd, upd_ne nb]
        exact e

/-! ### Words -/
theorem nHT : ¬ (("heads" : Str) = "tails") := by decide +kernel
def flW (ha ta : Addr) : List (Str × V) := [("heads", .ref ha), ("tails", .ref ta)]
theorem flW_heads (ha ta : Addr) : (flW ha ta).lookup ("heads" : Str) = some (.ref ha) := lk_here
theorem flW_tails (ha ta : Addr) : (flW ha ta).lookup ("tails" : Str) = some (.ref ta) := (lk_past (by decide +kernel)).trans lk_here
theorem flW_no {m : Str} (h1 : (m == ("heads" : Str)) = false) (h2 : (m == ("tails" : Str)) = false) (ha ta : Addr) : (flW ha ta).lookup m = none := (lk_past h1).trans ((lk_past h2).trans rfl)
theorem flW_new (ha ta : Addr) : putF "tails" (.ref ta) (putF "heads" (.ref ha) []) = flW ha ta := (put_past nHT).trans rfl
/-- Words at wa: its lists at ha, ta -/
structure WordsAt (CW : Addr) (H : Hp) (wa ha ta : Addr) (ws : Words) : Prop where
  ob : ∃ dx, H wa = some (.ins CW dx (flW ha ta))
  hd : H ha = some (.lst (vn (ws.map (·.1))))
  tl : H ta = some (.lst (vn (ws.map (·.2))))
theorem WordsAt.same {H H' : Hp} {wa ha ta : Addr} {ws : Words} (h : WordsAt CW H wa ha ta ws) (s : Same H H') : WordsAt CW H' wa ha ta ws :=
  ⟨let ⟨dx, e⟩ := h.ob; ⟨dx, s _ _ e⟩, s _ _ h.hd, s _ _ h.tl⟩
/-- words in order: at most nine, letters below 8 -/
structure WordsOk (ws : Words) : Prop where
  many : ws.length ≤ 9
  small : WM.Small ws
theorem first_get {ws : Words} {i : Nat} (h : i < ws.length) : (ws.map (·.1))[i]? = some (Uw94.first ws i) := by
  rw [List.getElem?_map, List.getElem?_eq_getElem h]
  unfold Uw94.first
  rw [List.getD_eq_getElem?_getD, List.getElem?_eq_getElem h]
  rfl
theorem last_get {ws : Words} {i : Nat} (h : i < ws.length) : (ws.map (·.2))[i]? = some (Uw94.last ws i) := by
  rw [List.getElem?_map, List.getElem?_eq_getElem h]
  unfold Uw94.last
  rw [List.getD_eq_getElem?_getD, List.getElem?_eq_getElem h]
  rfl

def spWI (CW : Addr) : Sp := fun vs H Q _ => ∃ (p dx : Addr), vs = [.ref p] ∧ H p = some (.ins CW dx []) ∧
  ∀ (ha ta : Addr) (H' : Hp), H ha = none → H ta = none → ha ≠ ta → WordsAt CW H' p ha ta [] → (∀ b o, H b = some o → b ≠ p → H' b = some o) → Q .non H'
theorem scWI : FnScope ["self"] ["self"] (defScope sWI) := ⟨rfl, rfl, rfl, by decide +kernel, rfl, by decide +kernel, by decide +kernel⟩
theorem can_wi (D : DefI K mg CW "Words" "Words.__init__" sWI ["self"]) (T : TW K CW) : CanI P w K mg base 1 CW "Words" ["self"] (spWI CW) := by
  refine D.can scWI (fun vs H Q E h => ?_) (fun f cdv A outer s H vs Q E hr h => ?_)
  · obtain ⟨p, dx, rfl, _⟩ := h
    rfl
  · obtain ⟨p, dx, rfl, hp, k⟩ := h
    refine ⟨_, pss_cons (ps_fld (pv 0) (pe_lst pa_nil) rfl) (pss_one (ps_fld (pv 0) (pe_lst pa_nil) rfl)), ?_⟩
    refine ⟨(by show 0 ≤ sizeLine; exact Nat.zero_le _), fun ha na => ?_⟩
    have npa : p ≠ ha := ne_of_none hp na
    refine ⟨_, rfl, p, CW, dx, [], rfl, (by rw [upd_ne npa]; exact hp), T.cl, T.nH, (by show 0 < 1000; decide), ?_⟩
    refine ⟨(by show 0 ≤ sizeLine; exact Nat.zero_le _), fun ta nt => ?_⟩
    have npt : ta ≠ p := fun z => by
      rw [z, upd_same] at nt
      cases nt
    have nat : ta ≠ ha := fun z => by
      rw [z, upd_ne npa.symm, upd_same] at nt
      cases nt
    have nt0 : H ta = none := by
      rw [upd_ne npt, upd_ne nat] at nt
      exact nt
    refine ⟨_, rfl, p, CW, dx, _, rfl, (by rw [upd_ne npt.symm, upd_same]), T.cl, T.nT, (by show 1 < 1000; decide), ?_⟩
    refine k ha ta _ na nt0 nat.symm ⟨⟨dx, upd_same.trans (congrArg (fun l => some (HO.ins CW dx l)) (flW_new ha ta))⟩, ?_, ?_⟩ fun b o e hb => ?_
    · rw [upd_ne npa.symm, upd_ne nat.symm, upd_ne npa.symm, upd_same]
      rfl
    · rw [upd_ne npt, upd_same]
      rfl
    · rw [upd_ne hb, upd_ne (ne_of_none e nt0), upd_ne hb, upd_ne (ne_of_none e na)]
      exact e

def spMany (CW : Addr) : Sp := fun vs H Q _ => ∃ (wa ha ta : Addr) (ws : Words), vs = [.ref wa] ∧ WordsAt CW H wa ha ta ws ∧ Q (.int (ws.length : Int)) H
theorem scMany : FnScope ["self"] ["self"] (defScope sMany) := ⟨rfl, rfl, rfl, by decide +kernel, rfl, by decide +kernel, by decide +kernel⟩
theorem can_many (D : DefM K CW "many" "Words.many" sMany ["self"]) (T : TW K CW) (U : TK mg) : CanM P w K mg base CX0 1 CW "many" ["self"] (spMany CW) := by
  refine D.can scMany (fun vs H Q E h => ?_) (fun f cdv A outer s H vs Q E hr h => ?_)
  · obtain ⟨wa, ha, ta, ws, rfl, _⟩ := h
    rfl
  · obtain ⟨wa, ha, ta, ws, rfl, W, k⟩ := h
    obtain ⟨dx, h1⟩ := W.ob
    refine ⟨_, pss_one (ps_ret (pe_callB call_len_seq (by rfl) U.len PySem.boot_len (pa_cons (pe_fld (pv 0) rfl) pa_nil))), ?_⟩
    refine ⟨_, rfl, wa, CW, dx, _, _, rfl, h1, T.cl, T.nH, flW_heads _ _, _, _, rfl, .inl (SqL.of W.hd), ?_⟩
    rw [vn_len, List.length_map]
    exact k

def spPut (CW : Addr) : Sp := fun vs H Q _ => ∃ (wa ha ta : Addr) (ws : Words) (a b : Nat), vs = [.ref wa, .int (a : Int), .int (b : Int)] ∧ WordsAt CW H wa ha ta ws ∧ ha ≠ ta ∧ ws.length ≤ 9 ∧
  Q (.int (ws.length : Int)) (upd (upd H ha (.lst (vn (ws.map (·.1) ++ [a])))) ta (.lst (vn (ws.map (·.2) ++ [b]))))
theorem scPut : FnScope ["self", "head", "tail", "number"] ["self", "head", "tail"] (defScope sPut) := ⟨rfl, rfl, rfl, by decide +kernel, rfl, by decide +kernel, by decide +kernel⟩
theorem can_put (D : DefM K CW "put" "Words.put" sPut ["self", "head", "tail"]) (T : TW K CW) (U : TK mg) : CanM P w K mg base CX0 1 CW "put" ["self", "head", "tail"] (spPut CW) := by
  refine D.can scPut (fun vs H Q E h => ?_) (fun f cdv A outer s H vs Q E hr h => ?_)
  · obtain ⟨wa, ha, ta, ws, a, b, rfl, _⟩ := h
    rfl
  · obtain ⟨wa, ha, ta, ws, a, b, rfl, W, hne, hl, k⟩ := h
    obtain ⟨dx, h1⟩ := W.ob
    refine ⟨_, pss_cons (ps_set (i := 3) scPut.nd rfl (Or.inl rfl) (pe_callB call_len_seq (by rfl) U.len PySem.boot_len (pa_cons (pe_fld (pv 0) rfl) pa_nil)))
      (pss_cons (ps_expr (pe_bm PySem.F.plainAttrs_list PySem.F.slot_list_append PySem.F.type_list_append mt_append (pe_fld (pv 0) rfl) (pa_cons (pv 1) pa_nil)))
      (pss_cons (ps_expr (pe_bm PySem.F.plainAttrs_list PySem.F.slot_list_append PySem.F.type_list_append mt_append (pe_fld (pv 0) rfl) (pa_cons (pv 2) pa_nil)))
      (pss_one (ps_ret (pv 3))))), ?_⟩
    refine ⟨_, rfl, wa, CW, dx, _, _, rfl, h1, T.cl, T.nH, flW_heads _ _, _, _, rfl, .inl (SqL.of W.hd), ?_⟩
    have nwh : wa ≠ ha := ne_of h1 W.hd (by intro z; cases z)
    have el : (vn (ws.map (·.1))).length = ws.length := by rw [vn_len, List.length_map]
    have el2 : (vn (ws.map (·.2))).length = ws.length := by rw [vn_len, List.length_map]
    refine ⟨_, rfl, wa, CW, dx, _, _, rfl, h1, T.cl, T.nH, flW_heads _ _, .inl ⟨rfl, _, SqL.of W.hd⟩, _, rfl, ha, _, _, rfl, rfl, W.hd, small1000 (by omega), ?_⟩
    refine ⟨_, rfl, wa, CW, dx, _, _, rfl, (by rw [upd_ne nwh]; exact h1), T.cl, T.nT, flW_tails _ _, .inl ⟨rfl, _, SqL.of (by rw [upd_ne hne.symm]; exact W.tl)⟩, _, rfl, ta, _, _, rfl, rfl, (by rw [upd_ne hne.symm]; exact W.tl), small1000 (by omega), ?_⟩
    refine ⟨_, rfl, ?_⟩
    have e1 : vn (ws.map (·.1)) ++ [V.int (a : Int)] = vn (ws.map (·.1) ++ [a]) := by
      unfold vn
      rw [List.map_append]
      rfl
    have e2 : vn (ws.map (·.2)) ++ [V.int (b : Int)] = vn (ws.map (·.2) ++ [b]) := by
      unfold vn
      rw [List.map_append]
      rfl
    rw [e1, e2, el]
    exact k

def spTail (CW : Addr) : Sp := fun vs H Q _ => ∃ (wa ha ta : Addr) (ws : Words) (i : Nat), vs = [.ref wa, .int (i : Int)] ∧ WordsAt CW H wa ha ta ws ∧ i < ws.length ∧ Q (.int ((Uw94.last ws i : Nat) : Int)) H
theorem scTail : FnScope ["self", "word"] ["self", "word"] (defScope sTail) := ⟨rfl, rfl, rfl, by decide +kernel, rfl, by decide +kernel, by decide +kernel⟩
theorem can_tail (D : DefM K CW "tail_of" "Words.tail_of" sTail ["self", "word"]) (T : TW K CW) : CanM P w K mg base CX0 1 CW "tail_of" ["self", "word"] (spTail CW) := by
  refine D.can scTail (fun vs H Q E h => ?_) (fun f cdv A outer s H vs Q E hr h => ?_)
  · obtain ⟨wa, ha, ta, ws, i, rfl, _⟩ := h
    rfl
  · obtain ⟨wa, ha, ta, ws, i, rfl, W, hi, k⟩ := h
    obtain ⟨dx, h1⟩ := W.ob
    refine ⟨_, pss_one (ps_ret (pe_ix ix_list (pe_fld (pv 0) rfl) (pv 1) (fun _ _ => rfl))), ?_⟩
    exact ⟨_, rfl, wa, CW, dx, _, _, rfl, h1, T.cl, T.nT, flW_tails _ _, _, rfl, ta, _, _, _, rfl, rfl, SqL.of W.tl, atI_nat (vn_get (last_get hi)), k⟩

def spBegins (CW : Addr) : Sp := fun vs H Q _ => ∃ (wa ha ta : Addr) (ws : Words) (i l : Nat), vs = [.ref wa, .int (i : Int), .int (l : Int)] ∧ WordsAt CW H wa ha ta ws ∧ i < ws.length ∧ Q (.bl (WM.begB ws i l)) H
theorem scBegins : FnScope ["self", "word", "letter"] ["self", "word", "letter"] (defScope sBegins) := ⟨rfl, rfl, rfl, by decide +kernel, rfl, by decide +kernel, by decide +kernel⟩
theorem dec_nat (a b : Nat) : decide (V.int (a : Int) = V.int (b : Int)) = (a == b) := by
  rw [dec_int, Bool.eq_iff_iff, beq_iff_eq, beq_iff_eq]
  omega
theorem can_begins (D : DefM K CW "begins" "Words.begins" sBegins ["self", "word", "letter"]) (T : TW K CW) (U : TK mg) : CanM P w K mg base CX0 1 CW "begins" ["self", "word", "letter"] (spBegins CW) := by
  refine D.can scBegins (fun vs H Q E h => ?_) (fun f cdv A outer s H vs Q E hr h => ?_)
  · obtain ⟨wa, ha, ta, ws, i, l, rfl, _⟩ := h
    rfl
  · obtain ⟨wa, ha, ta, ws, i, l, rfl, W, hi, k⟩ := h
    obtain ⟨dx, h1⟩ := W.ob
    refine ⟨_, pss_one (ps_ret (pe_or (pe_cmpR op_eq (pv 2) (pe_k U.any) (nomark _)) (pe_one (pe_cmpR op_eq (pe_ix ix_list (pe_fld (pv 0) rfl) (pv 1) (fun _ _ => rfl)) (pv 2) (nomark _))))), ?_⟩
    have e8 : decide (V.int (l : Int) = V.int 8) = (l == 8) := dec_nat l 8
    refine ⟨_, rfl, rfl, _, rfl, ?_⟩
    rw [e8]
    by_cases c : (l == 8) = true
    · refine if_true_of c ?_
      have e : WM.begB ws i l = true := by unfold WM.begB; rw [c]; rfl
      rw [e] at k
      exact k
    · have c' : (l == 8) = false := by simpa using c
      refine if_false_of c' ?_
      refine ⟨_, rfl, wa, CW, dx, _, _, rfl, h1, T.cl, T.nH, flW_heads _ _, _, rfl, ha, _, _, _, rfl, rfl, SqL.of W.hd, atI_nat (vn_get (first_get hi)), _, rfl, rfl, ?_⟩
      rw [dec_nat]
      have e : WM.begB ws i l = (Uw94.first ws i == l) := by unfold WM.begB; rw [c']; rfl
      rw [e] at k
      exact k

/-! ### the bits of a number -/
theorem shl_one (i : Nat) : (1 : Int) * 2 ^ ((i : Int)).toNat = ((2 ^ i : Nat) : Int) := by
  rw [Int.one_mul, Int.toNat_natCast]
  exact two_pow_cast i
theorem or_nat (a b : Nat) : Builtin.bitOr (a : Int) (b : Int) = ((a ||| b : Nat) : Int) := by
  rw [Bits.bitOr_pp (Int.natCast_nonneg _) (Int.natCast_nonneg _), Int.toNat_natCast, Int.toNat_natCast]
theorem bit_nat (g i : Nat) : decide (V.int (Builtin.bitAnd ((g : Int) / 2 ^ ((i : Int)).toNat) 1) = V.int 1) = g.testBit i := by
  rw [dec_int, bitAnd_m1, Int.toNat_natCast, two_pow_cast, Nat.testBit_eq_decide_div_mod_eq]
  have e : ((g : Int) / ((2 ^ i : Nat) : Int)) % 2 = ((g / 2 ^ i % 2 : Nat) : Int) := by
    rw [Int.natCast_emod, Int.natCast_ediv]
    rfl
  rw [e, Bool.eq_iff_iff, beq_iff_eq, decide_eq_true_eq]
  omega
def spIsGone : Sp := fun vs H Q _ => ∃ (g i : Nat), vs = [.int (g : Int), .int (i : Int)] ∧ Q (.bl (g.testBit i)) H
theorem scIsGone : FnScope ["gone", "word"] ["gone", "word"] (defScope sIsGone) := ⟨rfl, rfl, rfl, by decide +kernel, rfl, by decide +kernel, by decide +kernel⟩
theorem can_isGone (D : Def K mg "is_gone" sIsGone ["gone", "word"]) : Can P w K mg base CX0 1 "is_gone" ["gone", "word"] spIsGone := by
  refine D.can scIsGone (fun vs H Q E h => ?_) (fun f cdv A outer s H vs Q E hr h => ?_)
  · obtain ⟨g, i, rfl, _⟩ := h
    rfl
  · obtain ⟨g, i, rfl, k⟩ := h
    refine ⟨_, pss_one (ps_ret (pe_cmpR op_eq (pe_op op_and (pe_op op_shr (pv 0) (pv 1)) pe_int) pe_int (nomark _))), ?_⟩
    refine ⟨_, rfl, _, rfl, _, _, rfl, rfl, Int.natCast_nonneg _, _, _, rfl, rfl, rfl, ?_⟩
    exact q_bl (bit_nat g i) k
def spWith : Sp := fun vs H Q _ => ∃ (g i : Nat), vs = [.int (g : Int), .int (i : Int)] ∧ i ≤ 1000 ∧ Q (.int ((g ||| 2 ^ i : Nat) : Int)) H
theorem scWith : FnScope ["gone", "word"] ["gone", "word"] (defScope sWith) := ⟨rfl, rfl, rfl, by decide +kernel, rfl, by decide +kernel, by decide +kernel⟩
theorem can_with (D : Def K mg "with_word" sWith ["gone", "word"]) : Can P w K mg base CX0 1 "with_word" ["gone", "word"] spWith := by
  refine D.can scWith (fun vs H Q E h => ?_) (fun f cdv A outer s H vs Q E hr h => ?_)
  · obtain ⟨g, i, rfl, _⟩ := h
    rfl
  · obtain ⟨g, i, rfl, hi, k⟩ := h
    refine ⟨_, pss_one (ps_ret (pe_op op_or (pv 0) (pe_op op_shl pe_int (pv 1)))), ?_⟩
    refine ⟨_, rfl, _, rfl, _, _, rfl, rfl, ⟨Int.natCast_nonneg _, by omega, by decide⟩, _, _, rfl, rfl, ?_⟩
    exact q_int (by rw [shl_one, or_nat]) k
def spAllGone (CW : Addr) : Sp := fun vs H Q _ => ∃ (wa ha ta : Addr) (ws : Words), vs = [.ref wa] ∧ WordsAt CW H wa ha ta ws ∧ ws.length ≤ 9 ∧ Q (.int ((WM.allG ws : Nat) : Int)) H
theorem scAllGone : FnScope ["words"] ["words"] (defScope sAllGone) := ⟨rfl, rfl, rfl, by decide +kernel, rfl, by decide +kernel, by decide +kernel⟩
theorem can_allGone (D : Def K mg "all_gone" sAllGone ["words"]) (T : TW K CW) (cM : CanM P w K mg base CX0 1 CW "many" ["self"] (spMany CW)) : Can P w K mg base CX0 2 "all_gone" ["words"] (spAllGone CW) := by
  refine D.can scAllGone (fun vs H Q E h => ?_) (fun f cdv A outer s H vs Q E hr h => ?_)
  · obtain ⟨wa, ha, ta, ws, rfl, _⟩ := h
    rfl
  · obtain ⟨wa, ha, ta, ws, rfl, W, hl, k⟩ := h
    obtain ⟨dx, h1⟩ := W.ob
    refine ⟨_, pss_one (ps_ret (pe_op op_sub (pe_op op_shl pe_int (pe_mn cM T.cl (pv 0) hr)) pe_int)), ?_⟩
    refine ⟨_, rfl, wa, dx, _, rfl, h1, flW_no (by decide +kernel) (by decide +kernel) _ _, wa, ha, ta, ws, rfl, W, _, _, rfl, rfl, ⟨Int.natCast_nonneg _, by omega, by decide⟩, _, _, rfl, rfl, ?_⟩
    have e : ((2 ^ ws.length : Nat) : Int) - 1 = ((WM.allG ws : Nat) : Int) := by
      have := Nat.two_pow_pos ws.length
      unfold WM.allG
      omega
    exact q_int (by rw [shl_one, e]) k
def spGoneOf (K : PySem.W.Frag) : Sp := fun vs H Q _ => ∃ (sp : Addr) (said : List Nat), vs = [.ref sp] ∧ SqL K H sp (vn said) ∧ (∀ i ∈ said, i ≤ 1000) ∧ Q (.int ((WM.goneL said : Nat) : Int)) H
theorem scGoneOf : FnScope ["some", "gone", "word"] ["some"] (defScope sGoneOf) := ⟨rfl, rfl, rfl, by decide +kernel, rfl, by decide +kernel, by decide +kernel⟩
theorem goneL_succ {said : List Nat} {i n : Nat} (h : said[i]? = some n) : WM.goneL (said.take (i + 1)) = WM.goneL (said.take i) ||| 2 ^ n := by
  unfold WM.goneL
  rw [List.take_succ, h, List.foldl_append]
  rfl
theorem can_goneOf (D : Def K mg "gone_of" sGoneOf ["some"]) (cW : Can P w K mg base CX0 1 "with_word" ["gone", "word"] spWith) : Can P w K mg base CX0 2 "gone_of" ["some"] (spGoneOf K) := by
  refine D.can scGoneOf (fun vs H Q E h => ?_) (fun f cdv A outer s H vs Q E hr h => ?_)
  · obtain ⟨sp, said, rfl, _⟩ := h
    rfl
  · obtain ⟨sp, said, rfl, hS, hb, k⟩ := h
    refine ⟨_, pss_cons (ps_set (i := 1) scGoneOf.nd rfl (Or.inl rfl) pe_int)
      (pss_cons (ps_for PassesOwn.never rfl (pi_list (pv 0)) (pg_name (i := 2) scGoneOf.nd rfl (Or.inl rfl))
        (pss_one (ps_set (i := 1) scGoneOf.nd rfl (Or.inl rfl) (pe_fn cW hr (pa_cons (pv 1) (pa_cons (pv 2) pa_nil))))))
      (pss_one (ps_ret (pv 1)))), ?_⟩
    refine ⟨_, rfl, sp, rfl, ⟨_, hS⟩, for_list (K := K) (a := sp) (xs := vn said) (fun i σ H' => ∃ v : Option V, σ = [some (.ref sp), some (.int ((WM.goneL (said.take i) : Nat) : Int)), v] ∧ H' = H)
      ⟨none, rfl, rfl⟩ (fun i σ H' _ ⟨_, _, e⟩ => by rw [e]; exact hS) ?_ ?_⟩
    · rintro i y σ H' hi ⟨v, rfl, rfl⟩
      obtain ⟨n, hn, rfl⟩ := vn_inv hi
      refine ⟨_, rfl, _, rfl, _, _, rfl, hb n (List.mem_of_getElem? hn), ⟨some (.int (n : Int)), ?_, rfl⟩⟩
      rw [goneL_succ hn]
      rfl
    · rintro σ H' ⟨v, rfl, rfl⟩
      rw [vn_len, List.take_length]
      exact ⟨_, rfl, k⟩
end
end WC

/-! W1b: the words that are left, the words that can be said. -/
namespace WC
open PySem PySem.Spec PyProof.Rows L2
open Uw94 (Words)
section
variable {P : Program} {w : World} {K : PySem.W.Frag} {mg : Str → Option Value} {base : Heap} {CW : Addr}
theorem range_vn (m : Nat) (c : Nat → Bool) : (((List.range m).filter c).map fun (n : Nat) => V.int (n : Int)) = vn ((List.range m).filter c) := rfl
def spLeft (CW : Addr) : Sp := fun vs H Q _ => ∃ (wa ha ta : Addr) (ws : Words) (g : Nat), vs = [.ref wa, .int (g : Int)] ∧ WordsAt CW H wa ha ta ws ∧ ws.length ≤ 9 ∧
  ∀ (p : Addr) (H' : Hp), Same H H' → H p = none → H' p = some (.lst (vn (WM.leftL ws g))) → Q (.ref p) H'
theorem scLeft : FnScope ["self", "gone", "word"] ["self", "gone"] (defScope sLeft) := ⟨rfl, rfl, rfl, by decide +kernel, rfl, by decide +kernel, by decide +kernel⟩
theorem can_left (D : DefM K CW "left" "Words.left" sLeft ["self", "gone"]) (T : TW K CW) (U : TK mg) (cG : Can P w K mg base CX0 1 "is_gone" ["gone", "word"] spIsGone) : CanM P w K mg base CX0 2 CW "left" ["self", "gone"] (spLeft CW) := by
  refine D.can scLeft (fun vs H Q E h => ?_) (fun f cdv A outer s H vs Q E hr h => ?_)
  · obtain ⟨wa, ha, ta, ws, g, rfl, _⟩ := h
    rfl
  · obtain ⟨wa, ha, ta, ws, g, rfl, W, hl, k⟩ := h
    obtain ⟨dx, h1⟩ := W.ob
    refine ⟨_, pss_one (ps_ret (pe_lc (own := [("word", 2)]) (g := gName 2) rfl scLeft.nd
      (pi_range1 rfl U.range (pa_cons (pe_callB call_len_seq (by rfl) U.len PySem.boot_len (pa_cons (pe_fld (pv 0) rfl) pa_nil)) pa_nil))
      (blkOk_by (N := ["self", "gone", "word"]) (sc := defScope sLeft) (by decide +kernel)) (fun _ _ _ _ _ => pg_name (i := 2) scLeft.nd rfl (Or.inl rfl))
      (fun _ _ _ _ _ => pts_one (pt_not (pt_val (pe_fn cG hr (pa_cons (pv 1) (pa_cons (pv 2) pa_nil)))))) (fun _ _ _ _ _ => pv 2))), ?_⟩
    have el : (vn (ws.map (·.1))).length = ws.length := by rw [vn_len, List.length_map]
    refine ⟨_, rfl, wa, CW, dx, _, _, rfl, h1, T.cl, T.nH, flW_heads _ _, _, _, rfl, .inl (SqL.of W.hd), (ws.length : Int), by rw [el], by omega, by omega, fun D hD => ?_⟩
    refine lc_pureR (m := ws.length) (fun i => !g.testBit i) (fun (n : Nat) => V.int (n : Int)) (by omega) hD (fun n H1 hn s1 R1 R0 c1 c0 => ?_) fun H1 s1 e1 => k D H1 s1 hD e1
    refine ⟨rfl, _, rfl, _, rfl, g, n, rfl, _, rfl, ?_⟩
    cases e : g.testBit n with
    | true => exact if_false_of rfl (c0 (by rw [e]; rfl) H1 (Same.refl H1))
    | false => exact if_true_of rfl ⟨_, rfl, c1 (by rw [e]; rfl) H1 (Same.refl H1)⟩
def spNext (CW : Addr) : Sp := fun vs H Q _ => ∃ (wa ha ta : Addr) (ws : Words) (g l : Nat), vs = [.ref wa, .int (g : Int), .int (l : Int)] ∧ WordsAt CW H wa ha ta ws ∧ ws.length ≤ 9 ∧
  ∀ (p : Addr) (H' : Hp), Same H H' → H p = none → H' p = some (.lst (vn (WM.nextL ws g l))) → Q (.ref p) H'
theorem scNext : FnScope ["self", "gone", "letter", "word"] ["self", "gone", "letter"] (defScope sNext) := ⟨rfl, rfl, rfl, by decide +kernel, rfl, by decide +kernel, by decide +kernel⟩
theorem can_next (D : DefM K CW "next_ones" "Words.next_ones" sNext ["self", "gone", "letter"]) (T : TW K CW) (cL : CanM P w K mg base CX0 2 CW "left" ["self", "gone"] (spLeft CW)) (cB : CanM P w K mg base CX0 1 CW "begins" ["self", "word", "letter"] (spBegins CW)) :
    CanM P w K mg base CX0 3 CW "next_ones" ["self", "gone", "letter"] (spNext CW) := by
  refine D.can scNext (fun vs H Q E h => ?_) (fun f cdv A outer s H vs Q E hr h => ?_)
  · obtain ⟨wa, ha, ta, ws, g, l, rfl, _⟩ := h
    rfl
  · obtain ⟨wa, ha, ta, ws, g, l, rfl, W, hl, k⟩ := h
    obtain ⟨dx, h1⟩ := W.ob
    refine ⟨_, pss_one (ps_ret (pe_lc (own := [("word", 3)]) (g := gName 3) rfl scNext.nd
      (pi_list (pe_mt cL T.cl (pv 0) hr (pa_cons (pv 1) pa_nil)))
      (blkOk_by (N := ["self", "gone", "letter", "word"]) (sc := defScope sNext) (by decide +kernel)) (fun _ _ _ _ _ => pg_name (i := 3) scNext.nd rfl (Or.inl rfl))
      (fun _ _ _ _ _ => pts_one (pt_val (pe_mt cB T.cl (pv 0) hr (pa_cons (pv 3) (pa_cons (pv 2) pa_nil))))) (fun _ _ _ _ _ => pv 3))), ?_⟩
    refine ⟨_, rfl, wa, dx, _, rfl, h1, flW_no (by decide +kernel) (by decide +kernel) _ _, _, rfl, wa, ha, ta, ws, g, rfl, W, hl, fun p H1 s1 np hp => ?_⟩
    refine ⟨p, rfl, ⟨_, SqL.of hp⟩, fun D hD => ?_⟩
    refine lc_pure (ns := WM.leftL ws g) (fun i => WM.begB ws i l) (fun (n : Nat) => V.int (n : Int)) (Nat.le_trans WM.left_length (by omega)) (SqL.of hp) hD (fun n H2 hn s2 R1 R0 c1 c0 => ?_) fun H2 s2 e2 => k D H2 (s1.trans s2) (s1.free hD) e2
    have W2 := (W.same s1).same s2
    obtain ⟨dx2, h2⟩ := W2.ob
    refine ⟨rfl, _, rfl, wa, dx2, _, rfl, h2, flW_no (by decide +kernel) (by decide +kernel) _ _, _, rfl, _, rfl, wa, ha, ta, ws, n, l, rfl, W2, (WM.mem_left.mp hn).1, _, rfl, ?_⟩
    cases e : WM.begB ws n l with
    | true => exact if_true_of rfl ⟨_, rfl, c1 e H2 (Same.refl H2)⟩
    | false => exact if_false_of rfl (c0 e H2 (Same.refl H2))
end
end WC

/-! W2: the worths of the five tables. -/
namespace WC
open PySem PySem.Spec PyProof.Rows L2
open Uw94 (Words)
abbrev sBehind : Stmt := top 18
abbrev sWin : Stmt := top 19
abbrev sLong : Stmt := top 20
abbrev sTotal : Stmt := top 21
abbrev sWays : Stmt := top 22
abbrev sChains : Stmt := top 23
abbrev sNewC : Stmt := top 24
abbrev sFew : Stmt := top 25
abbrev sWorth : Stmt := top 26

structure TKs (mg : Str → Option Value) : Prop where
  wins : ∃ t, mg "WINS" = some (.int 0 t)
  longest : ∃ t, mg "LONGEST" = some (.int 1 t)
  ways : ∃ t, mg "WAYS" = some (.int 2 t)
  chains : ∃ t, mg "CHAINS" = some (.int 3 t)
  fewest : ∃ t, mg "FEWEST" = some (.int 4 t)

/-- rows at r: one for each number of gone words, from lo on filled with v -/
structure RowsV (H : Hp) (r : Addr) (lo N : Nat) (v : Nat → Nat → Nat) : Prop where
  ex : ∃ rs : List V, H r = some (.lst rs) ∧ rs.length = N ∧ ∀ i, lo ≤ i → i < N → ∃ q, rs[i]? = some (.ref q) ∧ H q = some (.lst (vn ((List.range 9).map (v i))))
theorem RowsV.same {H H' : Hp} {r : Addr} {lo N : Nat} {v : Nat → Nat → Nat} (h : RowsV H r lo N v) (s : Same H H') : RowsV H' r lo N v := by
  obtain ⟨rs, h1, h2, h3⟩ := h.ex
  refine ⟨rs, s _ _ h1, h2, fun i a b => ?_⟩
  obtain ⟨q, h4, h5⟩ := h3 i a b
  exact ⟨q, h4, s _ _ h5⟩
theorem row_get {v : Nat → Nat} {l : Nat} (h : l ≤ 8) : (vn ((List.range 9).map v))[l]? = some (V.int ((v l : Nat) : Int)) := by
  refine vn_get ?_
  rw [List.getElem?_map, List.getElem?_range (by omega)]
  rfl

section
variable {P : Program} {w : World} {K : PySem.W.Frag} {mg : Str → Option Value} {base : Heap} {CW : Addr}

def spBehind (CW : Addr) : Sp := fun vs H Q _ => ∃ (wa ha ta r : Addr) (ws : Words) (lo N : Nat) (v : Nat → Nat → Nat) (g i : Nat), vs = [.ref wa, .ref r, .int (g : Int), .int (i : Int)] ∧ WordsAt CW H wa ha ta ws ∧ WordsOk ws ∧ i < ws.length ∧
  RowsV H r lo N v ∧ lo ≤ g ||| 2 ^ i ∧ g ||| 2 ^ i < N ∧ Q (.int ((WM.bh ws v g i : Nat) : Int)) H
theorem scBehind : FnScope ["words", "rows", "gone", "word"] ["words", "rows", "gone", "word"] (defScope sBehind) := ⟨rfl, rfl, rfl, by decide +kernel, rfl, by decide +kernel, by decide +kernel⟩
theorem can_behind (D : Def K mg "behind" sBehind ["words", "rows", "gone", "word"]) (T : TW K CW) (cW : Can P w K mg base CX0 1 "with_word" ["gone", "word"] spWith) (cT : CanM P w K mg base CX0 1 CW "tail_of" ["self", "word"] (spTail CW)) :
    Can P w K mg base CX0 2 "behind" ["words", "rows", "gone", "word"] (spBehind CW) := by
  refine D.can scBehind (fun vs H Q E h => ?_) (fun f cdv A outer s H vs Q E hr h => ?_)
  · obtain ⟨wa, ha, ta, r, ws, lo, N, v, g, i, rfl, _⟩ := h
    rfl
  · obtain ⟨wa, ha, ta, r, ws, lo, N, v, g, i, rfl, W, O, hi, R, h1, h2, k⟩ := h
    obtain ⟨dx, hw⟩ := W.ob
    obtain ⟨rs, hR, hN, hq⟩ := R.ex
    obtain ⟨q, e1, e2⟩ := hq _ h1 h2
    have h9 := O.many
    refine ⟨_, pss_one (ps_ret (pe_ix ix_list (pe_ix ix_list (pv 1) (pe_fn cW hr (pa_cons (pv 2) (pa_cons (pv 3) pa_nil))) (fun _ _ => rfl)) (pe_mt cT T.cl (pv 0) hr (pa_cons (pv 3) pa_nil)) (fun _ _ => rfl))), ?_⟩
    refine ⟨_, rfl, _, rfl, _, rfl, g, i, rfl, by omega, r, rs, _, _, rfl, rfl, SqL.of hR, atI_nat e1, ?_⟩
    refine ⟨_, rfl, wa, dx, _, rfl, hw, flW_no (by decide +kernel) (by decide +kernel) _ _, _, rfl, wa, ha, ta, ws, i, rfl, W, hi, ?_⟩
    exact ⟨q, _, _, _, rfl, rfl, SqL.of e2, atI_nat (row_get (by have := O.small.last i; omega)), k⟩

/-- a worth is asked: the words, rows filled behind gone -/
structure WCtx (CW : Addr) (H : Hp) (wa r : Addr) (ws : Words) (v : Nat → Nat → Nat) (g l : Nat) : Prop where
  wat : ∃ ha ta, WordsAt CW H wa ha ta ws
  ok : WordsOk ws
  rows : RowsV H r (g + 1) (2 ^ ws.length) v
  hg : g < 2 ^ ws.length
  hl : l ≤ 8
theorem WCtx.same {H H' : Hp} {wa r : Addr} {ws : Words} {v : Nat → Nat → Nat} {g l : Nat} (h : WCtx CW H wa r ws v g l) (s : Same H H') : WCtx CW H' wa r ws v g l :=
  ⟨let ⟨ha, ta, W⟩ := h.wat; ⟨ha, ta, W.same s⟩, h.ok, h.rows.same s, h.hg, h.hl⟩
def spWorthF (CW : Addr) (f : Words → (Nat → Nat → Nat) → Nat → Nat → Nat) : Sp := fun vs H Q _ => ∃ (wa r : Addr) (ws : Words) (v : Nat → Nat → Nat) (g l : Nat), vs = [.ref wa, .ref r, .int (g : Int), .int (l : Int)] ∧ WCtx CW H wa r ws v g l ∧
  ∀ H', Same H H' → Q (.int ((f ws v g l : Nat) : Int)) H'
abbrev psW : List Str := ["words", "rows", "gone", "letter"]

theorem scWin : FnScope ["words", "rows", "gone", "letter", "word"] psW (defScope sWin) := ⟨rfl, rfl, rfl, by decide +kernel, rfl, by decide +kernel, by decide +kernel⟩
theorem can_win (D : Def K mg "win_worth" sWin psW) (T : TW K CW) (cN : CanM P w K mg base CX0 3 CW "next_ones" ["self", "gone", "letter"] (spNext CW)) (cB : Can P w K mg base CX0 2 "behind" ["words", "rows", "gone", "word"] (spBehind CW)) :
    Can P w K mg base CX0 4 "win_worth" psW (spWorthF CW WM.winM) := by
  refine D.can scWin (fun vs H Q E h => ?_) (fun f cdv A outer s H vs Q E hr h => ?_)
  · obtain ⟨wa, r, ws, v, g, l, rfl, _⟩ := h
    rfl
  · obtain ⟨wa, r, ws, v, g, l, rfl, C, k⟩ := h
    obtain ⟨ha, ta, W⟩ := C.wat
    obtain ⟨dx, h1⟩ := W.ob
    refine ⟨_, pss_cons (ps_for PassesOwn.never rfl (pi_list (pe_mt cN T.cl (pv 0) hr (pa_cons (pv 2) (pa_cons (pv 3) pa_nil)))) (pg_name (i := 4) scWin.nd rfl (Or.inl rfl))
        (pss_one (ps_if (pt_cmpR op_eq (pe_fn cB hr (pa_cons (pv 0) (pa_cons (pv 1) (pa_cons (pv 2) (pa_cons (pv 4) pa_nil))))) pe_int (nomark _)) (pss_one (ps_ret pe_int)) pss_nil)))
      (pss_one (ps_ret pe_int)), ?_⟩
    refine ⟨_, rfl, wa, dx, _, rfl, h1, flW_no (by decide +kernel) (by decide +kernel) _ _, _, rfl, _, rfl, wa, ha, ta, ws, g, l, rfl, W, C.ok.many, fun p H1 s1 np hp => ?_⟩
    refine ⟨p, rfl, ⟨_, SqL.of hp⟩, for_list (K := K) (a := p) (xs := vn (WM.nextL ws g l)) (fun i σ H' => ∃ x : Option V, σ = [some (.ref wa), some (.ref r), some (.int (g : Int)), some (.int (l : Int)), x] ∧ Same H1 H' ∧ ∀ n ∈ (WM.nextL ws g l).take i, ¬ WM.bh ws v g n = 0)
      ⟨none, rfl, Same.refl H1, fun n hn => by simp at hn⟩ (fun i σ H' _ ⟨_, _, s2, _⟩ => s2.seq (SqL.of hp)) ?_ ?_⟩
    · rintro i y σ H2 hi ⟨x, rfl, s2, hno⟩
      obtain ⟨n, hn, rfl⟩ := vn_inv hi
      have hmem := List.mem_of_getElem? hn
      have C2 := (C.same s1).same s2
      obtain ⟨ha2, ta2, W2⟩ := C2.wat
      have hi2 := WM.mem_left.mp (WM.next_left hmem)
      refine ⟨_, rfl, _, rfl, _, rfl, _, rfl, wa, ha2, ta2, r, ws, _, _, _, g, n, rfl, W2, C2.ok, hi2.1, C2.rows, WM.lt_or hi2.2, WM.or_lt C2.hg hi2.1, rfl, _, rfl, ?_⟩
      have e0 : decide (V.int ((WM.bh ws v g n : Nat) : Int) = V.int 0) = (WM.bh ws v g n == 0) := dec_nat _ 0
      by_cases c : WM.bh ws v g n = 0
      · refine if_true_of (by rw [e0, c]; rfl) ?_
        have e : WM.winM ws v g l = 1 := by
          unfold WM.winM
          rw [if_pos]
          exact List.any_eq_true.mpr ⟨n, hmem, by rw [c]; rfl⟩
        have q := k H2 (s1.trans s2)
        rw [e] at q
        exact q
      · refine if_false_of (by rw [e0]; simpa using c) ⟨some (.int (n : Int)), rfl, s2, fun m hm => ?_⟩
        rw [List.take_succ, hn] at hm
        rcases List.mem_append.mp hm with hm | hm
        · exact hno m hm
        · have e : m = n := by simpa using hm
          rw [e]
          exact c
    · rintro σ H2 ⟨x, rfl, s2, hno⟩
      rw [vn_len, List.take_length] at hno
      have e : WM.winM ws v g l = 0 := by
        unfold WM.winM
        rw [if_neg]
        intro h
        obtain ⟨n, hn, q⟩ := List.any_eq_true.mp h
        exact hno n hn (by simpa using q)
      have q := k H2 (s1.trans s2)
      rw [e] at q
      exact q

theorem scLong : FnScope ["words", "rows", "gone", "letter", "best", "word"] psW (defScope sLong) := ⟨rfl, rfl, rfl, by decide +kernel, rfl, by decide +kernel, by decide +kernel⟩
theorem max_int (a b : Nat) : (if (1 + (b : Int)) > (a : Int) then 1 + (b : Int) else (a : Int)) = ((max a (1 + b) : Nat) : Int) := by
  split <;> omega
theorem can_long (D : Def K mg "longest_worth" sLong psW) (T : TW K CW) (U : TK mg) (cN : CanM P w K mg base CX0 3 CW "next_ones" ["self", "gone", "letter"] (spNext CW)) (cB : Can P w K mg base CX0 2 "behind" ["words", "rows", "gone", "word"] (spBehind CW)) :
    Can P w K mg base CX0 4 "longest_worth" psW (spWorthF CW WM.longM) := by
  refine D.can scLong (fun vs H Q E h => ?_) (fun f cdv A outer s H vs Q E hr h => ?_)
  · obtain ⟨wa, r, ws, v, g, l, rfl, _⟩ := h
    rfl
  · obtain ⟨wa, r, ws, v, g, l, rfl, C, k⟩ := h
    obtain ⟨ha, ta, W⟩ := C.wat
    obtain ⟨dx, h1⟩ := W.ob
    refine ⟨_, pss_cons (ps_set (i := 4) scLong.nd rfl (Or.inl rfl) pe_int)
      (pss_cons (ps_for PassesOwn.never rfl (pi_list (pe_mt cN T.cl (pv 0) hr (pa_cons (pv 2) (pa_cons (pv 3) pa_nil)))) (pg_name (i := 5) scLong.nd rfl (Or.inl rfl))
        (pss_one (ps_set (i := 4) scLong.nd rfl (Or.inl rfl) (pe_callB (call_max2 rfl) (by rfl) U.max (by decide +kernel) (pa_cons (pv 4) (pa_cons (pe_op op_add pe_int (pe_fn cB hr (pa_cons (pv 0) (pa_cons (pv 1) (pa_cons (pv 2) (pa_cons (pv 5) pa_nil)))))) pa_nil))))))
      (pss_one (ps_ret (pv 4)))), ?_⟩
    refine ⟨_, rfl, wa, dx, _, rfl, h1, flW_no (by decide +kernel) (by decide +kernel) _ _, _, rfl, _, rfl, wa, ha, ta, ws, g, l, rfl, W, C.ok.many, fun p H1 s1 np hp => ?_⟩
    refine ⟨p, rfl, ⟨_, SqL.of hp⟩, for_list (K := K) (a := p) (xs := vn (WM.nextL ws g l)) (fun i σ H' => ∃ x : Option V, σ = [some (.ref wa), some (.ref r), some (.int (g : Int)), some (.int (l : Int)), some (.int ((((WM.nextL ws g l).take i).foldl (fun b i => max b (1 + WM.bh ws v g i)) 0 : Nat) : Int)), x] ∧ Same H1 H')
      ⟨none, rfl, Same.refl H1⟩ (fun i σ H' _ ⟨_, _, s2⟩ => s2.seq (SqL.of hp)) ?_ ?_⟩
    · rintro i y σ H2 hi ⟨x, rfl, s2⟩
      obtain ⟨n, hn, rfl⟩ := vn_inv hi
      have hmem := List.mem_of_getElem? hn
      have C2 := (C.same s1).same s2
      obtain ⟨ha2, ta2, W2⟩ := C2.wat
      have hi2 := WM.mem_left.mp (WM.next_left hmem)
      refine ⟨_, rfl, _, rfl, _, rfl, _, rfl, _, rfl, wa, ha2, ta2, r, ws, _, _, _, g, n, rfl, W2, C2.ok, hi2.1, C2.rows, WM.lt_or hi2.2, WM.or_lt C2.hg hi2.1, _, _, rfl, rfl, _, _, rfl, some (.int (n : Int)), ?_, s2⟩
      rw [List.take_succ, hn, List.foldl_append]
      show [some (V.ref wa), some (V.ref r), some (V.int (g : Int)), some (V.int (l : Int)), some (V.int (if (1 + ((WM.bh ws v g n : Nat) : Int)) > ((((WM.nextL ws g l).take i).foldl (fun b i => max b (1 + WM.bh ws v g i)) 0 : Nat) : Int) then 1 + ((WM.bh ws v g n : Nat) : Int) else ((((WM.nextL ws g l).take i).foldl (fun b i => max b (1 + WM.bh ws v g i)) 0 : Nat) : Int))), some (V.int (n : Int))] = _
      rw [max_int]
      rfl
    · rintro σ H2 ⟨x, rfl, s2⟩
      rw [vn_len, List.take_length]
      exact ⟨_, rfl, k H2 (s1.trans s2)⟩

theorem sum_cast (f : Nat → Nat) : ∀ l : List Nat, (l.map fun n => ((f n : Nat) : Int)).sum = (((l.map f).sum : Nat) : Int)
  | [] => rfl
  | x :: r => by
    rw [List.map_cons, List.sum_cons, List.map_cons, List.sum_cons, sum_cast f r]
    omega
theorem scTotal : FnScope ["words", "rows", "gone", "letter", "word"] psW (defScope sTotal) := ⟨rfl, rfl, rfl, by decide +kernel, rfl, by decide +kernel, by decide +kernel⟩
theorem can_total (D : Def K mg "total_behind" sTotal psW) (T : TW K CW) (U : TK mg) (cN : CanM P w K mg base CX0 3 CW "next_ones" ["self", "gone", "letter"] (spNext CW)) (cB : Can P w K mg base CX0 2 "behind" ["words", "rows", "gone", "word"] (spBehind CW)) :
    Can P w K mg base CX0 4 "total_behind" psW (spWorthF CW WM.totalM) := by
  refine D.can scTotal (fun vs H Q E h => ?_) (fun f cdv A outer s H vs Q E hr h => ?_)
  · obtain ⟨wa, r, ws, v, g, l, rfl, _⟩ := h
    rfl
  · obtain ⟨wa, r, ws, v, g, l, rfl, C, k⟩ := h
    obtain ⟨ha, ta, W⟩ := C.wat
    obtain ⟨dx, h1⟩ := W.ob
    refine ⟨_, pss_one (ps_ret (pe_callB (cr_sum rfl) (by rfl) U.sum (by decide +kernel) (pa_cons (pe_lc (own := [("word", 4)]) (g := gName 4) (tt := tYes) rfl scTotal.nd
      (pi_list (pe_mt cN T.cl (pv 0) hr (pa_cons (pv 2) (pa_cons (pv 3) pa_nil))))
      (blkOk_by (N := ["words", "rows", "gone", "letter", "word"]) (sc := defScope sTotal) (by decide +kernel)) (fun _ _ _ _ _ => pg_name (i := 4) scTotal.nd rfl (Or.inl rfl))
      (fun _ _ _ _ _ => pts_nil) (fun _ _ _ _ _ => pe_fn cB hr (pa_cons (pv 0) (pa_cons (pv 1) (pa_cons (pv 2) (pa_cons (pv 4) pa_nil)))))) pa_nil))), ?_⟩
    refine ⟨_, rfl, wa, dx, _, rfl, h1, flW_no (by decide +kernel) (by decide +kernel) _ _, _, rfl, _, rfl, wa, ha, ta, ws, g, l, rfl, W, C.ok.many, fun p H1 s1 np hp => ?_⟩
    refine ⟨p, rfl, ⟨_, SqL.of hp⟩, fun D hD => ?_⟩
    refine lc_pure (ns := WM.nextL ws g l) (fun _ => true) (fun (n : Nat) => V.int ((WM.bh ws v g n : Nat) : Int)) (Nat.le_trans WM.next_length (by have := C.ok.many; omega)) (SqL.of hp) hD (fun n H2 hn s2 R1 R0 c1 c0 => ?_) fun H2 s2 e2 => ?_
    · have C2 := (C.same s1).same s2
      obtain ⟨ha2, ta2, W2⟩ := C2.wat
      have hi2 := WM.mem_left.mp (WM.next_left hn)
      exact ⟨rfl, _, rfl, _, rfl, _, rfl, _, rfl, wa, ha2, ta2, r, ws, _, _, _, g, n, rfl, W2, C2.ok, hi2.1, C2.rows, WM.lt_or hi2.2, WM.or_lt C2.hg hi2.1, c1 rfl H2 (Same.refl H2)⟩
    · refine ⟨D, (WM.nextL ws g l).map fun n => ((WM.bh ws v g n : Nat) : Int), rfl, SqL.of ?_, ?_⟩
      · rw [e2, List.filter_eq_self.mpr fun _ _ => rfl, List.map_map]
        rfl
      · rw [sum_cast]
        exact k H2 (s1.trans s2)

theorem scWays : FnScope psW psW (defScope sWays) := ⟨rfl, rfl, rfl, by decide +kernel, rfl, by decide +kernel, by decide +kernel⟩
theorem can_ways (D : Def K mg "ways_worth" sWays psW) (cA : Can P w K mg base CX0 2 "all_gone" ["words"] (spAllGone CW)) (cT : Can P w K mg base CX0 4 "total_behind" psW (spWorthF CW WM.totalM)) :
    Can P w K mg base CX0 5 "ways_worth" psW (spWorthF CW WM.waysM) := by
  refine D.can scWays (fun vs H Q E h => ?_) (fun f cdv A outer s H vs Q E hr h => ?_)
  · obtain ⟨wa, r, ws, v, g, l, rfl, _⟩ := h
    rfl
  · obtain ⟨wa, r, ws, v, g, l, rfl, C, k⟩ := h
    obtain ⟨ha, ta, W⟩ := C.wat
    refine ⟨_, pss_cons (ps_if (pt_cmpR op_eq (pv 2) (pe_fn cA hr (pa_cons (pv 0) pa_nil)) (nomark _)) (pss_one (ps_ret pe_int)) pss_nil)
      (pss_one (ps_ret (pe_fn cT hr (pa_cons (pv 0) (pa_cons (pv 1) (pa_cons (pv 2) (pa_cons (pv 3) pa_nil))))))), ?_⟩
    refine ⟨_, rfl, _, rfl, wa, ha, ta, ws, rfl, W, C.ok.many, rfl, _, rfl, ?_⟩
    by_cases c : g = WM.allG ws
    · refine if_true_of (by rw [dec_nat, c, beq_self_eq_true]) ?_
      have e : WM.waysM ws v g l = 1 := if_pos c
      have q := k H (Same.refl H)
      rw [e] at q
      exact q
    · refine if_false_of (by rw [dec_nat]; simpa using c) ?_
      have e : WM.waysM ws v g l = WM.totalM ws v g l := if_neg c
      refine ⟨_, rfl, _, rfl, _, rfl, _, rfl, wa, r, ws, v, g, l, rfl, C, fun H' s' => ?_⟩
      have q := k H' s'
      rw [e] at q
      exact q
theorem scChains : FnScope psW psW (defScope sChains) := ⟨rfl, rfl, rfl, by decide +kernel, rfl, by decide +kernel, by decide +kernel⟩
theorem can_chainsW (D : Def K mg "chains_worth" sChains psW) (cT : Can P w K mg base CX0 4 "total_behind" psW (spWorthF CW WM.totalM)) :
    Can P w K mg base CX0 5 "chains_worth" psW (spWorthF CW WM.chainsM) := by
  refine D.can scChains (fun vs H Q E h => ?_) (fun f cdv A outer s H vs Q E hr h => ?_)
  · obtain ⟨wa, r, ws, v, g, l, rfl, _⟩ := h
    rfl
  · obtain ⟨wa, r, ws, v, g, l, rfl, C, k⟩ := h
    refine ⟨_, pss_one (ps_ret (pe_op op_add pe_int (pe_fn cT hr (pa_cons (pv 0) (pa_cons (pv 1) (pa_cons (pv 2) (pa_cons (pv 3) pa_nil))))))), ?_⟩
    refine ⟨_, rfl, _, rfl, _, rfl, _, rfl, wa, r, ws, v, g, l, rfl, C, fun H' s' => ⟨_, _, rfl, rfl, ?_⟩⟩
    exact q_int (by unfold WM.chainsM; omega) (k H' s')

def spNewC (CW : Addr) : Sp := fun vs H Q _ => ∃ (wa ha ta : Addr) (ws : Words) (l i : Nat), vs = [.ref wa, .int (l : Int), .int (i : Int)] ∧ WordsAt CW H wa ha ta ws ∧ i < ws.length ∧ Q (.int ((WM.newC ws l i : Nat) : Int)) H
theorem scNewC : FnScope ["words", "letter", "word"] ["words", "letter", "word"] (defScope sNewC) := ⟨rfl, rfl, rfl, by decide +kernel, rfl, by decide +kernel, by decide +kernel⟩
theorem can_newC (D : Def K mg "new_chain" sNewC ["words", "letter", "word"]) (T : TW K CW) (U : TK mg) (cB : CanM P w K mg base CX0 1 CW "begins" ["self", "word", "letter"] (spBegins CW)) :
    Can P w K mg base CX0 2 "new_chain" ["words", "letter", "word"] (spNewC CW) := by
  refine D.can scNewC (fun vs H Q E h => ?_) (fun f cdv A outer s H vs Q E hr h => ?_)
  · obtain ⟨wa, ha, ta, ws, l, i, rfl, _⟩ := h
    rfl
  · obtain ⟨wa, ha, ta, ws, l, i, rfl, W, hi, k⟩ := h
    obtain ⟨dx, h1⟩ := W.ob
    refine ⟨_, pss_cons (ps_if (PW.pt (pw_and (pt_cmpR op_ne (pv 1) (pe_k U.any) (nomark _)) (pw_and1 (pt_val (pe_mt cB T.cl (pv 0) hr (pa_cons (pv 2) (pa_cons (pv 1) pa_nil))))))) (pss_one (ps_ret pe_int)) pss_nil)
      (pss_one (ps_ret pe_int)), ?_⟩
    have e8 : (!decide (V.int (l : Int) = V.int 8)) = (l != 8) := by
      rw [show decide (V.int (l : Int) = V.int 8) = (l == 8) from dec_nat l 8]
      rfl
    refine ⟨_, rfl, rfl, _, rfl, ?_⟩
    by_cases c : (l != 8) = true
    · refine if_true_of (e8.trans c) ⟨_, rfl, wa, dx, _, rfl, h1, flW_no (by decide +kernel) (by decide +kernel) _ _, _, rfl, _, rfl, wa, ha, ta, ws, i, l, rfl, W, hi, _, rfl, ?_⟩
      cases e : WM.begB ws i l with
      | true =>
        have e2 : WM.newC ws l i = 0 := by unfold WM.newC; rw [c, e]; rfl
        rw [e2] at k
        exact if_true_of rfl k
      | false =>
        have e2 : WM.newC ws l i = 1 := by unfold WM.newC; rw [c, e]; rfl
        rw [e2] at k
        exact if_false_of rfl k
    · have c' : (l != 8) = false := by simpa using c
      have e2 : WM.newC ws l i = 1 := by unfold WM.newC; rw [c']; rfl
      rw [e2] at k
      exact if_false_of (e8.trans c') (if_false_of rfl k)

def spWorth (CW : Addr) (k : Nat) : Sp := fun vs H Q _ => ∃ (wa r : Addr) (ws : Words) (g l : Nat), vs = [.ref wa, .ref r, .int (g : Int), .int (l : Int)] ∧ WCtx CW H wa r ws (WM.val ws k) g l ∧
  ∀ H', Same H H' → Q (.int ((WM.val ws k g l : Nat) : Int)) H'
theorem scFew : FnScope ["words", "rows", "gone", "letter", "word"] psW (defScope sFew) := ⟨rfl, rfl, rfl, by decide +kernel, rfl, by decide +kernel, by decide +kernel⟩
theorem can_few (D : Def K mg "fewest_worth" sFew psW) (T : TW K CW) (U : TK mg) (cA : Can P w K mg base CX0 2 "all_gone" ["words"] (spAllGone CW)) (cL : CanM P w K mg base CX0 2 CW "left" ["self", "gone"] (spLeft CW))
    (cN : Can P w K mg base CX0 2 "new_chain" ["words", "letter", "word"] (spNewC CW)) (cB : Can P w K mg base CX0 2 "behind" ["words", "rows", "gone", "word"] (spBehind CW)) :
    Can P w K mg base CX0 3 "fewest_worth" psW (spWorth CW 4) := by
  refine D.can scFew (fun vs H Q E h => ?_) (fun f cdv A outer s H vs Q E hr h => ?_)
  · obtain ⟨wa, r, ws, g, l, rfl, _⟩ := h
    rfl
  · obtain ⟨wa, r, ws, g, l, rfl, C, k⟩ := h
    obtain ⟨ha, ta, W⟩ := C.wat
    obtain ⟨dx, h1⟩ := W.ob
    refine ⟨_, pss_cons (ps_if (pt_cmpR op_eq (pv 2) (pe_fn cA hr (pa_cons (pv 0) pa_nil)) (nomark _)) (pss_one (ps_ret pe_int)) pss_nil)
      (pss_one (ps_ret (pe_callB (cr_min rfl) (by rfl) U.min (by decide +kernel) (pa_cons (pe_lc (own := [("word", 4)]) (g := gName 4) (tt := tYes) rfl scFew.nd
        (pi_list (pe_mt cL T.cl (pv 0) hr (pa_cons (pv 2) pa_nil)))
        (blkOk_by (N := ["words", "rows", "gone", "letter", "word"]) (sc := defScope sFew) (by decide +kernel)) (fun _ _ _ _ _ => pg_name (i := 4) scFew.nd rfl (Or.inl rfl))
        (fun _ _ _ _ _ => pts_nil) (fun _ _ _ _ _ => pe_op op_add (pe_fn cN hr (pa_cons (pv 0) (pa_cons (pv 3) (pa_cons (pv 4) pa_nil)))) (pe_fn cB hr (pa_cons (pv 0) (pa_cons (pv 1) (pa_cons (pv 2) (pa_cons (pv 4) pa_nil))))))) pa_nil)))), ?_⟩
    refine ⟨_, rfl, _, rfl, wa, ha, ta, ws, rfl, W, C.ok.many, rfl, _, rfl, ?_⟩
    by_cases c : g = WM.allG ws
    · refine if_true_of (by rw [dec_nat, c, beq_self_eq_true]) ?_
      have e : WM.val ws 4 g l = 0 := by
        rw [WM.val_worth C.ok.small C.hg C.hl]
        exact if_pos c
      have q := k H (Same.refl H)
      rw [e] at q
      exact q
    · refine if_false_of (by rw [dec_nat]; simpa using c) ?_
      refine ⟨_, rfl, wa, dx, _, rfl, h1, flW_no (by decide +kernel) (by decide +kernel) _ _, _, rfl, wa, ha, ta, ws, g, rfl, W, C.ok.many, fun p H1 s1 np hp => ?_⟩
      refine ⟨p, rfl, ⟨_, SqL.of hp⟩, fun D hD => ?_⟩
      refine lc_pure (ns := WM.leftL ws g) (fun _ => true) (fun (n : Nat) => V.int ((WM.newC ws l n + WM.bh ws (WM.val ws 4) g n : Nat) : Int)) (Nat.le_trans WM.left_length (by have := C.ok.many; omega)) (SqL.of hp) hD (fun n H2 hn s2 R1 R0 c1 c0 => ?_) fun H2 s2 e2 => ?_
      · have C2 := (C.same s1).same s2
        obtain ⟨ha2, ta2, W2⟩ := C2.wat
        have hi2 := WM.mem_left.mp hn
        refine ⟨rfl, _, rfl, _, rfl, _, rfl, wa, ha2, ta2, ws, l, n, rfl, W2, (WM.mem_left.mp hn).1, _, rfl, _, rfl, _, rfl, _, rfl, wa, ha2, ta2, r, ws, _, _, _, g, n, rfl, W2, C2.ok, hi2.1, C2.rows, WM.lt_or hi2.2, WM.or_lt C2.hg hi2.1, _, _, rfl, rfl, ?_⟩
        have q := c1 rfl H2 (Same.refl H2)
        have e3 : ((WM.newC ws l n + WM.bh ws (WM.val ws 4) g n : Nat) : Int) = ((WM.newC ws l n : Nat) : Int) + ((WM.bh ws (WM.val ws 4) g n : Nat) : Int) := Int.natCast_add _ _
        rw [e3] at q
        exact q
      · refine ⟨D, (WM.fewL ws (WM.val ws 4) g l).map fun n => ((n : Nat) : Int), rfl, SqL.of ?_, ?_, fun m hm hle => ?_⟩
        · rw [e2, List.filter_eq_self.mpr fun _ _ => rfl]
          unfold WM.fewL
          rw [List.map_map, List.map_map]
          rfl
        · rw [List.length_map]
          exact WM.few_pos C.hg c
        · obtain ⟨m', hm', rfl⟩ := List.mem_map.mp hm
          have e := WM.few_min C.ok.small C.ok.many C.hg C.hl hm' (fun y hy => by have := hle _ (List.mem_map.mpr ⟨y, hy, rfl⟩); omega) c
          rw [e]
          exact k H2 (s1.trans s2)

/-- one of five worths, by its number -/
def spWorthOf (CW : Addr) : Sp := fun vs H Q _ => ∃ (wa r : Addr) (ws : Words) (g l k : Nat), vs = [.ref wa, .ref r, .int (g : Int), .int (l : Int), .int (k : Int)] ∧ k ≤ 4 ∧ WCtx CW H wa r ws (WM.val ws k) g l ∧
  ∀ H', Same H H' → Q (.int ((WM.val ws k g l : Nat) : Int)) H'
theorem scWorth : FnScope ["words", "rows", "gone", "letter", "kind"] ["words", "rows", "gone", "letter", "kind"] (defScope sWorth) := ⟨rfl, rfl, rfl, by decide +kernel, rfl, by decide +kernel, by decide +kernel⟩
theorem can_worth (D : Def K mg "worth_of" sWorth ["words", "rows", "gone", "letter", "kind"]) (U : TKs mg) (c0 : Can P w K mg base CX0 4 "win_worth" psW (spWorthF CW WM.winM)) (c1 : Can P w K mg base CX0 4 "longest_worth" psW (spWorthF CW WM.longM))
    (c2 : Can P w K mg base CX0 5 "ways_worth" psW (spWorthF CW WM.waysM)) (c3 : Can P w K mg base CX0 5 "chains_worth" psW (spWorthF CW WM.chainsM)) (c4 : Can P w K mg base CX0 3 "fewest_worth" psW (spWorth CW 4)) :
    Can P w K mg base CX0 6 "worth_of" ["words", "rows", "gone", "letter", "kind"] (spWorthOf CW) := by
  refine D.can scWorth (fun vs H Q E h => ?_) (fun f cdv A outer s H vs Q E hr h => ?_)
  · obtain ⟨wa, r, ws, g, l, k, rfl, _⟩ := h
    rfl
  · obtain ⟨wa, r, ws, g, l, k, rfl, hk, C, q⟩ := h
    refine ⟨_, pss_cons (ps_if (pt_cmpR op_eq (pv 4) (pe_k U.wins) (nomark _)) (pss_one (ps_ret (pe_fn c0 hr (pa_cons (pv 0) (pa_cons (pv 1) (pa_cons (pv 2) (pa_cons (pv 3) pa_nil))))))) pss_nil)
      (pss_cons (ps_if (pt_cmpR op_eq (pv 4) (pe_k U.longest) (nomark _)) (pss_one (ps_ret (pe_fn c1 hr (pa_cons (pv 0) (pa_cons (pv 1) (pa_cons (pv 2) (pa_cons (pv 3) pa_nil))))))) pss_nil)
      (pss_cons (ps_if (pt_cmpR op_eq (pv 4) (pe_k U.ways) (nomark _)) (pss_one (ps_ret (pe_fn c2 hr (pa_cons (pv 0) (pa_cons (pv 1) (pa_cons (pv 2) (pa_cons (pv 3) pa_nil))))))) pss_nil)
      (pss_cons (ps_if (pt_cmpR op_eq (pv 4) (pe_k U.chains) (nomark _)) (pss_one (ps_ret (pe_fn c3 hr (pa_cons (pv 0) (pa_cons (pv 1) (pa_cons (pv 2) (pa_cons (pv 3) pa_nil))))))) pss_nil)
      (pss_one (ps_ret (pe_fn c4 hr (pa_cons (pv 0) (pa_cons (pv 1) (pa_cons (pv 2) (pa_cons (pv 3) pa_nil)))))))))), ?_⟩
    have dk : ∀ j : Nat, decide (V.int (k : Int) = V.int (j : Int)) = (k == j) := fun j => dec_nat k j
    have val := WM.val_worth C.ok.small (k := k) C.hg C.hl
    refine ⟨_, rfl, rfl, _, rfl, ?_⟩
    by_cases e0 : k = 0
    · subst e0
      refine if_true_of rfl ⟨_, rfl, _, rfl, _, rfl, _, rfl, wa, r, ws, _, g, l, rfl, C, fun H' s' => ?_⟩
      have z := q H' s'
      rw [val] at z
      exact z
    refine if_false_of ((dk 0).trans (by simpa using e0)) ⟨_, rfl, rfl, _, rfl, ?_⟩
    by_cases e1 : k = 1
    · subst e1
      refine if_true_of rfl ⟨_, rfl, _, rfl, _, rfl, _, rfl, wa, r, ws, _, g, l, rfl, C, fun H' s' => ?_⟩
      have z := q H' s'
      rw [val] at z
      exact z
    refine if_false_of ((dk 1).trans (by simpa using e1)) ⟨_, rfl, rfl, _, rfl, ?_⟩
    by_cases e2 : k = 2
    · subst e2
      refine if_true_of rfl ⟨_, rfl, _, rfl, _, rfl, _, rfl, wa, r, ws, _, g, l, rfl, C, fun H' s' => ?_⟩
      have z := q H' s'
      rw [val] at z
      exact z
    refine if_false_of ((dk 2).trans (by simpa using e2)) ⟨_, rfl, rfl, _, rfl, ?_⟩
    by_cases e3 : k = 3
    · subst e3
      refine if_true_of rfl ⟨_, rfl, _, rfl, _, rfl, _, rfl, wa, r, ws, _, g, l, rfl, C, fun H' s' => ?_⟩
      have z := q H' s'
      rw [val] at z
      exact z
    refine if_false_of ((dk 3).trans (by simpa using e3)) ?_
    have e4 : k = 4 := by omega
    subst e4
    exact ⟨_, rfl, _, rfl, _, rfl, _, rfl, wa, r, ws, g, l, rfl, C, q⟩
end
end WC

/-! W3: a table is filled. -/
namespace WC
open PySem PySem.Spec PyProof.Rows L2
open Uw94 (Words)
abbrev sFilled : Stmt := top 27
section
variable {P : Program} {w : World} {K : PySem.W.Frag} {mg : Str → Option Value} {base : Heap} {CW : Addr}
/-- rows at r from lo on, all of them new since H -/
structure RowsN (H H' : Hp) (r : Addr) (lo N : Nat) (v : Nat → Nat → Nat) : Prop where
  ex : ∃ rs : List V, H' r = some (.lst rs) ∧ rs.length = N ∧ ∀ i, lo ≤ i → i < N → ∃ q, rs[i]? = some (.ref q) ∧ H' q = some (.lst (vn ((List.range 9).map (v i)))) ∧ H q = none ∧ q ≠ r
theorem RowsN.rows {H H' : Hp} {r : Addr} {lo N : Nat} {v : Nat → Nat → Nat} (h : RowsN H H' r lo N v) : RowsV H' r lo N v := by
  obtain ⟨rs, h1, h2, h3⟩ := h.ex
  refine ⟨rs, h1, h2, fun i a b => ?_⟩
  obtain ⟨q, h4, h5, _⟩ := h3 i a b
  exact ⟨q, h4, h5⟩
theorem ixN_nat {n j : Nat} (h : j < n) : ixN n (j : Int) = some j := by
  unfold ixN
  rw [if_pos (Int.natCast_nonneg j), if_pos (by omega), Int.toNat_natCast]
theorem pow9 {n : Nat} (h : n ≤ 9) : 2 ^ n ≤ 512 := Nat.le_trans (Nat.pow_le_pow_right (by decide) h) (by decide)
theorem all_one (ws : Words) : ((WM.allG ws : Nat) : Int) + 1 = ((2 ^ ws.length : Nat) : Int) := by
  have := Nat.two_pow_pos ws.length
  unfold WM.allG
  omega
def spFilled (CW : Addr) : Sp := fun vs H Q _ => ∃ (wa ha ta : Addr) (ws : Words) (k : Nat), vs = [.ref wa, .int (k : Int)] ∧ WordsAt CW H wa ha ta ws ∧ WordsOk ws ∧ k ≤ 4 ∧
  ∀ (r : Addr) (H' : Hp), Same H H' → H r = none → RowsN H H' r 0 (2 ^ ws.length) (WM.val ws k) → Q (.ref r) H'
abbrev nFilled : List Str := ["words", "kind", "gone", "rows", "letter"]
theorem scFilled : FnScope nFilled ["words", "kind"] (defScope sFilled) := ⟨rfl, rfl, rfl, by decide +kernel, rfl, by decide +kernel, by decide +kernel⟩
theorem can_filled (D : Def K mg "filled" sFilled ["words", "kind"]) (U : TK mg) (cA : Can P w K mg base CX0 2 "all_gone" ["words"] (spAllGone CW)) (cW : Can P w K mg base CX0 6 "worth_of" ["words", "rows", "gone", "letter", "kind"] (spWorthOf CW)) :
    Can P w K mg base CX0 7 "filled" ["words", "kind"] (spFilled CW) := by
  refine D.can scFilled (fun vs H Q E h => ?_) (fun f cdv A outer s H vs Q E hr h => ?_)
  · obtain ⟨wa, ha, ta, ws, k, rfl, _⟩ := h
    rfl
  · obtain ⟨wa, ha, ta, ws, k, rfl, W, O, hk, q⟩ := h
    have h9 := O.many
    have hp := pow9 h9
    have hp0 := Nat.two_pow_pos ws.length
    refine ⟨_, pss_cons (ps_set (i := 3) scFilled.nd rfl (Or.inr rfl) (pe_lc (own := [("gone", 2)]) (g := gName 2) (tt := tYes) rfl scFilled.nd
        (pi_range1 rfl U.range (pa_cons (pe_op op_add (pe_fn cA hr (pa_cons (pv 0) pa_nil)) pe_int) pa_nil))
        (blkOk_by (N := nFilled) (sc := defScope sFilled) (by decide +kernel)) (fun _ _ _ _ _ => pg_name (i := 2) scFilled.nd rfl (Or.inl rfl))
        (fun _ _ _ _ _ => pts_nil) (fun _ _ _ _ _ => pe_lst pa_nil)))
      (pss_cons (ps_for PassesOwn.never rfl (pi_revR rfl U.reversed (prg_1 rfl U.range (pe_op op_add (pe_fn cA hr (pa_cons (pv 0) pa_nil)) pe_int))) (pg_name (i := 2) scFilled.nd rfl (Or.inr rfl))
        (pss_one (ps_asg (pe_lc (own := [("letter", 4)]) (g := gName 4) (tt := tYes) rfl scFilled.nd
          (pi_range1 rfl U.range (pa_cons (pe_op op_add (pe_k U.any) pe_int) pa_nil))
          (blkOk_by (N := nFilled) (sc := defScope sFilled) (by decide +kernel)) (fun _ _ _ _ _ => pg_name (i := 4) scFilled.nd rfl (Or.inl rfl))
          (fun _ _ _ _ _ => pts_nil) (fun _ _ _ _ _ => pe_fn cW hr (pa_cons (pv 0) (pa_cons (pv 3) (pa_cons (pv 2) (pa_cons (pv 4) (pa_cons (pv 1) pa_nil)))))))
          (pg_sub (pv 3) (pv 2) set_list))))
      (pss_one (ps_ret (pv 3)))), ?_⟩
    refine ⟨_, rfl, wa, ha, ta, ws, rfl, W, h9, _, _, rfl, rfl, ((2 ^ ws.length : Nat) : Int), congrArg (fun z => [V.int z]) (all_one ws), by omega, by omega, fun D hD => ?_⟩
    refine lc_range (lo := 0) (n := 2 ^ ws.length) (fun i H' => Same H H' ∧ ∃ xs, H' D = some (.lst xs) ∧ xs.length = i) ⟨same_new hD, [], upd_same, rfl⟩ (fun i H1 hi p => ?_) fun H1 p => ?_
    · obtain ⟨s1, xs, e1, e2⟩ := p
      refine ⟨rfl, Nat.zero_le _, fun y hy => ⟨xs, ?_, ?_, ?_⟩⟩
      · rw [upd_ne (ne_of_none e1 hy)]
        exact e1
      · exact small1000 (by omega)
      · refine ⟨same_upd (same_upd s1 (s1.free hy)) hD, _, upd_same, ?_⟩
        rw [List.length_append, e2]
        rfl
    obtain ⟨s1, xs, e1, e2⟩ := p
    have W1 := W.same s1
    refine ⟨_, rfl, wa, ha, ta, ws, rfl, W1, h9, _, _, rfl, rfl, ((2 ^ ws.length : Nat) : Int), congrArg V.int (all_one ws), by omega, by omega, by omega, by omega, ?_⟩
    have eN : (((2 ^ ws.length : Nat) : Int) - 0).toNat = 2 ^ ws.length := by omega
    refine for_rangeC (fun i σ H' => ∃ x : Option V, σ = [some (.ref wa), some (.int (k : Int)), x, some (.ref D), none] ∧ Same H H' ∧ RowsN H H' D (2 ^ ws.length - i) (2 ^ ws.length) (WM.val ws k))
      ⟨none, rfl, s1, xs, e1, e2, fun i a b => absurd a (by omega)⟩ (fun i σ H2 hi p => ?_) fun σ H2 p => ?_
    · obtain ⟨x, rfl, s2, R⟩ := p
      rw [eN] at hi
      obtain ⟨g, hg⟩ : ∃ g, g = 2 ^ ws.length - 1 - i := ⟨_, rfl⟩
      have eg : (0 : Int) + (((((2 ^ ws.length : Nat) : Int) - 0).toNat : Nat) : Int) - 1 + (i : Int) * (-1) = (g : Int) := by omega
      rw [eg]
      have R' : RowsN H H2 D (g + 1) (2 ^ ws.length) (WM.val ws k) := by
        have e : g + 1 = 2 ^ ws.length - i := by omega
        rw [e]
        exact R
      obtain ⟨rs, r1, r2, r3⟩ := R'.ex
      refine ⟨_, _, rfl, rfl, 9, rfl, by decide, by decide, fun D2 hD2 => ?_⟩
      refine lc_pureR (m := 9) (fun _ => true) (fun l => V.int ((WM.val ws k g l : Nat) : Int)) (by decide) hD2 (fun l H3 hl s3 R1 R0 c1 c0 => ?_) fun H3 s3 e3 => ?_
      · have s23 := s2.trans s3
        exact ⟨rfl, _, rfl, _, rfl, _, rfl, _, rfl, _, rfl, wa, D, ws, g, l, k, rfl, hk, ⟨⟨ha, ta, W.same s23⟩, O, R'.rows.same s3, by omega, by omega⟩, fun H4 s4 => c1 rfl H4 s4⟩
      · refine ⟨_, rfl, _, rfl, D, rs, _, g, rfl, rfl, s3 _ _ r1, ixN_nat (by omega), some (.int (g : Int)), rfl, same_upd (s2.trans s3) hD, _, upd_same, by rw [List.length_set]; exact r2, fun j ja jb => ?_⟩
        have n2 : D2 ≠ D := fun z => by
          rw [z, r1] at hD2
          cases hD2
        by_cases c : j = g
        · subst c
          refine ⟨D2, by rw [List.getElem?_set_self (by omega)], ?_, s2.free hD2, n2⟩
          rw [upd_ne n2, e3, List.filter_eq_self.mpr fun _ _ => rfl, vn, List.map_map]
          rfl
        · obtain ⟨y, y1, y2, y3, y4⟩ := r3 j (by omega) jb
          refine ⟨y, by rw [List.getElem?_set_ne (fun z => c z.symm)]; exact y1, ?_, y3, y4⟩
          rw [upd_ne y4]
          exact s3 _ _ y2
    · obtain ⟨x, rfl, s2, R⟩ := p
      rw [eN, Nat.sub_self] at R
      exact ⟨_, rfl, q D H2 s2 hD R⟩
end
end WC

/-! W4: the game: what it owns, how a call changes it; its methods. -/
namespace WC
open PySem PySem.Spec PyProof.Rows L2
open Uw94 (Words)
abbrev sGI : Stmt := inClass (top 29) 0
abbrev sLetter : Stmt := inClass (top 29) 1
abbrev sGone : Stmt := inClass (top 29) 2
abbrev sTable : Stmt := inClass (top 29) 3
abbrev sNow : Stmt := inClass (top 29) 4
abbrev sSayable : Stmt := inClass (top 29) 5
abbrev sBeWord : Stmt := inClass (top 29) 6
abbrev sWipe : Stmt := inClass (top 29) 7
abbrev sPutWord : Stmt := inClass (top 29) 8
abbrev sSay : Stmt := inClass (top 29) 9
abbrev sUnsay : Stmt := inClass (top 29) 10

structure TGa (K : PySem.W.Frag) (CG : Addr) : Prop where
  cl : Cls K CG
  nW : NoAttr K CG "words"
  nS : NoAttr K CG "spoken"
  nK : NoAttr K CG "known"

/-! ### the fields -/
theorem nWS : ¬ (("words" : Str) = "spoken") := by decide +kernel
theorem nWK : ¬ (("words" : Str) = "known") := by decide +kernel
theorem nSK : ¬ (("spoken" : Str) = "known") := by decide +kernel
def flG (a b c : Addr) : List (Str × V) := [("words", .ref a), ("spoken", .ref b), ("known", .ref c)]
theorem flG_words (a b c : Addr) : (flG a b c).lookup ("words" : Str) = some (.ref a) := lk_here
theorem flG_spoken (a b c : Addr) : (flG a b c).lookup ("spoken" : Str) = some (.ref b) := (lk_past (by decide +kernel)).trans lk_here
theorem flG_known (a b c : Addr) : (flG a b c).lookup ("known" : Str) = some (.ref c) := (lk_past (by decide +kernel)).trans ((lk_past (by decide +kernel)).trans lk_here)
theorem flG_no {m : Str} (h1 : (m == ("words" : Str)) = false) (h2 : (m == ("spoken" : Str)) = false) (h3 : (m == ("known" : Str)) = false) (a b c : Addr) : (flG a b c).lookup m = none := (lk_past h1).trans ((lk_past h2).trans ((lk_past h3).trans rfl))
theorem flG_putW (a b c d : Addr) : putF "words" (.ref d) (flG a b c) = flG d b c := put_here
theorem flG_putS (a b c d : Addr) : putF "spoken" (.ref d) (flG a b c) = flG a d c := (put_past nWS).trans (congrArg _ put_here)
theorem flG_putK (a b c d : Addr) : putF "known" (.ref d) (flG a b c) = flG a b d := (put_past nWK).trans (congrArg _ ((put_past nSK).trans (congrArg _ put_here)))
theorem flG_new (a b c : Addr) : putF "known" (.ref c) (putF "spoken" (.ref b) (putF "words" (.ref a) [])) = flG a b c := by
  have e1 : putF "spoken" (.ref b) (putF "words" (.ref a) []) = [(("words" : Str), V.ref a), ("spoken", V.ref b)] := (put_past nWS).trans rfl
  rw [e1]
  exact (put_past nWK).trans (congrArg _ ((put_past nSK).trans rfl))

/-! ### what the game owns -/
structure TabAt (H : Hp) (O : Addr → Prop) (sp r : Addr) (N : Nat) (v : Nat → Nat → Nat) : Prop where
  own : O r
  ne : r ≠ sp
  ex : ∃ rs : List V, H r = some (.lst rs) ∧ rs.length = N ∧ ∀ i, i < N → ∃ q, rs[i]? = some (.ref q) ∧ H q = some (.lst (vn ((List.range 9).map (v i)))) ∧ O q ∧ q ≠ sp
theorem TabAt.rows {H : Hp} {O : Addr → Prop} {sp r : Addr} {N : Nat} {v : Nat → Nat → Nat} (h : TabAt H O sp r N v) : RowsV H r 0 N v := by
  obtain ⟨rs, h1, h2, h3⟩ := h.ex
  refine ⟨rs, h1, h2, fun i _ b => ?_⟩
  obtain ⟨q, h4, h5, _⟩ := h3 i b
  exact ⟨q, h4, h5⟩
/-- kept where the owned lists but the said words' are kept -/
theorem TabAt.keep {H H' : Hp} {O O' : Addr → Prop} {sp r : Addr} {N : Nat} {v : Nat → Nat → Nat} (h : TabAt H O sp r N v) (ho : ∀ b, O b → O' b) (k : ∀ b xs, O b → b ≠ sp → H b = some (.lst xs) → H' b = some (.lst xs)) : TabAt H' O' sp r N v := by
  obtain ⟨rs, h1, h2, h3⟩ := h.ex
  refine ⟨ho _ h.own, h.ne, rs, k _ _ h.own h.ne h1, h2, fun i b => ?_⟩
  obtain ⟨q, h4, h5, h6, h7⟩ := h3 i b
  exact ⟨q, h4, k _ _ h6 h7 h5, ho _ h6, h7⟩
structure GameAt (CG CW : Addr) (H : Hp) (O : Addr → Prop) (g wa ha ta sp kn : Addr) (kvs : List (Key × V)) (s : Uw94.St) : Prop where
  ok : WM.Ok s
  ob : ∃ dx, H g = some (.ins CG dx (flG wa sp kn))
  W : WordsAt CW H wa ha ta s.words
  S : H sp = some (.lst (vn s.said))
  D : H kn = some (.dK kvs)
  ht : ha ≠ ta
  sh : sp ≠ ha
  st : sp ≠ ta
  og : O g
  ow : O wa
  oh : O ha
  ot : O ta
  os : O sp
  od : O kn
  dom : ∀ b, O b → ∃ o, H b = some o
  nd : (kvs.map (·.1)).Nodup
  keys : ∀ x ∈ kvs.map (·.1), x ∈ ([.inl 0, .inl 1, .inl 2, .inl 3, .inl 4] : List Key)
  tabs : ∀ (k : Nat) v, valV kvs (Sum.inl (k : Int) : Key) = some v → ∃ r, v = .ref r ∧ TabAt H O sp r (2 ^ s.words.length) (WM.val s.words k)
/-- a game at g in the state s -/
structure Gm (CG CW : Addr) (H : Hp) (O : Addr → Prop) (g : Addr) (s : Uw94.St) : Prop where
  ex : ∃ (wa ha ta sp kn : Addr) (kvs : List (Key × V)), GameAt CG CW H O g wa ha ta sp kn kvs s
theorem GameAt.mono {CG CW : Addr} {H H' : Hp} {O : Addr → Prop} {g wa ha ta sp kn : Addr} {kvs : List (Key × V)} {s : Uw94.St} (G : GameAt CG CW H O g wa ha ta sp kn kvs s) (m : ∀ b o, O b → H b = some o → H' b = some o) : GameAt CG CW H' O g wa ha ta sp kn kvs s where
  ok := G.ok
  ob := let ⟨dx, e⟩ := G.ob; ⟨dx, m _ _ G.og e⟩
  W := ⟨let ⟨dx, e⟩ := G.W.ob; ⟨dx, m _ _ G.ow e⟩, m _ _ G.oh G.W.hd, m _ _ G.ot G.W.tl⟩
  S := m _ _ G.os G.S
  D := m _ _ G.od G.D
  ht := G.ht
  sh := G.sh
  st := G.st
  og := G.og
  ow := G.ow
  oh := G.oh
  ot := G.ot
  os := G.os
  od := G.od
  dom := fun b hb => let ⟨o, e⟩ := G.dom b hb; ⟨o, m _ _ hb e⟩
  nd := G.nd
  keys := G.keys
  tabs := fun k v e => let ⟨r, h1, h2⟩ := G.tabs k v e; ⟨r, h1, h2.keep (fun _ h => h) fun b xs hb _ q => m _ _ hb q⟩
theorem Gm.mono {CG CW : Addr} {H H' : Hp} {O : Addr → Prop} {g : Addr} {s : Uw94.St} (G : Gm CG CW H O g s) (m : ∀ b o, O b → H b = some o → H' b = some o) : Gm CG CW H' O g s :=
  let ⟨wa, ha, ta, sp, kn, kvs, q⟩ := G.ex; ⟨wa, ha, ta, sp, kn, kvs, q.mono m⟩
theorem Gm.same {CG CW : Addr} {H H' : Hp} {O : Addr → Prop} {g : Addr} {s : Uw94.St} (G : Gm CG CW H O g s) (e : Same H H') : Gm CG CW H' O g s := G.mono fun b o _ q => e b o q
theorem Gm.ok {CG CW : Addr} {H : Hp} {O : Addr → Prop} {g : Addr} {s : Uw94.St} (G : Gm CG CW H O g s) : WM.Ok s := let ⟨_, _, _, _, _, _, q⟩ := G.ex; q.ok
theorem Gm.dom {CG CW : Addr} {H : Hp} {O : Addr → Prop} {g : Addr} {s : Uw94.St} (G : Gm CG CW H O g s) : ∀ b, O b → ∃ o, H b = some o := let ⟨_, _, _, _, _, _, q⟩ := G.ex; q.dom
theorem Gm.not {CG CW : Addr} {H : Hp} {O : Addr → Prop} {g : Addr} {s : Uw94.St} (G : Gm CG CW H O g s) {p : Addr} (n : H p = none) : ¬ O p := fun h => by
  obtain ⟨o, e⟩ := G.dom p h
  rw [n] at e
  cases e
theorem GameAt.wok {CG CW : Addr} {H : Hp} {O : Addr → Prop} {g wa ha ta sp kn : Addr} {kvs : List (Key × V)} {s : Uw94.St} (G : GameAt CG CW H O g wa ha ta sp kn kvs s) : WordsOk s.words := ⟨G.ok.many, G.ok.small⟩
/-- what a call may do to a heap: what it owns behind is what it owned or new; all else stands -/
structure Stp (O : Addr → Prop) (H : Hp) (O' : Addr → Prop) (H' : Hp) : Prop where
  own : ∀ b, O' b → O b ∨ H b = none
  keep : ∀ b o, H b = some o → ¬ O b → H' b = some o
theorem Stp.refl {O : Addr → Prop} {H : Hp} : Stp O H O H := ⟨fun _ h => .inl h, fun _ _ h _ => h⟩
theorem Stp.same {O : Addr → Prop} {H H' : Hp} (e : Same H H') : Stp O H O H' := ⟨fun _ h => .inl h, fun b o h _ => e b o h⟩
theorem Stp.trans {O O1 O2 : Addr → Prop} {H H1 H2 : Hp} (a : Stp O H O1 H1) (b : Stp O1 H1 O2 H2) : Stp O H O2 H2 where
  own := fun c hc => by
    rcases b.own c hc with h | h
    · exact a.own c h
    · by_cases q : O c
      · exact .inl q
      · refine .inr ?_
        cases e : H c with
        | none => rfl
        | some o =>
          have z := a.keep c o e q
          rw [h] at z
          cases z
  keep := fun c o e q => by
    refine b.keep c o (a.keep c o e q) fun h => ?_
    rcases a.own c h with z | z
    · exact q z
    · rw [z] at e
      cases e
theorem pigeon {α : Type} [DecidableEq α] : ∀ (l L : List α), l.Nodup → (∀ x ∈ l, x ∈ L) → l.length ≤ L.length
  | [], _, _, _ => Nat.zero_le _
  | x :: r, L, nd, h => by
    obtain ⟨n1, n2⟩ := List.nodup_cons.mp nd
    have hx := h x List.mem_cons_self
    have q := pigeon r (L.erase x) n2 fun y hy => (List.mem_erase_of_ne (fun e => n1 (by rw [← e]; exact hy))).mpr (h y (List.mem_cons_of_mem _ hy))
    rw [List.length_erase_of_mem hx] at q
    have := List.length_pos_of_mem hx
    rw [List.length_cons]
    omega
theorem GameAt.few {CG CW : Addr} {H : Hp} {O : Addr → Prop} {g wa ha ta sp kn : Addr} {kvs : List (Key × V)} {s : Uw94.St} (G : GameAt CG CW H O g wa ha ta sp kn kvs s) : kvs.length ≤ 5 := by
  have q := pigeon _ _ G.nd G.keys
  rw [List.length_map] at q
  exact q
theorem said_le {s : Uw94.St} (h : WM.Ok s) : s.said.length ≤ 9 := by
  have q := pigeon s.said (List.range s.words.length) h.nd fun y hy => List.mem_range.mpr (h.lt y hy)
  rw [List.length_range] at q
  exact Nat.le_trans q h.many

section
variable {P : Program} {w : World} {K : PySem.W.Frag} {mg : Str → Option Value} {base : Heap} {CR CW CG : Addr}

/-! ### Game() -/
def newO (H H' : Hp) (g : Addr) : Addr → Prop := fun b => b = g ∨ (H b = none ∧ ∃ o, H' b = some o)
def spGI (CG CW : Addr) : Sp := fun vs H Q _ => ∃ (p dx : Addr), vs = [.ref p] ∧ H p = some (.ins CG dx []) ∧
  ∀ (H' : Hp), Gm CG CW H' (newO H H' p) p Uw94.init → (∀ b o, H b = some o → b ≠ p → H' b = some o) → Q .non H'
/-- the three stores of __init__ and wipe -/
theorem fresh_game {H H1 H2 : Hp} {g dg x ha ta p d : Addr} {fs : List (Str × V)} (hg : H g = some (.ins CG dg fs)) (hx : H x = none) (nha : H ha = none) (nta : H ta = none) (hp : H p = none) (hd : H d = none)
    (ne1 : ha ≠ ta) (W : WordsAt CW H1 x ha ta []) (k1 : ∀ b o, H b = some o → b ≠ x → H1 b = some o) (hpx : H1 p = none) (hdx : H1 d = none) (hpd : p ≠ d)
    (e2 : H2 g = some (.ins CG dg (flG x p d))) (e3 : H2 p = some (.lst [])) (e4 : H2 d = some (.dK [])) (k2 : ∀ b o, H1 b = some o → b ≠ g → H2 b = some o) :
    Gm CG CW H2 (newO H H2 g) g Uw94.init ∧ ∀ b o, H b = some o → b ≠ g → H2 b = some o := by
  have nx : x ≠ g := fun z => by rw [z, hg] at hx; cases hx
  have nh : ha ≠ g := fun z => by rw [z, hg] at nha; cases nha
  have nt : ta ≠ g := fun z => by rw [z, hg] at nta; cases nta
  have kk : ∀ b o, H b = some o → b ≠ g → H2 b = some o := fun b o e hb => k2 b o (k1 b o e (ne_of_none e hx)) hb
  obtain ⟨dw, w1⟩ := W.ob
  refine ⟨⟨x, ha, ta, p, d, [], ?_⟩, kk⟩
  exact {
    ok := WM.ok_init
    ob := ⟨dg, e2⟩
    W := ⟨⟨dw, k2 _ _ w1 nx⟩, k2 _ _ W.hd nh, k2 _ _ W.tl nt⟩
    S := e3
    D := e4
    ht := ne1
    sh := fun z => by have q := W.hd; rw [← z, hpx] at q; cases q
    st := fun z => by have q := W.tl; rw [← z, hpx] at q; cases q
    og := .inl rfl
    ow := .inr ⟨hx, _, k2 _ _ w1 nx⟩
    oh := .inr ⟨nha, _, k2 _ _ W.hd nh⟩
    ot := .inr ⟨nta, _, k2 _ _ W.tl nt⟩
    os := .inr ⟨hp, _, e3⟩
    od := .inr ⟨hd, _, e4⟩
    dom := fun b hb => by
      rcases hb with rfl | ⟨_, o, e⟩
      · exact ⟨_, e2⟩
      · exact ⟨o, e⟩
    nd := List.nodup_nil
    keys := fun y hy => absurd hy (by simp)
    tabs := fun k v e => by cases e }
theorem scGI : FnScope ["self"] ["self"] (defScope sGI) := ⟨rfl, rfl, rfl, by decide +kernel, rfl, by decide +kernel, by decide +kernel⟩
theorem can_gi (D : DefI K mg CG "Game" "Game.__init__" sGI ["self"]) (T : TGa K CG) (cW : CanI P w K mg base 1 CW "Words" ["self"] (spWI CW)) : CanI P w K mg base 3 CG "Game" ["self"] (spGI CG CW) := by
  refine D.can scGI (fun vs H Q E h => ?_) (fun f cdv A outer s H vs Q E hr h => ?_)
  · obtain ⟨p, dx, rfl, _⟩ := h
    rfl
  · obtain ⟨g, dg, rfl, hg, k⟩ := h
    refine ⟨_, pss_cons (ps_fld (pv 0) (pe_new cW hr) rfl) (pss_cons (ps_fld (pv 0) (pe_lst pa_nil) rfl) (pss_one (ps_fld (pv 0) pe_dnewK rfl))), ?_⟩
    intro x dx nx ndx nex
    refine ⟨x, dx, rfl, upd_same, fun ha ta H1 nha nta hne W kp => ⟨rfl, ?_⟩⟩
    have s0 : Same H (upd (upd H dx (.own x)) x (.ins CW dx [])) := fun b o e => by
      rw [upd_ne (ne_of_none e nx), upd_ne (ne_of_none e ndx)]
      exact e
    have k1 : ∀ b o, H b = some o → b ≠ x → H1 b = some o := fun b o e hb => kp b o (s0 b o e) hb
    have ngx : g ≠ x := ne_of_none hg nx
    refine ⟨_, rfl, g, CG, dg, [], rfl, k1 _ _ hg ngx, T.cl, T.nW, (by show 0 < 1000; decide), ?_⟩
    refine ⟨Nat.zero_le _, fun p hp => ?_⟩
    have npg : p ≠ g := fun z => by rw [z, upd_same] at hp; cases hp
    have hp1 : H1 p = none := by rw [upd_ne npg] at hp; exact hp
    refine ⟨_, rfl, g, CG, dg, _, rfl, (by rw [upd_ne npg.symm, upd_same]), T.cl, T.nS, (by show 1 < 1000; decide), ?_⟩
    intro d hd
    have ndg : d ≠ g := fun z => by rw [z, upd_same] at hd; cases hd
    have ndp : d ≠ p := fun z => by rw [z, upd_ne npg, upd_same] at hd; cases hd
    have hd1 : H1 d = none := by rw [upd_ne ndg, upd_ne ndp, upd_ne ndg] at hd; exact hd
    refine ⟨_, rfl, g, CG, dg, _, rfl, (by rw [upd_ne ndg.symm, upd_same]), T.cl, T.nK, (by rw [show putF "spoken" (V.ref p) (putF "words" (V.ref x) []) = [(("words" : Str), V.ref x), ("spoken", V.ref p)] from (put_past nWS).trans rfl]; show 2 < 1000; decide), ?_⟩
    have hx0 : ∀ b, H1 b = none → b ≠ x → H b = none := fun b e hb => by
      cases q : H b with
      | none => rfl
      | some o =>
        rw [k1 b o q hb] at e
        cases e
    have px : p ≠ x := fun z => by
      obtain ⟨dw, w1⟩ := W.ob
      rw [z, w1] at hp1
      cases hp1
    have dxx : d ≠ x := fun z => by
      obtain ⟨dw, w1⟩ := W.ob
      rw [z, w1] at hd1
      cases hd1
    have nha0 : H ha = none := s0.free nha
    have nta0 : H ta = none := s0.free nta
    have F := fresh_game (CG := CG) (CW := CW) (H := H) (H1 := H1) (H2 := upd (upd (upd (upd (upd H1 g (.ins CG dg (putF "words" (.ref x) []))) p (.lst [])) g (.ins CG dg (putF "spoken" (.ref p) (putF "words" (.ref x) [])))) d (.dK [])) g (.ins CG dg (putF "known" (.ref d) (putF "spoken" (.ref p) (putF "words" (.ref x) [])))))
      (p := p) (d := d) hg nx nha0 nta0 (hx0 p hp1 px) (hx0 d hd1 dxx) hne W k1 hp1 hd1 ndp.symm
      (upd_same.trans (congrArg (fun l => some (HO.ins CG dg l)) (flG_new x p d))) (by rw [upd_ne npg, upd_ne ndp.symm, upd_ne npg, upd_same]) (by rw [upd_ne ndg, upd_same])
      (fun b o e hb => by rw [upd_ne hb, upd_ne (ne_of_none e hd1), upd_ne hb, upd_ne (ne_of_none e hp1), upd_ne hb]; exact e)
    exact k _ F.1 F.2

/-! ### asking the game -/
def spLetter (CG CW : Addr) : Sp := fun vs H Q _ => ∃ (g : Addr) (O : Addr → Prop) (s : Uw94.St), vs = [.ref g] ∧ Gm CG CW H O g s ∧ Q (.int ((WM.letterS s : Nat) : Int)) H
theorem scLetter : FnScope ["self"] ["self"] (defScope sLetter) := ⟨rfl, rfl, rfl, by decide +kernel, rfl, by decide +kernel, by decide +kernel⟩
theorem snoc_of {l : List Nat} {i : Nat} (h : l.getLast? = some i) : l = l.dropLast ++ [i] := by
  have hne : l ≠ [] := fun e => by rw [e] at h; cases h
  have e := List.getLast?_eq_some_getLast hne
  rw [e] at h
  have q := List.dropLast_concat_getLast hne
  rw [Option.some.inj h] at q
  exact q.symm
theorem can_letter (D : DefM K CG "letter" "Game.letter" sLetter ["self"]) (T : TGa K CG) (TWo : TW K CW) (U : TK mg) (cT : CanM P w K mg base CX0 1 CW "tail_of" ["self", "word"] (spTail CW)) : CanM P w K mg base CX0 2 CG "letter" ["self"] (spLetter CG CW) := by
  refine D.can scLetter (fun vs H Q E h => ?_) (fun f cdv A outer s H vs Q E hr h => ?_)
  · obtain ⟨g, O, s, rfl, _⟩ := h
    rfl
  · obtain ⟨g, O, s, rfl, G, k⟩ := h
    obtain ⟨wa, ha, ta, sp, kn, kvs, G⟩ := G.ex
    obtain ⟨dg, h1⟩ := G.ob
    obtain ⟨dw, h2⟩ := G.W.ob
    refine ⟨_, pss_cons (ps_if (pt_cmpR op_eq (pe_callB call_len_seq (by rfl) U.len PySem.boot_len (pa_cons (pe_fld (pv 0) rfl) pa_nil)) pe_int (nomark _)) (pss_one (ps_ret (pe_k U.any))) pss_nil)
      (pss_one (ps_ret (pe_mt cT TWo.cl (pe_fld (pv 0) rfl) hr (pa_cons (pe_ix ix_list (pe_fld (pv 0) rfl) (pe_un un_neg pe_int) (fun _ _ => rfl)) pa_nil)))), ?_⟩
    refine ⟨_, rfl, g, CG, dg, _, _, rfl, h1, T.cl, T.nS, flG_spoken _ _ _, _, _, rfl, .inl (SqL.of G.S), rfl, _, rfl, ?_⟩
    have el : decide (V.int ((vn s.said).length : Int) = V.int 0) = (s.said.length == 0) := by
      rw [vn_len]
      exact dec_nat _ 0
    cases e : s.said.getLast? with
    | none =>
      have e0 : s.said = [] := List.getLast?_eq_none_iff.mp e
      refine if_true_of (by rw [el, e0]; rfl) ?_
      have e1 : WM.letterS s = 8 := by unfold WM.letterS; rw [e]
      rw [e1] at k
      exact k
    | some i =>
      have hi := snoc_of e
      refine if_false_of (by rw [el, hi, List.length_append]; simp) ?_
      have e1 : WM.letterS s = Uw94.last s.words i := by unfold WM.letterS; rw [e]
      rw [e1] at k
      have hlt : i < s.words.length := G.ok.lt i (by rw [hi]; simp)
      refine ⟨_, rfl, g, CG, dg, _, _, rfl, h1, T.cl, T.nW, flG_words _ _ _, wa, dw, _, rfl, h2, flW_no (by decide +kernel) (by decide +kernel) _ _, _, rfl, g, CG, dg, _, _, rfl, h1, T.cl, T.nS, flG_spoken _ _ _, _, rfl, sp, vn s.said, _, V.int (i : Int), rfl, rfl, SqL.of G.S, ?_, wa, ha, ta, s.words, i, rfl, G.W, hlt, k⟩
      have ev : vn s.said = vn s.said.dropLast ++ [V.int (i : Int)] := by
        have q := congrArg vn hi
        rw [show vn (s.said.dropLast ++ [i]) = vn s.said.dropLast ++ [V.int (i : Int)] from List.map_append] at q
        exact q
      rw [ev]
      exact atI_last _ _
def spGone (CG CW : Addr) : Sp := fun vs H Q _ => ∃ (g : Addr) (O : Addr → Prop) (s : Uw94.St), vs = [.ref g] ∧ Gm CG CW H O g s ∧ Q (.int ((WM.goneS s : Nat) : Int)) H
theorem scGone : FnScope ["self"] ["self"] (defScope sGone) := ⟨rfl, rfl, rfl, by decide +kernel, rfl, by decide +kernel, by decide +kernel⟩
theorem can_gone (D : DefM K CG "gone" "Game.gone" sGone ["self"]) (T : TGa K CG) (cG : Can P w K mg base CX0 2 "gone_of" ["some"] (spGoneOf K)) : CanM P w K mg base CX0 3 CG "gone" ["self"] (spGone CG CW) := by
  refine D.can scGone (fun vs H Q E h => ?_) (fun f cdv A outer s H vs Q E hr h => ?_)
  · obtain ⟨g, O, s, rfl, _⟩ := h
    rfl
  · obtain ⟨g, O, s, rfl, G, k⟩ := h
    obtain ⟨wa, ha, ta, sp, kn, kvs, G⟩ := G.ex
    obtain ⟨dg, h1⟩ := G.ob
    refine ⟨_, pss_one (ps_ret (pe_fn cG hr (pa_cons (pe_fld (pv 0) rfl) pa_nil))), ?_⟩
    exact ⟨_, rfl, g, CG, dg, _, _, rfl, h1, T.cl, T.nS, flG_spoken _ _ _, sp, s.said, rfl, SqL.of G.S, fun i hi => by have := G.ok.lt i hi; have := G.ok.many; omega, k⟩
def spSayable (CG CW : Addr) : Sp := fun vs H Q _ => ∃ (g : Addr) (O : Addr → Prop) (s : Uw94.St), vs = [.ref g] ∧ Gm CG CW H O g s ∧
  ∀ (p : Addr) (H' : Hp), Same H H' → H p = none → H' p = some (.lst (vn (WM.nextL s.words (WM.goneS s) (WM.letterS s)))) → Q (.ref p) H'
theorem scSayable : FnScope ["self"] ["self"] (defScope sSayable) := ⟨rfl, rfl, rfl, by decide +kernel, rfl, by decide +kernel, by decide +kernel⟩
theorem can_sayable (D : DefM K CG "sayable" "Game.sayable" sSayable ["self"]) (T : TGa K CG) (TWo : TW K CW) (cN : CanM P w K mg base CX0 3 CW "next_ones" ["self", "gone", "letter"] (spNext CW)) (cG : CanM P w K mg base CX0 3 CG "gone" ["self"] (spGone CG CW)) (cL : CanM P w K mg base CX0 2 CG "letter" ["self"] (spLetter CG CW)) :
    CanM P w K mg base CX0 4 CG "sayable" ["self"] (spSayable CG CW) := by
  refine D.can scSayable (fun vs H Q E h => ?_) (fun f cdv A outer s H vs Q E hr h => ?_)
  · obtain ⟨g, O, s, rfl, _⟩ := h
    rfl
  · obtain ⟨g, O, s, rfl, Gg, k⟩ := h
    obtain ⟨wa, ha, ta, sp, kn, kvs, G⟩ := Gg.ex
    obtain ⟨dg, h1⟩ := G.ob
    obtain ⟨dw, h2⟩ := G.W.ob
    refine ⟨_, pss_one (ps_ret (pe_mt cN TWo.cl (pe_fld (pv 0) rfl) hr (pa_cons (pe_mn cG T.cl (pv 0) hr) (pa_cons (pe_mn cL T.cl (pv 0) hr) pa_nil)))), ?_⟩
    exact ⟨_, rfl, g, CG, dg, _, _, rfl, h1, T.cl, T.nW, flG_words _ _ _, wa, dw, _, rfl, h2, flW_no (by decide +kernel) (by decide +kernel) _ _,
      _, rfl, g, dg, _, rfl, h1, flG_no (by decide +kernel) (by decide +kernel) (by decide +kernel) _ _ _, g, O, s, rfl, Gg,
      _, rfl, g, dg, _, rfl, h1, flG_no (by decide +kernel) (by decide +kernel) (by decide +kernel) _ _ _, g, O, s, rfl, Gg,
      wa, ha, ta, s.words, WM.goneS s, WM.letterS s, rfl, G.W, G.ok.many, k⟩
def spTable (CG CW : Addr) : Sp := fun vs H Q _ => ∃ (g : Addr) (O : Addr → Prop) (s : Uw94.St) (k : Nat), vs = [.ref g, .int (k : Int)] ∧ Gm CG CW H O g s ∧ k ≤ 4 ∧
  ∀ (r : Addr) (O' : Addr → Prop) (H' : Hp), Gm CG CW H' O' g s → Stp O H O' H' → RowsV H' r 0 (2 ^ s.words.length) (WM.val s.words k) → (∀ b o, H b = some o → (∀ kvs, o ≠ .dK kvs) → H' b = some o) → Q (.ref r) H'
theorem scTable : FnScope ["self", "kind"] ["self", "kind"] (defScope sTable) := ⟨rfl, rfl, rfl, by decide +kernel, rfl, by decide +kernel, by decide +kernel⟩
theorem can_table (D : DefM K CG "table" "Game.table" sTable ["self", "kind"]) (T : TGa K CG) (cF : Can P w K mg base CX0 7 "filled" ["words", "kind"] (spFilled CW)) : CanM P w K mg base CX0 8 CG "table" ["self", "kind"] (spTable CG CW) := by
  refine D.can scTable (fun vs H Q E h => ?_) (fun f cdv A outer s H vs Q E hr h => ?_)
  · obtain ⟨g, O, s, k, rfl, _⟩ := h
    rfl
  · obtain ⟨g, O, s, k, rfl, Gg, hk, q⟩ := h
    obtain ⟨wa, ha, ta, sp, kn, kvs, G⟩ := Gg.ex
    obtain ⟨dg, h1⟩ := G.ob
    have hu := hu_of hr
    refine ⟨_, pss_cons (ps_if (pt_cmp (pc_dnotin hu (pv 1) (pe_fld (pv 0) rfl)))
        (pss_one (ps_dput hu (pe_fld (pv 0) rfl) (pv 1) (pe_fn cF hr (pa_cons (pe_fld (pv 0) rfl) (pa_cons (pv 1) pa_nil))) rfl)) pss_nil)
      (pss_one (ps_ret (pe_dget hu (pe_fld (pv 0) rfl) (pv 1) (fun _ _ => rfl)))), ?_⟩
    refine ⟨_, rfl, _, rfl, g, CG, dg, _, _, rfl, h1, T.cl, T.nK, flG_known _ _ _, kn, _, rfl, DGet.k (k := Sum.inl (k : Int)) G.D, _, rfl, ?_⟩
    cases e : valV kvs (Sum.inl (k : Int) : Key) with
    | some v =>
      obtain ⟨r, rfl, Tb⟩ := G.tabs k v e
      refine iteF ⟨_, rfl, g, CG, dg, _, _, rfl, h1, T.cl, T.nK, flG_known _ _ _, _, rfl, kn, V.ref r, rfl, ?_, q r O H Gg Stp.refl Tb.rows fun _ _ e _ => e⟩
      rw [← e]
      exact DGet.k (k := Sum.inl (k : Int)) G.D
    | none =>
      refine iteT ?_
      refine ⟨_, rfl, g, CG, dg, _, _, rfl, h1, T.cl, T.nW, flG_words _ _ _, _, rfl, wa, ha, ta, s.words, k, rfl, G.W, G.wok, hk, fun r H1 s1 nr R => ?_⟩
      have D1 := s1 _ _ G.D
      refine ⟨_, rfl, g, CG, dg, _, _, rfl, s1 _ _ h1, T.cl, T.nK, flG_known _ _ _, _, rfl, kn, _, rfl, DPut.k (k := Sum.inl (k : Int)) D1 (small1000 (by have := G.few; omega)), ?_⟩
      have ngk : g ≠ kn := ne_of h1 G.D (by intro z; cases z)
      have nrk : r ≠ kn := fun z => by rw [z, G.D] at nr; cases nr
      have nsr : r ≠ sp := fun z => by rw [z, G.S] at nr; cases nr
      have lk : ∀ {b : Addr} {xs : List V}, H b = some (.lst xs) → b ≠ kn := fun {b xs} e => ne_of e G.D (by intro z; cases z)
      obtain ⟨dw, h2⟩ := G.W.ob
      have nwk : wa ≠ kn := ne_of h2 G.D (by intro z; cases z)
      refine ⟨_, rfl, g, CG, dg, _, _, rfl, (by rw [upd_ne ngk]; exact s1 _ _ h1), T.cl, T.nK, flG_known _ _ _, _, rfl, kn, V.ref r, rfl, ?_, ?_⟩
      · have z := DGet.k (k := Sum.inl (k : Int)) (upd_same (H := H1) (a := kn) (o := .dK (putK kvs (Sum.inl (k : Int) : Key) (V.ref r))))
        rw [valV_put, if_pos rfl] at z
        exact z
      · obtain ⟨H2, hH2⟩ : ∃ H2, H2 = upd H1 kn (.dK (putK kvs (Sum.inl (k : Int) : Key) (V.ref r))) := ⟨_, rfl⟩
        rw [← hH2]
        have k2 : ∀ b o, H b = some o → b ≠ kn → H2 b = some o := fun b o e hb => by
          rw [hH2, upd_ne hb]
          exact s1 b o e
        have e2 : H2 kn = some (.dK (putK kvs (Sum.inl (k : Int) : Key) (V.ref r))) := by rw [hH2]; exact upd_same
        have n2 : ∀ b o, H b = none → H1 b = some o → H2 b = some o := fun b o n e => by
          rw [hH2, upd_ne (fun z => by rw [z, G.D] at n; cases n)]
          exact e
        have ep : putK kvs (Sum.inl (k : Int) : Key) (V.ref r) = kvs ++ [((Sum.inl (k : Int) : Key), V.ref r)] := putK_new _ e
        obtain ⟨rs, r1, r2, r3⟩ := R.ex
        have Tn : TabAt H2 (fun b => O b ∨ (H b = none ∧ ∃ o, H2 b = some o)) sp r (2 ^ s.words.length) (WM.val s.words k) := by
          refine ⟨.inr ⟨nr, _, n2 _ _ nr r1⟩, nsr, rs, n2 _ _ nr r1, r2, fun i hi => ?_⟩
          obtain ⟨y, y1, y2, y3, y4⟩ := r3 i (Nat.zero_le _) hi
          exact ⟨y, y1, n2 _ _ y3 y2, .inr ⟨y3, _, n2 _ _ y3 y2⟩, fun z => by rw [z, G.S] at y3; cases y3⟩
        refine q r (fun b => O b ∨ (H b = none ∧ ∃ o, H2 b = some o)) H2 ⟨wa, ha, ta, sp, kn, putK kvs (Sum.inl (k : Int) : Key) (V.ref r), ?_⟩ ⟨fun b hb => hb.imp id fun z => z.1, fun b o e ho => k2 b o e fun z => ho (z ▸ G.od)⟩ Tn.rows fun b o e no => k2 b o e (ne_of e G.D (no _))
        exact {
          ok := G.ok
          ob := ⟨dg, k2 _ _ h1 ngk⟩
          W := ⟨⟨dw, k2 _ _ h2 nwk⟩, k2 _ _ G.W.hd (lk G.W.hd), k2 _ _ G.W.tl (lk G.W.tl)⟩
          S := k2 _ _ G.S (lk G.S)
          D := e2
          ht := G.ht
          sh := G.sh
          st := G.st
          og := .inl G.og
          ow := .inl G.ow
          oh := .inl G.oh
          ot := .inl G.ot
          os := .inl G.os
          od := .inl G.od
          dom := fun b hb => by
            rcases hb with hb | ⟨_, o, e⟩
            · obtain ⟨o, e⟩ := G.dom b hb
              by_cases c : b = kn
              · rw [c]; exact ⟨_, e2⟩
              · exact ⟨o, k2 b o e c⟩
            · exact ⟨o, e⟩
          nd := nd_putK _ G.nd e
          keys := fun x hx => by
            rw [ep, List.map_append] at hx
            rcases List.mem_append.mp hx with hx | hx
            · exact G.keys x hx
            · have ex : x = (Sum.inl (k : Int) : Key) := by simpa using hx
              rw [ex]
              have : k = 0 ∨ k = 1 ∨ k = 2 ∨ k = 3 ∨ k = 4 := by omega
              rcases this with rfl | rfl | rfl | rfl | rfl <;> simp
          tabs := fun j v ev => by
            rw [valV_put] at ev
            by_cases c : (Sum.inl (j : Int) : Key) = Sum.inl (k : Int)
            · rw [if_pos c] at ev
              have ej : j = k := by
                have := Sum.inl.inj c
                omega
              subst ej
              exact ⟨r, (Option.some.inj ev).symm, Tn⟩
            · rw [if_neg c] at ev
              obtain ⟨r', z1, z2⟩ := G.tabs j v ev
              exact ⟨r', z1, z2.keep (fun _ h => .inl h) fun b xs hb _ q => k2 b _ q (lk q)⟩ }
def spNow (CG CW : Addr) : Sp := fun vs H Q _ => ∃ (g : Addr) (O : Addr → Prop) (s : Uw94.St) (k : Nat), vs = [.ref g, .int (k : Int)] ∧ Gm CG CW H O g s ∧ k ≤ 4 ∧
  ∀ (O' : Addr → Prop) (H' : Hp), Gm CG CW H' O' g s → Stp O H O' H' → Q (.int ((WM.val s.words k (WM.goneS s) (WM.letterS s) : Nat) : Int)) H'
theorem scNow : FnScope ["self", "kind"] ["self", "kind"] (defScope sNow) := ⟨rfl, rfl, rfl, by decide +kernel, rfl, by decide +kernel, by decide +kernel⟩
theorem can_now (D : DefM K CG "now" "Game.now" sNow ["self", "kind"]) (T : TGa K CG) (cT : CanM P w K mg base CX0 8 CG "table" ["self", "kind"] (spTable CG CW)) (cG : CanM P w K mg base CX0 3 CG "gone" ["self"] (spGone CG CW)) (cL : CanM P w K mg base CX0 2 CG "letter" ["self"] (spLetter CG CW)) :
    CanM P w K mg base CX0 9 CG "now" ["self", "kind"] (spNow CG CW) := by
  refine D.can scNow (fun vs H Q E h => ?_) (fun f cdv A outer s H vs Q E hr h => ?_)
  · obtain ⟨g, O, s, k, rfl, _⟩ := h
    rfl
  · obtain ⟨g, O, s, k, rfl, Gg, hk, q⟩ := h
    obtain ⟨wa, ha, ta, sp, kn, kvs, G⟩ := Gg.ex
    obtain ⟨dg, h1⟩ := G.ob
    refine ⟨_, pss_one (ps_ret (pe_ix ix_list (pe_ix ix_list (pe_mt cT T.cl (pv 0) hr (pa_cons (pv 1) pa_nil)) (pe_mn cG T.cl (pv 0) hr) (fun _ _ => rfl)) (pe_mn cL T.cl (pv 0) hr) (fun _ _ => rfl))), ?_⟩
    refine ⟨_, rfl, g, dg, _, rfl, h1, flG_no (by decide +kernel) (by decide +kernel) (by decide +kernel) _ _ _, _, rfl, g, O, s, k, rfl, Gg, hk, fun r O1 H1 G1 st1 R _ => ?_⟩
    obtain ⟨wa1, ha1, ta1, sp1, kn1, kvs1, G1'⟩ := G1.ex
    obtain ⟨dg1, e1⟩ := G1'.ob
    obtain ⟨rs, r1, r2, r3⟩ := R.ex
    obtain ⟨y, y1, y2⟩ := r3 _ (Nat.zero_le _) G.ok.gone_lt
    exact ⟨_, rfl, g, dg1, _, rfl, e1, flG_no (by decide +kernel) (by decide +kernel) (by decide +kernel) _ _ _, g, O1, s, rfl, G1, r, rs, _, _, rfl, rfl, SqL.of r1, atI_nat y1,
      _, rfl, g, dg1, _, rfl, e1, flG_no (by decide +kernel) (by decide +kernel) (by decide +kernel) _ _ _, g, O1, s, rfl, G1, y, _, _, _, rfl, rfl, SqL.of y2, atI_nat (row_get G.ok.letter_le), q O1 H1 G1 st1⟩
end
end WC

/-! W5: the game is changed. -/
namespace WC
open PySem PySem.Spec PyProof.Rows L2
open Uw94 (Words)
section
variable {P : Program} {w : World} {K : PySem.W.Frag} {mg : Str → Option Value} {base : Heap} {CR CW CG : Addr}
abbrev CMust (P : Program) (w : World) (K : PySem.W.Frag) (mg : Str → Option Value) (base : Heap) (CR : Addr) : Prop := Can P w K mg base (L2.CX P w) 3 "must" ["truth", "number"] (spMust CR)
def spBeWord (CR CG CW : Addr) : Sp := fun vs H Q E => ∃ (g : Addr) (O : Addr → Prop) (s : Uw94.St) (i : Nat), vs = [.ref g, .int (i : Int)] ∧ Gm CG CW H O g s ∧ (i < s.words.length → Q .non H) ∧ (s.words.length ≤ i → Rz CR E (-2) H)
theorem scBeWord : FnScope ["self", "word"] ["self", "word"] (defScope sBeWord) := ⟨rfl, rfl, rfl, by decide +kernel, rfl, by decide +kernel, by decide +kernel⟩
theorem can_beWord (D : DefM K CG "be_word" "Game.be_word" sBeWord ["self", "word"]) (T : TGa K CG) (TWo : TW K CW) (cM : CMust P w K mg base CR) (cN : CanM P w K mg base CX0 1 CW "many" ["self"] (spMany CW)) :
    CanM P w K mg base (L2.CX P w) 4 CG "be_word" ["self", "word"] (spBeWord CR CG CW) := by
  refine D.canX scBeWord (fun vs H Q E h => ?_) (fun f cdv A outer s H vs Q E hr h => ?_)
  · obtain ⟨g, O, s, i, rfl, _⟩ := h
    rfl
  · obtain ⟨g, O, s, i, rfl, Gg, k1, k0⟩ := h
    obtain ⟨wa, ha, ta, sp, kn, kvs, G⟩ := Gg.ex
    obtain ⟨dg, h1⟩ := G.ob
    obtain ⟨dw, h2⟩ := G.W.ob
    refine ⟨_, pss_one (ps_expr (pe_fnX cM (takes_of rfl rfl rfl rfl) hr (pa_cons (pe_cmpR op_lt (pv 1) (pe_mn cN TWo.cl (pe_fld (pv 0) rfl) hr) (nomark _)) (pa_cons (pe_un un_neg pe_int) pa_nil)))), ?_⟩
    refine ⟨_, rfl, _, rfl, g, CG, dg, _, _, rfl, h1, T.cl, T.nW, flG_words _ _ _, wa, dw, _, rfl, h2, flW_no (by decide +kernel) (by decide +kernel) _ _, wa, ha, ta, s.words, rfl, G.W, _, _, rfl, rfl, _, rfl, _, _, rfl, ?_, ?_⟩
    · intro e
      exact k1 (by have := of_decide_eq_true e; omega)
    · intro e
      exact k0 (by have := of_decide_eq_false e; omega)

def spWipe (CG CW : Addr) : Sp := fun vs H Q _ => ∃ (g : Addr) (O : Addr → Prop) (s : Uw94.St), vs = [.ref g] ∧ Gm CG CW H O g s ∧
  ∀ (O' : Addr → Prop) (H' : Hp), Gm CG CW H' O' g Uw94.init → Stp O H O' H' → Q .non H'
theorem scWipe : FnScope ["self"] ["self"] (defScope sWipe) := ⟨rfl, rfl, rfl, by decide +kernel, rfl, by decide +kernel, by decide +kernel⟩
theorem can_wipe (D : DefM K CG "wipe" "Game.wipe" sWipe ["self"]) (T : TGa K CG) (cW : CanI P w K mg base 1 CW "Words" ["self"] (spWI CW)) : CanM P w K mg base CX0 3 CG "wipe" ["self"] (spWipe CG CW) := by
  refine D.can scWipe (fun vs H Q E h => ?_) (fun f cdv A outer s H vs Q E hr h => ?_)
  · obtain ⟨g, O, s, rfl, _⟩ := h
    rfl
  · obtain ⟨g, O, s, rfl, Gg, k⟩ := h
    obtain ⟨wa0, ha0, ta0, sp0, kn0, kvs0, G⟩ := Gg.ex
    obtain ⟨dg, hg⟩ := G.ob
    refine ⟨_, pss_cons (ps_fld (pv 0) (pe_new cW hr) rfl) (pss_cons (ps_fld (pv 0) (pe_lst pa_nil) rfl) (pss_one (ps_fld (pv 0) pe_dnewK rfl))), ?_⟩
    intro x dx nx ndx nex
    refine ⟨x, dx, rfl, upd_same, fun ha ta H1 nha nta hne W kp => ⟨rfl, ?_⟩⟩
    have s0 : Same H (upd (upd H dx (.own x)) x (.ins CW dx [])) := fun b o e => by
      rw [upd_ne (ne_of_none e nx), upd_ne (ne_of_none e ndx)]
      exact e
    have k1 : ∀ b o, H b = some o → b ≠ x → H1 b = some o := fun b o e hb => kp b o (s0 b o e) hb
    have ngx : g ≠ x := ne_of_none hg nx
    refine ⟨_, rfl, g, CG, dg, _, rfl, k1 _ _ hg ngx, T.cl, T.nW, (by show 3 < 1000; decide), ?_⟩
    rw [flG_putW]
    refine ⟨Nat.zero_le _, fun p hp => ?_⟩
    have npg : p ≠ g := fun z => by rw [z, upd_same] at hp; cases hp
    have hp1 : H1 p = none := by rw [upd_ne npg] at hp; exact hp
    refine ⟨_, rfl, g, CG, dg, _, rfl, (by rw [upd_ne npg.symm, upd_same]), T.cl, T.nS, (by show 3 < 1000; decide), ?_⟩
    rw [flG_putS]
    intro d hd
    have ndg : d ≠ g := fun z => by rw [z, upd_same] at hd; cases hd
    have ndp : d ≠ p := fun z => by rw [z, upd_ne npg, upd_same] at hd; cases hd
    have hd1 : H1 d = none := by rw [upd_ne ndg, upd_ne ndp, upd_ne ndg] at hd; exact hd
    refine ⟨_, rfl, g, CG, dg, _, rfl, (by rw [upd_ne ndg.symm, upd_same]), T.cl, T.nK, (by show 3 < 1000; decide), ?_⟩
    rw [flG_putK]
    have hx0 : ∀ b, H1 b = none → b ≠ x → H b = none := fun b e hb => by
      cases q : H b with
      | none => rfl
      | some o =>
        rw [k1 b o q hb] at e
        cases e
    obtain ⟨dw, w1⟩ := W.ob
    have px : p ≠ x := fun z => by
      rw [z, w1] at hp1
      cases hp1
    have dxx : d ≠ x := fun z => by
      rw [z, w1] at hd1
      cases hd1
    have F := fresh_game (CG := CG) (CW := CW) (H := H) (H1 := H1) (H2 := upd (upd (upd (upd (upd H1 g (.ins CG dg (flG x sp0 kn0))) p (.lst [])) g (.ins CG dg (flG x p kn0))) d (.dK [])) g (.ins CG dg (flG x p d)))
      (p := p) (d := d) hg nx (s0.free nha) (s0.free nta) (hx0 p hp1 px) (hx0 d hd1 dxx) hne W k1 hp1 hd1 ndp.symm
      upd_same (by rw [upd_ne npg, upd_ne ndp.symm, upd_ne npg, upd_same]) (by rw [upd_ne ndg, upd_same])
      (fun b o e hb => by rw [upd_ne hb, upd_ne (ne_of_none e hd1), upd_ne hb, upd_ne (ne_of_none e hp1), upd_ne hb]; exact e)
    refine k _ _ F.1 ⟨fun b hb => ?_, fun b o e ho => F.2 b o e fun z => ho (z ▸ G.og)⟩
    rcases hb with rfl | ⟨n, _⟩
    · exact .inl G.og
    · exact .inr n

def spPutWord (CR CG CW : Addr) : Sp := fun vs H Q E => ∃ (g : Addr) (O : Addr → Prop) (s : Uw94.St) (a b : Nat), vs = [.ref g, .int (a : Int), .int (b : Int)] ∧ Gm CG CW H O g s ∧ (7 < a ∨ 7 < b → Rz CR E (-1) H) ∧
  (¬ (7 < a ∨ 7 < b) → 9 ≤ s.words.length → Rz CR E (-5) H) ∧
  (¬ (7 < a ∨ 7 < b) → ¬ 9 ≤ s.words.length → ∀ (O' : Addr → Prop) (H' : Hp), Gm CG CW H' O' g ⟨s.words ++ [(a, b)], []⟩ → Stp O H O' H' → Q (.int ((s.words.length : Nat) : Int)) H')
theorem scPutWord : FnScope ["self", "head", "tail", "number"] ["self", "head", "tail"] (defScope sPutWord) := ⟨rfl, rfl, rfl, by decide +kernel, rfl, by decide +kernel, by decide +kernel⟩
theorem can_putWord (D : DefM K CG "put_word" "Game.put_word" sPutWord ["self", "head", "tail"]) (T : TGa K CG) (TWo : TW K CW) (U : TK mg) (cM : CMust P w K mg base CR) (cN : CanM P w K mg base CX0 1 CW "many" ["self"] (spMany CW))
    (cP : CanM P w K mg base CX0 1 CW "put" ["self", "head", "tail"] (spPut CW)) : CanM P w K mg base (L2.CX P w) 4 CG "put_word" ["self", "head", "tail"] (spPutWord CR CG CW) := by
  refine D.canX scPutWord (fun vs H Q E h => ?_) (fun f cdv A outer s H vs Q E hr h => ?_)
  · obtain ⟨g, O, s, a, b, rfl, _⟩ := h
    rfl
  · obtain ⟨g, O, s, a, b, rfl, Gg, k1, k5, kq⟩ := h
    obtain ⟨wa, ha, ta, sp, kn, kvs, G⟩ := Gg.ex
    obtain ⟨dg, h1⟩ := G.ob
    obtain ⟨dw, h2⟩ := G.W.ob
    refine ⟨_, pss_cons (ps_expr (pe_fnX cM (takes_of rfl rfl rfl rfl) hr (pa_cons (pe_and (pe_cmpR op_le (pv 1) (pe_k U.high) (nomark _)) (pe_one (pe_cmpR op_le (pv 2) (pe_k U.high) (nomark _)))) (pa_cons (pe_un un_neg pe_int) pa_nil))))
      (pss_cons (ps_expr (pe_fnX cM (takes_of rfl rfl rfl rfl) hr (pa_cons (pe_cmpR op_lt (pe_mn cN TWo.cl (pe_fld (pv 0) rfl) hr) (pe_k U.most) (nomark _)) (pa_cons (pe_un un_neg pe_int) pa_nil))))
      (pss_cons (ps_set (i := 3) scPutWord.nd rfl (Or.inl rfl) (pe_mt cP TWo.cl (pe_fld (pv 0) rfl) hr (pa_cons (pv 1) (pa_cons (pv 2) pa_nil))))
      (pss_cons (ps_fld (pv 0) (pe_lst pa_nil) rfl)
      (pss_cons (ps_fld (pv 0) pe_dnewK rfl)
      (pss_one (ps_ret (pv 3))))))), ?_⟩
    refine ⟨_, rfl, _, _, rfl, rfl, _, rfl, ?_⟩
    by_cases c1 : a ≤ 7
    rotate_left
    · refine if_false_of (decide_eq_false (by omega)) ⟨_, rfl, false, -1, rfl, fun e => Bool.noConfusion e, fun _ => k1 (by omega)⟩
    refine if_true_of (decide_eq_true (by omega)) ⟨_, rfl, _, _, rfl, rfl, ?_⟩
    by_cases c2 : b ≤ 7
    rotate_left
    · exact ⟨_, rfl, _, -1, rfl, fun e => absurd (of_decide_eq_true e) (by omega), fun _ => k1 (by omega)⟩
    have c : ¬ (7 < a ∨ 7 < b) := by omega
    refine ⟨_, rfl, _, -1, rfl, fun _ => ?_, fun e => absurd (of_decide_eq_false e) (by omega)⟩
    refine ⟨_, rfl, g, CG, dg, _, _, rfl, h1, T.cl, T.nW, flG_words _ _ _, wa, dw, _, rfl, h2, flW_no (by decide +kernel) (by decide +kernel) _ _, wa, ha, ta, s.words, rfl, G.W, _, _, rfl, rfl, _, rfl, _, -5, rfl, fun e => ?_, fun e => k5 c (by have := of_decide_eq_false e; omega)⟩
    have c3 : s.words.length < 9 := by have := of_decide_eq_true e; omega
    refine ⟨_, rfl, g, CG, dg, _, _, rfl, h1, T.cl, T.nW, flG_words _ _ _, wa, dw, _, rfl, h2, flW_no (by decide +kernel) (by decide +kernel) _ _, _, rfl, _, rfl, wa, ha, ta, s.words, a, b, rfl, G.W, G.ht, by omega, ?_⟩
    obtain ⟨H1, hH1⟩ : ∃ H1, H1 = upd (upd H ha (.lst (vn (s.words.map (·.1) ++ [a])))) ta (.lst (vn (s.words.map (·.2) ++ [b]))) := ⟨_, rfl⟩
    rw [← hH1]
    have nga : g ≠ ha := ne_of h1 G.W.hd (by intro z; cases z)
    have ngt : g ≠ ta := ne_of h1 G.W.tl (by intro z; cases z)
    have nwh : wa ≠ ha := ne_of h2 G.W.hd (by intro z; cases z)
    have nwt : wa ≠ ta := ne_of h2 G.W.tl (by intro z; cases z)
    have kk : ∀ x o, H x = some o → x ≠ ha → x ≠ ta → H1 x = some o := fun x o e n1 n2 => by
      rw [hH1, upd_ne n2, upd_ne n1]
      exact e
    have eh : H1 ha = some (.lst (vn (s.words.map (·.1) ++ [a]))) := by rw [hH1, upd_ne G.ht, upd_same]
    have et : H1 ta = some (.lst (vn (s.words.map (·.2) ++ [b]))) := by rw [hH1, upd_same]
    have z1 : ∀ x, H1 x = none → H x = none := fun x e => by
      cases q : H x with
      | none => rfl
      | some o =>
        by_cases n1 : x = ha
        · rw [n1, eh] at e; cases e
        · by_cases n2 : x = ta
          · rw [n2, et] at e; cases e
          · rw [kk x o q n1 n2] at e; cases e
    refine ⟨Nat.zero_le _, fun p hp => ?_⟩
    have npg : p ≠ g := fun z => by rw [z, kk _ _ h1 nga ngt] at hp; cases hp
    refine ⟨_, rfl, g, CG, dg, _, rfl, (by rw [upd_ne npg.symm]; exact kk _ _ h1 nga ngt), T.cl, T.nS, (by show 3 < 1000; decide), ?_⟩
    rw [flG_putS]
    intro d hd
    have ndg : d ≠ g := fun z => by rw [z, upd_same] at hd; cases hd
    have ndp : d ≠ p := fun z => by rw [z, upd_ne npg, upd_same] at hd; cases hd
    have hd1 : H1 d = none := by rw [upd_ne ndg, upd_ne ndp] at hd; exact hd
    refine ⟨_, rfl, g, CG, dg, _, rfl, (by rw [upd_ne ndg.symm, upd_same]), T.cl, T.nK, (by show 3 < 1000; decide), ?_⟩
    rw [flG_putK]
    refine ⟨_, rfl, ?_⟩
    obtain ⟨H2, hH2⟩ : ∃ H2, H2 = upd (upd (upd (upd H1 p (.lst [])) g (.ins CG dg (flG wa p kn))) d (.dK [])) g (.ins CG dg (flG wa p d)) := ⟨_, rfl⟩
    rw [← hH2]
    have k2 : ∀ x o, H1 x = some o → x ≠ g → H2 x = some o := fun x o e hx => by
      rw [hH2, upd_ne hx, upd_ne (ne_of_none e hd1), upd_ne hx, upd_ne (ne_of_none e hp)]
      exact e
    have eg : H2 g = some (.ins CG dg (flG wa p d)) := by rw [hH2]; exact upd_same
    have ep : H2 p = some (.lst []) := by rw [hH2, upd_ne npg, upd_ne ndp.symm, upd_ne npg, upd_same]
    have ed : H2 d = some (.dK []) := by rw [hH2, upd_ne ndg, upd_same]
    have lh : H2 ha = some (.lst (vn (s.words.map (·.1) ++ [a]))) := k2 _ _ eh nga.symm
    have lt : H2 ta = some (.lst (vn (s.words.map (·.2) ++ [b]))) := k2 _ _ et ngt.symm
    have lw : H2 wa = some (.ins CW dw (flW ha ta)) := k2 _ _ (kk _ _ h2 nwh nwt) fun z => by
      rw [z, h1] at h2
      have q := HO.ins.inj (Option.some.inj h2)
      have q2 := congrArg List.length q.2.2
      exact absurd q2 (by show ¬ (3 = 2); decide)
    refine kq c (by omega) (fun x => x = g ∨ x = wa ∨ x = ha ∨ x = ta ∨ (H x = none ∧ ∃ o, H2 x = some o)) H2 ⟨wa, ha, ta, p, d, [], ?_⟩ ⟨fun x hx => ?_, fun x o e ho => ?_⟩
    · exact {
        ok := G.ok.word (by omega) (by omega) c3
        ob := ⟨dg, eg⟩
        W := ⟨⟨dw, lw⟩, by rw [lh, List.map_append]; rfl, by rw [lt, List.map_append]; rfl⟩
        S := ep
        D := ed
        ht := G.ht
        sh := fun z => by rw [z, eh] at hp; cases hp
        st := fun z => by rw [z, et] at hp; cases hp
        og := .inl rfl
        ow := .inr (.inl rfl)
        oh := .inr (.inr (.inl rfl))
        ot := .inr (.inr (.inr (.inl rfl)))
        os := .inr (.inr (.inr (.inr ⟨z1 p hp, _, ep⟩)))
        od := .inr (.inr (.inr (.inr ⟨z1 d hd1, _, ed⟩)))
        dom := fun x hx => by
          rcases hx with rfl | rfl | rfl | rfl | ⟨_, o, e⟩
          · exact ⟨_, eg⟩
          · exact ⟨_, lw⟩
          · exact ⟨_, lh⟩
          · exact ⟨_, lt⟩
          · exact ⟨o, e⟩
        nd := List.nodup_nil
        keys := fun y hy => absurd hy (by simp)
        tabs := fun j v ev => by cases ev }
    · rcases hx with rfl | rfl | rfl | rfl | ⟨n, _⟩
      · exact .inl G.og
      · exact .inl G.ow
      · exact .inl G.oh
      · exact .inl G.ot
      · exact .inr n
    · exact k2 x o (kk x o e (fun z => ho (z ▸ G.oh)) fun z => ho (z ▸ G.ot)) fun z => ho (z ▸ G.og)

/-- the said words' list is another one, all else stands -/
theorem GameAt.said {H H' : Hp} {O : Addr → Prop} {g wa ha ta sp kn : Addr} {kvs : List (Key × V)} {s : Uw94.St} {l : List Nat} (G : GameAt CG CW H O g wa ha ta sp kn kvs s) (ok : WM.Ok { s with said := l })
    (e : H' sp = some (.lst (vn l))) (m : ∀ b o, b ≠ sp → H b = some o → H' b = some o) : GameAt CG CW H' O g wa ha ta sp kn kvs { s with said := l } := by
  obtain ⟨dg, h1⟩ := G.ob
  obtain ⟨dw, h2⟩ := G.W.ob
  exact {
    ok := ok
    ob := ⟨dg, m _ _ (ne_of h1 G.S (by intro z; cases z)) h1⟩
    W := ⟨⟨dw, m _ _ (ne_of h2 G.S (by intro z; cases z)) h2⟩, m _ _ G.sh.symm G.W.hd, m _ _ G.st.symm G.W.tl⟩
    S := e
    D := m _ _ (ne_of G.D G.S (by intro z; cases z)) G.D
    ht := G.ht
    sh := G.sh
    st := G.st
    og := G.og
    ow := G.ow
    oh := G.oh
    ot := G.ot
    os := G.os
    od := G.od
    dom := fun b hb => by
      by_cases c : b = sp
      · rw [c]; exact ⟨_, e⟩
      · obtain ⟨o, q⟩ := G.dom b hb
        exact ⟨o, m b o c q⟩
    nd := G.nd
    keys := G.keys
    tabs := fun k v ev => let ⟨r, z1, z2⟩ := G.tabs k v ev; ⟨r, z1, z2.keep (fun _ h => h) fun b xs _ hb q => m b _ hb q⟩ }

def spSay (CR CG CW : Addr) : Sp := fun vs H Q E => ∃ (g : Addr) (O : Addr → Prop) (s : Uw94.St) (i : Nat), vs = [.ref g, .int (i : Int)] ∧ Gm CG CW H O g s ∧ (s.words.length ≤ i → Rz CR E (-2) H) ∧
  (¬ s.words.length ≤ i → s.said.contains i = true → Rz CR E (-4) H) ∧ (¬ s.words.length ≤ i → ¬ s.said.contains i = true → WM.begB s.words i (WM.letterS s) = false → Rz CR E (-6) H) ∧
  (¬ s.words.length ≤ i → ¬ s.said.contains i = true → WM.begB s.words i (WM.letterS s) = true → ∀ (O' : Addr → Prop) (H' : Hp), Gm CG CW H' O' g { s with said := s.said ++ [i] } → Stp O H O' H' →
    Q (.int (((WM.nextL s.words (WM.goneS { s with said := s.said ++ [i] }) (WM.letterS { s with said := s.said ++ [i] })).length : Nat) : Int)) H')
theorem scSay : FnScope ["self", "word"] ["self", "word"] (defScope sSay) := ⟨rfl, rfl, rfl, by decide +kernel, rfl, by decide +kernel, by decide +kernel⟩
theorem can_say (D : DefM K CG "say" "Game.say" sSay ["self", "word"]) (T : TGa K CG) (TWo : TW K CW) (U : TK mg) (cM : CMust P w K mg base CR) (cE : CanM P w K mg base (L2.CX P w) 4 CG "be_word" ["self", "word"] (spBeWord CR CG CW))
    (cB : CanM P w K mg base CX0 1 CW "begins" ["self", "word", "letter"] (spBegins CW)) (cL : CanM P w K mg base CX0 2 CG "letter" ["self"] (spLetter CG CW)) (cS : CanM P w K mg base CX0 4 CG "sayable" ["self"] (spSayable CG CW)) :
    CanM P w K mg base (L2.CX P w) 5 CG "say" ["self", "word"] (spSay CR CG CW) := by
  refine D.canX scSay (fun vs H Q E h => ?_) (fun f cdv A outer s H vs Q E hr h => ?_)
  · obtain ⟨g, O, s, i, rfl, _⟩ := h
    rfl
  · obtain ⟨g, O, s, i, rfl, Gg, k2, k4, k6, kq⟩ := h
    obtain ⟨wa, ha, ta, sp, kn, kvs, G⟩ := Gg.ex
    obtain ⟨dg, h1⟩ := G.ob
    obtain ⟨dw, h2⟩ := G.W.ob
    refine ⟨_, pss_cons (ps_expr (pe_mtX cE (takes_of rfl rfl rfl rfl) T.cl (pv 0) hr (pa_cons (pv 1) pa_nil)))
      (pss_cons (ps_expr (pe_fnX cM (takes_of rfl rfl rfl rfl) hr (pa_cons (pe_cmpR op_notIn_seq (pv 1) (pe_fld (pv 0) rfl) (by rfl)) (pa_cons (pe_un un_neg pe_int) pa_nil))))
      (pss_cons (ps_expr (pe_fnX cM (takes_of rfl rfl rfl rfl) hr (pa_cons (pe_mt cB TWo.cl (pe_fld (pv 0) rfl) hr (pa_cons (pv 1) (pa_cons (pe_mn cL T.cl (pv 0) hr) pa_nil))) (pa_cons (pe_un un_neg pe_int) pa_nil))))
      (pss_cons (ps_expr (pe_bm PySem.F.plainAttrs_list PySem.F.slot_list_append PySem.F.type_list_append mt_append (pe_fld (pv 0) rfl) (pa_cons (pv 1) pa_nil)))
      (pss_one (ps_ret (pe_callB call_len_seq (by rfl) U.len PySem.boot_len (pa_cons (pe_mn cS T.cl (pv 0) hr) pa_nil))))))), ?_⟩
    refine ⟨_, rfl, g, dg, _, rfl, h1, flG_no (by decide +kernel) (by decide +kernel) (by decide +kernel) _ _ _, _, rfl, g, O, s, i, rfl, Gg, fun hi => ?_, fun hi => k2 hi⟩
    have c1 : ¬ s.words.length ≤ i := by omega
    refine ⟨_, rfl, _, rfl, g, CG, dg, _, _, rfl, h1, T.cl, T.nS, flG_spoken _ _ _, sp, _, rfl, .inl (SqL.of G.S), rfl, vn_flat _, _, rfl, _, -4, rfl, fun e => ?_, fun e => ?_⟩
    rotate_left
    · refine k4 c1 ?_
      rw [if_pos rfl, vn_in] at e
      simpa using e
    have c2 : ¬ s.said.contains i = true := by
      rw [if_pos rfl, vn_in] at e
      simpa using e
    refine ⟨_, rfl, g, CG, dg, _, _, rfl, h1, T.cl, T.nW, flG_words _ _ _, wa, dw, _, rfl, h2, flW_no (by decide +kernel) (by decide +kernel) _ _, _, rfl,
      _, rfl, g, dg, _, rfl, h1, flG_no (by decide +kernel) (by decide +kernel) (by decide +kernel) _ _ _, g, O, s, rfl, Gg, wa, ha, ta, s.words, i, WM.letterS s, rfl, G.W, hi, _, rfl, _, -6, rfl, fun e6 => ?_, fun e6 => k6 c1 c2 e6⟩
    have hl := said_le G.ok
    refine ⟨_, rfl, g, CG, dg, _, _, rfl, h1, T.cl, T.nS, flG_spoken _ _ _, .inl ⟨rfl, _, SqL.of G.S⟩, _, rfl, sp, _, _, rfl, rfl, G.S, small1000 (by rw [vn_len]; omega), ?_⟩
    have ev : vn s.said ++ [V.int (i : Int)] = vn (s.said ++ [i]) := by
      unfold vn
      rw [List.map_append]
      rfl
    rw [ev]
    have hn : i ∉ s.said := fun z => c2 (List.contains_iff_mem.mpr z)
    have G2 := G.said (H' := upd H sp (.lst (vn (s.said ++ [i])))) (G.ok.say hi hn) upd_same fun b o hb e => by rw [upd_ne hb]; exact e
    have Gg2 : Gm CG CW (upd H sp (.lst (vn (s.said ++ [i])))) O g { s with said := s.said ++ [i] } := ⟨wa, ha, ta, sp, kn, kvs, G2⟩
    obtain ⟨dg2, e1⟩ := G2.ob
    refine ⟨_, rfl, g, dg2, _, rfl, e1, flG_no (by decide +kernel) (by decide +kernel) (by decide +kernel) _ _ _, g, O, _, rfl, Gg2, fun p H' s' np hp => ⟨p, _, rfl, .inl (SqL.of hp), ?_⟩⟩
    rw [vn_len]
    refine kq c1 c2 e6 O H' (Gg2.same s') ⟨fun b hb => .inl hb, fun b o e ho => s' b o ?_⟩
    rw [upd_ne (a := sp) (b := b) fun z => ho (by rw [z]; exact G.os)]
    exact e

def spUnsay (CR CG CW : Addr) : Sp := fun vs H Q E => ∃ (g : Addr) (O : Addr → Prop) (s : Uw94.St), vs = [.ref g] ∧ Gm CG CW H O g s ∧ (s.said.getLast? = none → Rz CR E (-9) H) ∧
  (∀ i, s.said.getLast? = some i → ∀ (O' : Addr → Prop) (H' : Hp), Gm CG CW H' O' g { s with said := s.said.dropLast } → Stp O H O' H' → Q (.int (i : Int)) H')
theorem scUnsay : FnScope ["self"] ["self"] (defScope sUnsay) := ⟨rfl, rfl, rfl, by decide +kernel, rfl, by decide +kernel, by decide +kernel⟩
theorem can_unsay (D : DefM K CG "unsay" "Game.unsay" sUnsay ["self"]) (T : TGa K CG) (U : TK mg) (cM : CMust P w K mg base CR) : CanM P w K mg base (L2.CX P w) 4 CG "unsay" ["self"] (spUnsay CR CG CW) := by
  refine D.canX scUnsay (fun vs H Q E h => ?_) (fun f cdv A outer s H vs Q E hr h => ?_)
  · obtain ⟨g, O, s, rfl, _⟩ := h
    rfl
  · obtain ⟨g, O, s, rfl, Gg, k9, kq⟩ := h
    obtain ⟨wa, ha, ta, sp, kn, kvs, G⟩ := Gg.ex
    obtain ⟨dg, h1⟩ := G.ob
    refine ⟨_, pss_cons (ps_expr (pe_fnX cM (takes_of rfl rfl rfl rfl) hr (pa_cons (pe_cmpR op_gt (pe_callB call_len_seq (by rfl) U.len PySem.boot_len (pa_cons (pe_fld (pv 0) rfl) pa_nil)) pe_int (nomark _)) (pa_cons (pe_un un_neg pe_int) pa_nil))))
      (pss_one (ps_ret (pe_bm0 PySem.F.plainAttrs_list PySem.F.slot_list_pop PySem.F.type_list_pop mt_pop (pe_fld (pv 0) rfl)))), ?_⟩
    refine ⟨_, rfl, g, CG, dg, _, _, rfl, h1, T.cl, T.nS, flG_spoken _ _ _, _, _, rfl, .inl (SqL.of G.S), _, _, rfl, rfl, _, rfl, _, -9, rfl, fun e => ?_, fun e => k9 ?_⟩
    rotate_left
    · have q := of_decide_eq_false e
      rw [vn_len] at q
      exact List.getLast?_eq_none_iff.mpr (List.length_eq_zero_iff.mp (by omega))
    have q := of_decide_eq_true e
    rw [vn_len] at q
    cases el : s.said.getLast? with
    | none =>
      rw [List.getLast?_eq_none_iff.mp el] at q
      exact absurd q (by decide)
    | some i =>
      have hi := snoc_of el
      have ev : vn s.said = vn s.said.dropLast ++ [V.int (i : Int)] := by
        have q := congrArg vn hi
        rw [show vn (s.said.dropLast ++ [i]) = vn s.said.dropLast ++ [V.int (i : Int)] from List.map_append] at q
        exact q
      refine ⟨_, rfl, g, CG, dg, _, _, rfl, h1, T.cl, T.nS, flG_spoken _ _ _, .inl ⟨rfl, _, SqL.of G.S⟩, sp, _, V.int (i : Int), rfl, rfl, G.S, ?_, ?_⟩
      · rw [ev, List.length_append]
        simp
      · have ed : (vn s.said).dropLast = vn s.said.dropLast := by
          rw [ev]
          exact List.dropLast_concat
        rw [ed]
        have G2 := G.said (H' := upd H sp (.lst (vn s.said.dropLast))) G.ok.back upd_same fun b o hb e => by rw [upd_ne hb]; exact e
        refine kq i el O _ ⟨wa, ha, ta, sp, kn, kvs, G2⟩ ⟨fun b hb => .inl hb, fun b o e ho => ?_⟩
        rw [upd_ne (a := sp) (b := b) fun z => ho (by rw [z]; exact G.os)]
        exact e
end
end WC

/-! W6: the first chains. -/
namespace WC
open PySem PySem.Spec PyProof.Rows L2
open Uw94 (Words)
abbrev sFirstOf : Stmt := top 31
abbrev sFirstLong : Stmt := top 32
abbrev sFirstOpen : Stmt := top 33
abbrev sFirstWay : Stmt := top 34
theorem filter_zero {p : Nat → Bool} {l : List Nat} {i : Nat} (h : l.find? p = some i) : (l.filter p)[0]? = some i := by
  rw [← List.head?_eq_getElem?, List.head?_filter, h]
section
variable {P : Program} {w : World} {K : PySem.W.Frag} {mg : Str → Option Value} {base : Heap} {CW : Addr}
/-- the words, a table whole -/
structure FCtx (CW : Addr) (H : Hp) (wa r : Addr) (ws : Words) (v : Nat → Nat → Nat) (g l : Nat) : Prop where
  wat : ∃ ha ta, WordsAt CW H wa ha ta ws
  ok : WordsOk ws
  rows : RowsV H r 0 (2 ^ ws.length) v
  hg : g < 2 ^ ws.length
  hl : l ≤ 8
theorem FCtx.same {H H' : Hp} {wa r : Addr} {ws : Words} {v : Nat → Nat → Nat} {g l : Nat} (h : FCtx CW H wa r ws v g l) (s : Same H H') : FCtx CW H' wa r ws v g l :=
  ⟨let ⟨ha, ta, W⟩ := h.wat; ⟨ha, ta, W.same s⟩, h.ok, h.rows.same s, h.hg, h.hl⟩
theorem FCtx.at {H : Hp} {wa r : Addr} {ws : Words} {v : Nat → Nat → Nat} {g l g' l' : Nat} (h : FCtx CW H wa r ws v g l) (hg : g' < 2 ^ ws.length) (hl : l' ≤ 8) : FCtx CW H wa r ws v g' l' := ⟨h.wat, h.ok, h.rows, hg, hl⟩
abbrev nFO : List Str := ["words", "rows", "gone", "letter", "worth", "word"]
def spFirstOf (CW : Addr) : Sp := fun vs H Q _ => ∃ (wa r : Addr) (ws : Words) (v : Nat → Nat → Nat) (g l n i : Nat), vs = [.ref wa, .ref r, .int (g : Int), .int (l : Int), .int (n : Int)] ∧ FCtx CW H wa r ws v g l ∧
  (WM.nextL ws g l).find? (fun i => WM.bh ws v g i == n) = some i ∧ ∀ H', Same H H' → Q (.int (i : Int)) H'
theorem scFirstOf : FnScope nFO ["words", "rows", "gone", "letter", "worth"] (defScope sFirstOf) := ⟨rfl, rfl, rfl, by decide +kernel, rfl, by decide +kernel, by decide +kernel⟩
theorem can_firstOf (D : Def K mg "first_of_worth" sFirstOf ["words", "rows", "gone", "letter", "worth"]) (T : TW K CW) (cN : CanM P w K mg base CX0 3 CW "next_ones" ["self", "gone", "letter"] (spNext CW)) (cB : Can P w K mg base CX0 2 "behind" ["words", "rows", "gone", "word"] (spBehind CW)) :
    Can P w K mg base CX0 4 "first_of_worth" ["words", "rows", "gone", "letter", "worth"] (spFirstOf CW) := by
  refine D.can scFirstOf (fun vs H Q E h => ?_) (fun f cdv A outer s H vs Q E hr h => ?_)
  · obtain ⟨wa, r, ws, v, g, l, n, i, rfl, _⟩ := h
    rfl
  · obtain ⟨wa, r, ws, v, g, l, n, i, rfl, C, hf, k⟩ := h
    obtain ⟨ha, ta, W⟩ := C.wat
    obtain ⟨dx, h1⟩ := W.ob
    refine ⟨_, pss_one (ps_ret (pe_ix ix_list (pe_lc (own := [("word", 5)]) (g := gName 5) rfl scFirstOf.nd
      (pi_list (pe_mt cN T.cl (pv 0) hr (pa_cons (pv 2) (pa_cons (pv 3) pa_nil))))
      (blkOk_by (N := nFO) (sc := defScope sFirstOf) (by decide +kernel)) (fun _ _ _ _ _ => pg_name (i := 5) scFirstOf.nd rfl (Or.inl rfl))
      (fun _ _ _ _ _ => pts_one (pt_cmpR op_eq (pe_fn cB hr (pa_cons (pv 0) (pa_cons (pv 1) (pa_cons (pv 2) (pa_cons (pv 5) pa_nil))))) (pv 4) (nomark _))) (fun _ _ _ _ _ => pv 5)) pe_int (fun _ _ => rfl))), ?_⟩
    refine ⟨_, rfl, wa, dx, _, rfl, h1, flW_no (by decide +kernel) (by decide +kernel) _ _, _, rfl, _, rfl, wa, ha, ta, ws, g, l, rfl, W, C.ok.many, fun p H1 s1 np hp => ?_⟩
    refine ⟨p, rfl, ⟨_, SqL.of hp⟩, fun D hD => ?_⟩
    refine lc_pure (ns := WM.nextL ws g l) (fun i => WM.bh ws v g i == n) (fun (n : Nat) => V.int (n : Int)) (Nat.le_trans WM.next_length (by have := C.ok.many; omega)) (SqL.of hp) hD (fun m H2 hm s2 R1 R0 c1 c0 => ?_) fun H2 s2 e2 => ?_
    · have C2 := (C.same s1).same s2
      obtain ⟨ha2, ta2, W2⟩ := C2.wat
      have hi2 := WM.mem_left.mp (WM.next_left hm)
      refine ⟨rfl, _, rfl, _, rfl, _, rfl, _, rfl, wa, ha2, ta2, r, ws, _, _, _, g, m, rfl, W2, C2.ok, hi2.1, C2.rows, Nat.zero_le _, WM.or_lt C2.hg hi2.1, _, rfl, rfl, _, rfl, ?_⟩
      have ed : decide (V.int ((WM.bh ws v g m : Nat) : Int) = V.int (n : Int)) = (WM.bh ws v g m == n) := dec_nat _ _
      cases e : (WM.bh ws v g m == n) with
      | true => exact if_true_of (ed.trans e) ⟨_, rfl, c1 e H2 (Same.refl H2)⟩
      | false => exact if_false_of (ed.trans e) (c0 e H2 (Same.refl H2))
    · exact ⟨D, _, _, V.int (i : Int), rfl, rfl, SqL.of e2, atI_nat (j := 0) (vn_get (filter_zero hf)), k H2 (s1.trans s2)⟩

def spFirstLong (CW : Addr) : Sp := fun vs H Q _ => ∃ (wa r : Addr) (ws : Words) (g l : Nat), vs = [.ref wa, .ref r, .int (g : Int), .int (l : Int)] ∧ FCtx CW H wa r ws (WM.val ws 1) g l ∧
  ∀ (p : Addr) (H' : Hp), Same H H' → H p = none → H' p = some (.lst (vn (WM.chainM ws (WM.val ws 1) (WM.val ws 1 g l) g l))) → Q (.ref p) H'
abbrev nFL : List Str := ["words", "rows", "gone", "letter", "chain", "word"]
theorem scFirstLong : FnScope nFL psW (defScope sFirstLong) := ⟨rfl, rfl, rfl, by decide +kernel, rfl, by decide +kernel, by decide +kernel⟩
theorem vn_snoc (l : List Nat) (i : Nat) : vn l ++ [V.int (i : Int)] = vn (l ++ [i]) := by
  unfold vn
  rw [List.map_append]
  rfl
theorem can_firstLong (D : Def K mg "first_longest" sFirstLong psW) (T : TW K CW) (cF : Can P w K mg base CX0 4 "first_of_worth" ["words", "rows", "gone", "letter", "worth"] (spFirstOf CW)) (cW : Can P w K mg base CX0 1 "with_word" ["gone", "word"] spWith)
    (cT : CanM P w K mg base CX0 1 CW "tail_of" ["self", "word"] (spTail CW)) : Can P w K mg base CX0 5 "first_longest" psW (spFirstLong CW) := by
  refine D.can scFirstLong (fun vs H Q E h => ?_) (fun f cdv A outer s H vs Q E hr h => ?_)
  · obtain ⟨wa, r, ws, g, l, rfl, _⟩ := h
    rfl
  · obtain ⟨wa, r, ws, g, l, rfl, C, k⟩ := h
    refine ⟨_, pss_cons (ps_set (i := 4) scFirstLong.nd rfl (Or.inl rfl) (pe_lst pa_nil))
      (pss_cons (ps_while PassesOwn.never (pt_cmpR op_gt (pe_ix ix_list (pe_ix ix_list (pv 1) (pv 2) (fun _ _ => rfl)) (pv 3) (fun _ _ => rfl)) pe_int (nomark _))
        (pss_cons (ps_set (i := 5) scFirstLong.nd rfl (Or.inl rfl) (pe_fn cF hr (pa_cons (pv 0) (pa_cons (pv 1) (pa_cons (pv 2) (pa_cons (pv 3) (pa_cons (pe_op op_sub (pe_ix ix_list (pe_ix ix_list (pv 1) (pv 2) (fun _ _ => rfl)) (pv 3) (fun _ _ => rfl)) pe_int) pa_nil)))))))
        (pss_cons (ps_expr (pe_bm PySem.F.plainAttrs_list PySem.F.slot_list_append PySem.F.type_list_append mt_append (pv 4) (pa_cons (pv 5) pa_nil)))
        (pss_cons (ps_set (i := 2) scFirstLong.nd rfl (Or.inl rfl) (pe_fn cW hr (pa_cons (pv 2) (pa_cons (pv 5) pa_nil))))
        (pss_one (ps_set (i := 3) scFirstLong.nd rfl (Or.inl rfl) (pe_mt cT T.cl (pv 0) hr (pa_cons (pv 5) pa_nil))))))))
      (pss_one (ps_ret (pv 4)))), ?_⟩
    refine ⟨Nat.zero_le _, fun c hc => ?_⟩
    have tot := WM.chainM_length C.ok.small (WM.val ws 1 g l) g l C.hg C.hl rfl
    have tle := WM.long_le C.ok.small ws.length g l C.hg C.hl WM.left_length
    have h9 := C.ok.many
    refine ⟨fun m σ H' => ∃ (g' l' : Nat) (acc : List Nat) (x : Option V), m = WM.val ws 1 g' l' ∧ σ = [some (.ref wa), some (.ref r), some (.int (g' : Int)), some (.int (l' : Int)), some (.ref c), x] ∧ Same H H' ∧ H' c = some (.lst (vn acc)) ∧ g' < 2 ^ ws.length ∧ l' ≤ 8 ∧
      acc ++ WM.chainM ws (WM.val ws 1) m g' l' = WM.chainM ws (WM.val ws 1) (WM.val ws 1 g l) g l, ⟨_, g, l, [], none, rfl, rfl, same_new hc, upd_same, C.hg, C.hl, rfl⟩, ?_⟩
    rintro m σ H1 ⟨g', l', acc, x, rfl, rfl, s1, hacc, hg', hl', he⟩
    have C1 := (C.same s1).at hg' hl'
    obtain ⟨ha, ta, W1⟩ := C1.wat
    obtain ⟨dx, o1⟩ := W1.ob
    obtain ⟨rs, r1, r2, r3⟩ := C1.rows.ex
    obtain ⟨y, y1, y2⟩ := r3 _ (Nat.zero_le _) hg'
    refine ⟨_, rfl, _, rfl, r, rs, _, _, rfl, rfl, SqL.of r1, atI_nat y1, _, rfl, y, _, _, _, rfl, rfl, SqL.of y2, atI_nat (row_get hl'), _, _, rfl, rfl, _, rfl, ?_⟩
    cases hv : WM.val ws 1 g' l' with
    | zero =>
      refine if_false_of (decide_eq_false (by omega)) ⟨_, rfl, ?_⟩
      rw [hv] at he
      have he : acc ++ [] = _ := he
      rw [List.append_nil] at he
      rw [he] at hacc
      exact k c H1 s1 hc hacc
    | succ n =>
      obtain ⟨i, hf, h1, h2, h3⟩ := WM.long_find C.ok.small hg' hl' hv
      have hlast := C.ok.small.last i
      refine if_true_of (decide_eq_true (by omega)) ⟨fun σ' H' => ∃ m', m' < n + 1 ∧ ∃ (g' l' : Nat) (acc : List Nat) (x : Option V), m' = WM.val ws 1 g' l' ∧ σ' = [some (.ref wa), some (.ref r), some (.int (g' : Int)), some (.int (l' : Int)), some (.ref c), x] ∧ Same H H' ∧ H' c = some (.lst (vn acc)) ∧ g' < 2 ^ ws.length ∧ l' ≤ 8 ∧
        acc ++ WM.chainM ws (WM.val ws 1) m' g' l' = WM.chainM ws (WM.val ws 1) (WM.val ws 1 g l) g l, fun σ' H' q => q, ?_⟩
      have en : (((n + 1 : Nat) : Int)) - 1 = (n : Int) := by omega
      refine ⟨_, rfl, _, rfl, _, rfl, _, rfl, _, rfl, _, rfl, r, rs, _, _, rfl, rfl, SqL.of r1, atI_nat y1, _, rfl, y, _, _, _, rfl, rfl, SqL.of y2, atI_nat (row_get hl'), _, _, rfl, rfl, wa, r, ws, _, g', l', n, i, ?_, C1, hf, fun H2 s2 => ?_⟩
      · rw [hv]
        exact congrArg (fun z => [V.ref wa, V.ref r, V.int (g' : Int), V.int (l' : Int), V.int z]) en
      · have s12 := s1.trans s2
        have W2 := W1.same s2
        have he2 : (acc ++ [i]) ++ WM.chainM ws (WM.val ws 1) n (g' ||| 2 ^ i) (Uw94.last ws i) = WM.chainM ws (WM.val ws 1) (WM.val ws 1 g l) g l := by
          rw [← he, hv, WM.chainM_succ hf, List.append_assoc]
          rfl
        have hlen : acc.length ≤ 9 := by
          have q := congrArg List.length he
          rw [List.length_append, tot] at q
          omega
        refine ⟨_, rfl, .inl ⟨rfl, _, SqL.of (s2 _ _ hacc)⟩, _, rfl, c, _, _, rfl, rfl, s2 _ _ hacc, small1000 (by rw [vn_len]; omega), ?_⟩
        rw [vn_snoc]
        have nc : ∀ {b : Addr} {o : HO}, H b = some o → b ≠ c := fun {b o} e => ne_of_none e hc
        have W3 : ∀ {b : Addr} {o : HO}, H b = some o → (upd H2 c (.lst (vn (acc ++ [i])))) b = some o := fun {b o} e => by
          rw [upd_ne (nc e)]
          exact s12 _ _ e
        have s3 : Same H (upd H2 c (.lst (vn (acc ++ [i])))) := fun b o e => W3 e
        obtain ⟨ha0, ta0, W0⟩ := C.wat
        have W4 := W0.same s3
        obtain ⟨dx4, o4⟩ := W4.ob
        refine ⟨_, rfl, _, rfl, g', i, rfl, by omega, ?_⟩
        refine ⟨_, rfl, wa, dx4, _, rfl, o4, flW_no (by decide +kernel) (by decide +kernel) _ _, _, rfl, wa, ha0, ta0, ws, i, rfl, W4, h1, ?_⟩
        exact ⟨n, Nat.lt_succ_self n, g' ||| 2 ^ i, Uw94.last ws i, acc ++ [i], some (.int (i : Int)), h3.symm, rfl, s3, upd_same, WM.or_lt hg' h1, by omega, he2⟩

abbrev nFOp : List Str := ["words", "rows", "gone", "letter", "word"]
def spFirstOpen (CW : Addr) : Sp := fun vs H Q _ => ∃ (wa r : Addr) (ws : Words) (v : Nat → Nat → Nat) (g l i : Nat), vs = [.ref wa, .ref r, .int (g : Int), .int (l : Int)] ∧ FCtx CW H wa r ws v g l ∧
  (WM.nextL ws g l).find? (fun i => WM.bh ws v g i != 0) = some i ∧ ∀ H', Same H H' → Q (.int (i : Int)) H'
theorem scFirstOpen : FnScope nFOp psW (defScope sFirstOpen) := ⟨rfl, rfl, rfl, by decide +kernel, rfl, by decide +kernel, by decide +kernel⟩
theorem can_firstOpen (D : Def K mg "first_open" sFirstOpen psW) (T : TW K CW) (cN : CanM P w K mg base CX0 3 CW "next_ones" ["self", "gone", "letter"] (spNext CW)) (cB : Can P w K mg base CX0 2 "behind" ["words", "rows", "gone", "word"] (spBehind CW)) :
    Can P w K mg base CX0 4 "first_open" psW (spFirstOpen CW) := by
  refine D.can scFirstOpen (fun vs H Q E h => ?_) (fun f cdv A outer s H vs Q E hr h => ?_)
  · obtain ⟨wa, r, ws, v, g, l, i, rfl, _⟩ := h
    rfl
  · obtain ⟨wa, r, ws, v, g, l, i, rfl, C, hf, k⟩ := h
    obtain ⟨ha, ta, W⟩ := C.wat
    obtain ⟨dx, h1⟩ := W.ob
    refine ⟨_, pss_one (ps_ret (pe_ix ix_list (pe_lc (own := [("word", 4)]) (g := gName 4) rfl scFirstOpen.nd
      (pi_list (pe_mt cN T.cl (pv 0) hr (pa_cons (pv 2) (pa_cons (pv 3) pa_nil))))
      (blkOk_by (N := nFOp) (sc := defScope sFirstOpen) (by decide +kernel)) (fun _ _ _ _ _ => pg_name (i := 4) scFirstOpen.nd rfl (Or.inl rfl))
      (fun _ _ _ _ _ => pts_one (pt_cmpR op_gt (pe_fn cB hr (pa_cons (pv 0) (pa_cons (pv 1) (pa_cons (pv 2) (pa_cons (pv 4) pa_nil))))) pe_int (nomark _))) (fun _ _ _ _ _ => pv 4)) pe_int (fun _ _ => rfl))), ?_⟩
    refine ⟨_, rfl, wa, dx, _, rfl, h1, flW_no (by decide +kernel) (by decide +kernel) _ _, _, rfl, _, rfl, wa, ha, ta, ws, g, l, rfl, W, C.ok.many, fun p H1 s1 np hp => ?_⟩
    refine ⟨p, rfl, ⟨_, SqL.of hp⟩, fun D hD => ?_⟩
    refine lc_pure (ns := WM.nextL ws g l) (fun i => WM.bh ws v g i != 0) (fun (n : Nat) => V.int (n : Int)) (Nat.le_trans WM.next_length (by have := C.ok.many; omega)) (SqL.of hp) hD (fun m H2 hm s2 R1 R0 c1 c0 => ?_) fun H2 s2 e2 => ?_
    · have C2 := (C.same s1).same s2
      obtain ⟨ha2, ta2, W2⟩ := C2.wat
      have hi2 := WM.mem_left.mp (WM.next_left hm)
      refine ⟨rfl, _, rfl, _, rfl, _, rfl, _, rfl, wa, ha2, ta2, r, ws, _, _, _, g, m, rfl, W2, C2.ok, hi2.1, C2.rows, Nat.zero_le _, WM.or_lt C2.hg hi2.1, _, _, rfl, rfl, _, rfl, ?_⟩
      by_cases e : WM.bh ws v g m = 0
      · refine if_false_of (decide_eq_false (by omega)) (c0 (by rw [e]; rfl) H2 (Same.refl H2))
      · refine if_true_of (decide_eq_true (by omega)) ⟨_, rfl, c1 (by simpa using e) H2 (Same.refl H2)⟩
    · exact ⟨D, _, _, V.int (i : Int), rfl, rfl, SqL.of e2, atI_nat (j := 0) (vn_get (filter_zero hf)), k H2 (s1.trans s2)⟩

def spFirstWay (CW : Addr) : Sp := fun vs H Q _ => ∃ (wa r : Addr) (ws : Words) (g l : Nat), vs = [.ref wa, .ref r, .int (g : Int), .int (l : Int)] ∧ FCtx CW H wa r ws (WM.val ws 2) g l ∧ WM.val ws 2 g l ≠ 0 ∧
  ∀ (p : Addr) (H' : Hp), Same H H' → H p = none → H' p = some (.lst (vn (WM.wayM ws (WM.val ws 2) (WM.leftL ws g).length g l))) → Q (.ref p) H'
abbrev nFW : List Str := ["words", "rows", "gone", "letter", "chain", "step", "word"]
theorem scFirstWay : FnScope nFW psW (defScope sFirstWay) := ⟨rfl, rfl, rfl, by decide +kernel, rfl, by decide +kernel, by decide +kernel⟩
theorem can_firstWay (D : Def K mg "first_way" sFirstWay psW) (T : TW K CW) (U : TK mg) (cL : CanM P w K mg base CX0 2 CW "left" ["self", "gone"] (spLeft CW)) (cF : Can P w K mg base CX0 4 "first_open" psW (spFirstOpen CW)) (cW : Can P w K mg base CX0 1 "with_word" ["gone", "word"] spWith)
    (cT : CanM P w K mg base CX0 1 CW "tail_of" ["self", "word"] (spTail CW)) : Can P w K mg base CX0 5 "first_way" psW (spFirstWay CW) := by
  refine D.can scFirstWay (fun vs H Q E h => ?_) (fun f cdv A outer s H vs Q E hr h => ?_)
  · obtain ⟨wa, r, ws, g, l, rfl, _⟩ := h
    rfl
  · obtain ⟨wa, r, ws, g, l, rfl, C, hne, k⟩ := h
    refine ⟨_, pss_cons (ps_set (i := 4) scFirstWay.nd rfl (Or.inl rfl) (pe_lst pa_nil))
      (pss_cons (ps_for PassesOwn.never rfl (pi_range1 rfl U.range (pa_cons (pe_callB call_len_seq (by rfl) U.len PySem.boot_len (pa_cons (pe_mt cL T.cl (pv 0) hr (pa_cons (pv 2) pa_nil)) pa_nil)) pa_nil)) (pg_name (i := 5) scFirstWay.nd rfl (Or.inl rfl))
        (pss_cons (ps_set (i := 6) scFirstWay.nd rfl (Or.inl rfl) (pe_fn cF hr (pa_cons (pv 0) (pa_cons (pv 1) (pa_cons (pv 2) (pa_cons (pv 3) pa_nil))))))
        (pss_cons (ps_expr (pe_bm PySem.F.plainAttrs_list PySem.F.slot_list_append PySem.F.type_list_append mt_append (pv 4) (pa_cons (pv 6) pa_nil)))
        (pss_cons (ps_set (i := 2) scFirstWay.nd rfl (Or.inl rfl) (pe_fn cW hr (pa_cons (pv 2) (pa_cons (pv 6) pa_nil))))
        (pss_one (ps_set (i := 3) scFirstWay.nd rfl (Or.inl rfl) (pe_mt cT T.cl (pv 0) hr (pa_cons (pv 6) pa_nil))))))))
      (pss_one (ps_ret (pv 4)))), ?_⟩
    refine ⟨Nat.zero_le _, fun c hc => ?_⟩
    have h9 := C.ok.many
    have hll := WM.left_length (w := ws) (g := g)
    have s0 : Same H (upd H c (.lst [])) := same_new hc
    have C0 := C.same s0
    obtain ⟨ha0, ta0, W0⟩ := C0.wat
    obtain ⟨dx0, o0⟩ := W0.ob
    refine ⟨_, rfl, wa, dx0, _, rfl, o0, flW_no (by decide +kernel) (by decide +kernel) _ _, _, rfl, wa, ha0, ta0, ws, g, rfl, W0, h9, fun p H1 s1 np hp => ?_⟩
    refine ⟨p, _, rfl, .inl (SqL.of hp), ((WM.leftL ws g).length : Int), by rw [vn_len], by omega, by omega, ?_⟩
    have s01 := s0.trans s1
    refine for_range (lo := 0) (n := (WM.leftL ws g).length) (fun i σ H' => ∃ (g' l' : Nat) (acc : List Nat) (x y : Option V), σ = [some (.ref wa), some (.ref r), some (.int (g' : Int)), some (.int (l' : Int)), some (.ref c), x, y] ∧ Same H H' ∧ H' c = some (.lst (vn acc)) ∧ g' < 2 ^ ws.length ∧ l' ≤ 8 ∧
        WM.val ws 2 g' l' ≠ 0 ∧ (WM.leftL ws g').length + i = (WM.leftL ws g).length ∧ acc.length = i ∧ acc ++ WM.wayM ws (WM.val ws 2) (WM.leftL ws g').length g' l' = WM.wayM ws (WM.val ws 2) (WM.leftL ws g).length g l)
      ⟨g, l, [], none, none, rfl, s01, s1 _ _ upd_same, C.hg, C.hl, hne, rfl, rfl, rfl⟩ ?_ ?_
    · rintro j σ H2 hj ⟨g', l', acc, x, y, rfl, s2, hacc, hg', hl', hv, hn, hal, he⟩
      obtain ⟨i, hf, h1, h2, h3⟩ := WM.way_find C.ok.small hg' hl' hv (by omega)
      have hlast := C.ok.small.last i
      have C2 := (C.same s2).at hg' hl'
      refine ⟨_, rfl, _, rfl, _, rfl, _, rfl, wa, r, ws, _, g', l', i, rfl, C2, hf, fun H3 s3 => ?_⟩
      have s23 := s2.trans s3
      refine ⟨_, rfl, .inl ⟨rfl, _, SqL.of (s3 _ _ hacc)⟩, _, rfl, c, _, _, rfl, rfl, s3 _ _ hacc, small1000 (by rw [vn_len]; omega), ?_⟩
      rw [vn_snoc]
      have s4 : Same H (upd H3 c (.lst (vn (acc ++ [i])))) := same_upd s23 hc
      obtain ⟨ha4, ta4, W4⟩ := (C.same s4).wat
      obtain ⟨dx4, o4⟩ := W4.ob
      refine ⟨_, rfl, _, rfl, g', i, rfl, by omega, ?_⟩
      refine ⟨_, rfl, wa, dx4, _, rfl, o4, flW_no (by decide +kernel) (by decide +kernel) _ _, _, rfl, wa, ha4, ta4, ws, i, rfl, W4, h1, ?_⟩
      have hm : i ∈ WM.leftL ws g' := WM.mem_left.mpr ⟨h1, h2⟩
      have hq := WM.left_with hm
      refine ⟨g' ||| 2 ^ i, Uw94.last ws i, acc ++ [i], some (.int (0 + (j : Int))), some (.int (i : Int)), rfl, s4, upd_same, WM.or_lt hg' h1, by omega, h3, by omega, by rw [List.length_append, hal]; rfl, ?_⟩
      rw [← he, ← hq, WM.wayM_succ hf, List.append_assoc]
      rfl
    · rintro σ H2 ⟨g', l', acc, x, y, rfl, s2, hacc, hg', hl', hv, hn, hal, he⟩
      have h0 : (WM.leftL ws g').length = 0 := by omega
      rw [h0] at he
      have he : acc ++ [] = _ := he
      rw [List.append_nil] at he
      rw [he] at hacc
      exact ⟨_, rfl, k c H2 s2 hc hacc⟩
end
end WC

/-! W7: what is asked of a game. -/
namespace WC
open PySem PySem.Spec PyProof.Rows L2
open Uw94 (Words)
abbrev sWithMany : Stmt := top 36
abbrev sSaid : Stmt := top 37
abbrev sWinning : Stmt := top 38
abbrev sWins : Stmt := top 39
abbrev sLongest : Stmt := top 40
abbrev sAllSaid : Stmt := top 41
abbrev sFromB : Stmt := top 42
abbrev sChainsQ : Stmt := top 43
abbrev sParts : Stmt := top 44
abbrev sAway : Stmt := top 45
abbrev sLeast : Stmt := top 46

/-! ### the specification's answers, as values -/
theorem ints_vn (l : List Nat) : (Uw94.ints l).map V.int = vn l := by
  unfold Uw94.ints vn
  rw [List.map_map]
  rfl
theorem counted_vn (l : List Nat) : (Uw94.counted l).map V.int = V.int (l.length : Int) :: vn l := by
  unfold Uw94.counted
  rw [List.map_cons, ints_vn]
section
variable {s : Uw94.St}
def stepA (s : Uw94.St) (c : Uw94.Call) : List V := (Uw94.step s c).2.map V.int
theorem a_may (h : WM.Ok s) : stepA s .may = V.int ((WM.nextL s.words (WM.goneS s) (WM.letterS s)).length : Int) :: vn (WM.nextL s.words (WM.goneS s) (WM.letterS s)) := by
  show (Uw94.counted (Uw94.may s.words (Uw94.leftOf s) (Uw94.must s))).map V.int = _
  rw [h.left, h.must, ← WM.nextL_may h.gone_lt h.letter_le, counted_vn]
theorem a_said : stepA s .said = V.int (s.words.length : Int) :: V.int (s.said.length : Int) :: vn s.said := by
  show ((s.words.length : Int) :: Uw94.counted s.said).map V.int = _
  rw [List.map_cons, counted_vn]
theorem a_wins (h : WM.Ok s) : stepA s .wins = V.int ((WM.val s.words 0 (WM.goneS s) (WM.letterS s) : Nat) : Int) :: V.int ((WM.winL s.words (WM.goneS s) (WM.letterS s)).length : Int) :: vn (WM.winL s.words (WM.goneS s) (WM.letterS s)) := by
  show (((Uw94.flag (!(Uw94.winners s.words (Uw94.leftOf s) (Uw94.must s)).isEmpty) : Nat) : Int) :: Uw94.counted (Uw94.winners s.words (Uw94.leftOf s) (Uw94.must s))).map V.int = _
  rw [h.left, h.must, WM.winners_eq h.small h.gone_lt h.letter_le, ← WM.win_val h.small h.gone_lt h.letter_le, List.map_cons, counted_vn]
theorem a_longest (h : WM.Ok s) : stepA s .longest = V.int ((WM.chainM s.words (WM.val s.words 1) (WM.val s.words 1 (WM.goneS s) (WM.letterS s)) (WM.goneS s) (WM.letterS s)).length : Int) :: vn (WM.chainM s.words (WM.val s.words 1) (WM.val s.words 1 (WM.goneS s) (WM.letterS s)) (WM.goneS s) (WM.letterS s)) := by
  show (Uw94.counted (Uw94.longest s.words (Uw94.leftOf s) (Uw94.must s))).map V.int = _
  rw [h.left, h.must, WM.longest_eq h.small h.gone_lt h.letter_le, counted_vn]
theorem a_all (h : WM.Ok s) : stepA s .all = V.int ((WM.val s.words 2 (WM.goneS s) (WM.letterS s) : Nat) : Int) :: (if WM.val s.words 2 (WM.goneS s) (WM.letterS s) = 0 then [] else vn (WM.wayM s.words (WM.val s.words 2) (WM.leftL s.words (WM.goneS s)).length (WM.goneS s) (WM.letterS s))) := by
  show (((Uw94.at_ (Uw94.table s.words (Uw94.allF s.words)) (Uw94.leftOf s) (Uw94.must s) : Nat) : Int) :: (if Uw94.at_ (Uw94.table s.words (Uw94.allF s.words)) (Uw94.leftOf s) (Uw94.must s) = 0 then [] else Uw94.ints (Uw94.allBy s.words (Uw94.table s.words (Uw94.allF s.words)) s.words.length (Uw94.leftOf s) (Uw94.must s)))).map V.int = _
  rw [h.left, h.must, WM.allBy_eq h.small h.gone_lt h.letter_le]
  show (((WM.val s.words 2 (WM.goneS s) (WM.letterS s) : Nat) : Int) :: (if WM.val s.words 2 (WM.goneS s) (WM.letterS s) = 0 then [] else _)).map V.int = _
  rw [List.map_cons]
  congr 1
  split
  · rfl
  · exact ints_vn _
theorem a_chains (h : WM.Ok s) : stepA s .chains = [V.int ((WM.val s.words 3 (WM.goneS s) (WM.letterS s) : Nat) : Int)] := by
  show [V.int ((Uw94.at_ (Uw94.table s.words (Uw94.chainF s.words)) (Uw94.leftOf s) (Uw94.must s) : Nat) : Int)] = _
  rw [h.left, h.must]
  rfl
theorem a_parts : stepA s .parts = [V.int ((WM.val s.words 4 0 8 : Nat) : Int)] := rfl
theorem a_least (h : WM.Ok s) : stepA s .least = [V.int ((s.words.length : Int) - ((WM.val s.words 1 0 8 : Nat) : Int))] := by
  show [V.int ((Uw94.least s.words : Nat) : Int)] = _
  rw [WM.least_eq h.small]
theorem a_away_no {i : Nat} (hi : s.words.length ≤ i) : stepA s (.away i) = [V.int (-2)] := by
  show (if s.words.length ≤ i then [-2] else _ : List Int).map V.int = _
  rw [if_pos hi]
  rfl
theorem a_away (h : WM.Ok s) {i : Nat} (hi : i < s.words.length) : stepA s (.away i) = [V.int ((WM.val s.words 0 (2 ^ i) 8 : Nat) : Int), V.int ((WM.val s.words 1 (2 ^ i) 8 : Nat) : Int)] := by
  show (if s.words.length ≤ i then [-2] else Uw94.ints [Uw94.flag (Uw94.wins (Uw94.without s.words i) (Uw94.full (Uw94.without s.words i)) 0), (Uw94.longest (Uw94.without s.words i) (Uw94.full (Uw94.without s.words i)) 0).length] : List Int).map V.int = _
  rw [if_neg (by omega), WM.away_win h.small hi, WM.away_long h.small hi, ints_vn]
  rfl
end

section
variable {P : Program} {w : World} {K : PySem.W.Frag} {mg : Str → Option Value} {base : Heap} {CR CW CG : Addr}
def spWM : Sp := fun vs H Q _ => ∃ (p : Addr) (xs : List V), vs = [.ref p] ∧ H p = some (.lst xs) ∧ xs.length ≤ 10000000 ∧ ∀ (q : Addr) (H' : Hp), Same H H' → H' q = some (.lst (V.int (xs.length : Int) :: xs)) → Q (.ref q) H'
theorem scWM : FnScope ["some"] ["some"] (defScope sWithMany) := ⟨rfl, rfl, rfl, by decide +kernel, rfl, by decide +kernel, by decide +kernel⟩
theorem can_withMany (D : Def K mg "with_many" sWithMany ["some"]) (U : TK mg) : Can P w K mg base CX0 1 "with_many" ["some"] spWM := by
  refine D.can scWM (fun vs H Q E h => ?_) (fun f cdv A outer s H vs Q E hr h => ?_)
  · obtain ⟨p, xs, rfl, _⟩ := h
    rfl
  · obtain ⟨p, xs, rfl, hp, hl, k⟩ := h
    refine ⟨_, pss_one (ps_ret (pe_op op_cat (pe_lst (pa_cons (pe_callB call_len_seq (by rfl) U.len PySem.boot_len (pa_cons (pv 0) pa_nil)) pa_nil)) (pv 0))), ?_⟩
    refine ⟨_, rfl, p, xs, rfl, .inl (SqL.of hp), line_big (by show 1 ≤ 1000; decide), fun a ha => ⟨_, rfl, a, p, _, xs, rfl, rfl, upd_same, (by rw [upd_ne (ne_of_none hp ha)]; exact hp), (by show 1 + xs.length ≤ sizeLine; rw [sizeLine_eq]; omega), fun q hq => ?_⟩⟩
    exact k q _ (same_upd (same_new ha) (Same.free (same_new ha) hq)) upd_same

theorem WordsAt.kd {H H' : Hp} {wa ha ta : Addr} {ws : Words} (h : WordsAt CW H wa ha ta ws) (kd : ∀ b o, H b = some o → (∀ kvs, o ≠ .dK kvs) → H' b = some o) : WordsAt CW H' wa ha ta ws :=
  ⟨let ⟨dx, e⟩ := h.ob; ⟨dx, kd _ _ e fun _ z => (by cases z)⟩, kd _ _ h.hd fun _ z => (by cases z), kd _ _ h.tl fun _ z => (by cases z)⟩
/-- an answer that is a list; the game stays in its state -/
def spQ (CG CW : Addr) (f : Uw94.St → List V) : Sp := fun vs H Q _ => ∃ (g : Addr) (O : Addr → Prop) (s : Uw94.St), vs = [.ref g] ∧ Gm CG CW H O g s ∧
  ∀ (p : Addr) (O' : Addr → Prop) (H' : Hp), Gm CG CW H' O' g s → Stp O H O' H' → H' p = some (.lst (f s)) → Q (.ref p) H'
theorem scSaid : FnScope ["game"] ["game"] (defScope sSaid) := ⟨rfl, rfl, rfl, by decide +kernel, rfl, by decide +kernel, by decide +kernel⟩
theorem can_said (D : Def K mg "said" sSaid ["game"]) (T : TGa K CG) (TWo : TW K CW) (U : TK mg) (cN : CanM P w K mg base CX0 1 CW "many" ["self"] (spMany CW)) (cM : Can P w K mg base CX0 1 "with_many" ["some"] spWM) :
    Can P w K mg base CX0 2 "said" ["game"] (spQ CG CW fun s => stepA s .said) := by
  refine D.can scSaid (fun vs H Q E h => ?_) (fun f cdv A outer s H vs Q E hr h => ?_)
  · obtain ⟨g, O, s, rfl, _⟩ := h
    rfl
  · obtain ⟨g, O, s, rfl, Gg, k⟩ := h
    obtain ⟨wa, ha, ta, sp, kn, kvs, G⟩ := Gg.ex
    obtain ⟨dg, h1⟩ := G.ob
    obtain ⟨dw, h2⟩ := G.W.ob
    have hl := said_le G.ok
    refine ⟨_, pss_one (ps_ret (pe_op op_cat (pe_lst (pa_cons (pe_mn cN TWo.cl (pe_fld (pv 0) rfl) hr) pa_nil)) (pe_fn cM hr (pa_cons (pe_callTy call_list_of (by rfl) U.list (by decide +kernel) (pa_cons (pe_fld (pv 0) rfl) pa_nil)) pa_nil)))), ?_⟩
    refine ⟨_, rfl, g, CG, dg, _, _, rfl, h1, T.cl, T.nW, flG_words _ _ _, wa, dw, _, rfl, h2, flW_no (by decide +kernel) (by decide +kernel) _ _, wa, ha, ta, s.words, rfl, G.W, line_big (by show 1 ≤ 1000; decide), fun a na => ?_⟩
    have s1 : Same H (upd H a (.lst [V.int (s.words.length : Int)])) := same_new na
    refine ⟨_, rfl, g, CG, dg, _, _, rfl, s1 _ _ h1, T.cl, T.nS, flG_spoken _ _ _, sp, _, rfl, .inl (SqL.of (s1 _ _ G.S)), fun l nl => ?_⟩
    have s2 : Same H (upd (upd H a (.lst [V.int (s.words.length : Int)])) l (.lst (vn s.said))) := same_upd s1 (s1.free nl)
    refine ⟨l, _, rfl, upd_same, by rw [vn_len]; omega, fun q H3 s3 hq => ?_⟩
    have s13 := s2.trans s3
    refine ⟨a, q, _, _, rfl, rfl, s3 _ _ (by rw [upd_ne (fun z => by rw [← z, upd_same] at nl; cases nl)]; exact upd_same), hq, line_big (by show 1 + ((vn s.said).length + 1) ≤ 1000; rw [vn_len]; omega), fun p hp => ?_⟩
    have s4 : Same H (upd H3 p (.lst ([V.int (s.words.length : Int)] ++ V.int ((vn s.said).length : Int) :: vn s.said))) := same_upd s13 (s13.free hp)
    refine k p O _ (Gg.same s4) (Stp.same s4) ?_
    show upd _ p _ p = some (.lst (stepA s .said))
    rw [a_said, upd_same, vn_len]
    rfl

def spWinning (CG CW : Addr) : Sp := spQ CG CW fun s => vn (WM.winL s.words (WM.goneS s) (WM.letterS s))
abbrev nWinning : List Str := ["game", "rows", "gone", "word"]
theorem scWinning : FnScope nWinning ["game"] (defScope sWinning) := ⟨rfl, rfl, rfl, by decide +kernel, rfl, by decide +kernel, by decide +kernel⟩
theorem can_winning (D : Def K mg "winning" sWinning ["game"]) (T : TGa K CG) (U : TKs mg) (cT : CanM P w K mg base CX0 8 CG "table" ["self", "kind"] (spTable CG CW)) (cG : CanM P w K mg base CX0 3 CG "gone" ["self"] (spGone CG CW)) (cS : CanM P w K mg base CX0 4 CG "sayable" ["self"] (spSayable CG CW))
    (cB : Can P w K mg base CX0 2 "behind" ["words", "rows", "gone", "word"] (spBehind CW)) : Can P w K mg base CX0 9 "winning" ["game"] (spWinning CG CW) := by
  refine D.can scWinning (fun vs H Q E h => ?_) (fun f cdv A outer s H vs Q E hr h => ?_)
  · obtain ⟨g, O, s, rfl, _⟩ := h
    rfl
  · obtain ⟨g, O, s, rfl, Gg, k⟩ := h
    obtain ⟨wa, ha, ta, sp, kn, kvs, G⟩ := Gg.ex
    obtain ⟨dg, h1⟩ := G.ob
    refine ⟨_, pss_cons (ps_set (i := 1) scWinning.nd rfl (Or.inr rfl) (pe_mt cT T.cl (pv 0) hr (pa_cons (pe_k U.wins) pa_nil)))
      (pss_cons (ps_set (i := 2) scWinning.nd rfl (Or.inr rfl) (pe_mn cG T.cl (pv 0) hr))
      (pss_one (ps_ret (pe_lc (own := [("word", 3)]) (g := gName 3) (tt := tTest (tOp rEq (tCallS (spBehind CW) (fun _ => E0) (tCons (tFld K (tVar 0) "words") (tCons (tVar 1) (tCons (tVar 2) (tCons (tVar 3) tNil))))) (tC (.int 0)))) rfl scWinning.nd (pi_list (pe_mn cS T.cl (pv 0) hr))
        (blkOk_by (N := nWinning) (sc := defScope sWinning) (by decide +kernel)) (fun _ _ _ _ _ => pg_name (i := 3) scWinning.nd rfl (Or.inl rfl))
        (fun _ _ _ _ _ => pts_one (pt_cmpR op_eq (pe_fn cB hr (pa_cons (pe_fld (pv 0) (by rfl)) (pa_cons (pv 1) (pa_cons (pv 2) (pa_cons (pv 3) pa_nil))))) pe_int (nomark _))) (fun _ _ _ _ _ => pv 3))))), ?_⟩
    refine ⟨_, rfl, g, dg, _, rfl, h1, flG_no (by decide +kernel) (by decide +kernel) (by decide +kernel) _ _ _, g, O, s, 0, rfl, Gg, by decide, fun r O1 H1 G1 st1 R _ => ?_⟩
    obtain ⟨wa1, ha1, ta1, sp1, kn1, kvs1, G1'⟩ := G1.ex
    obtain ⟨dg1, e1⟩ := G1'.ob
    refine ⟨_, rfl, g, dg1, _, rfl, e1, flG_no (by decide +kernel) (by decide +kernel) (by decide +kernel) _ _ _, g, O1, s, rfl, G1, ?_⟩
    refine ⟨_, rfl, g, dg1, _, rfl, e1, flG_no (by decide +kernel) (by decide +kernel) (by decide +kernel) _ _ _, g, O1, s, rfl, G1, fun p H2 s2 np hp => ?_⟩
    refine ⟨p, rfl, ⟨_, SqL.of hp⟩, fun D hD => ?_⟩
    have gl := G.ok.gone_lt
    refine lc_pure (ns := WM.nextL s.words (WM.goneS s) (WM.letterS s)) (fun i => WM.bh s.words (WM.val s.words 0) (WM.goneS s) i == 0) (fun (n : Nat) => V.int (n : Int)) (Nat.le_trans WM.next_length (by have := G.ok.many; omega)) (SqL.of hp) hD (fun m H3 hm s3 R1 R0 c1 c0 => ?_) fun H3 s3 e3 => k D O1 H3 (G1.same (s2.trans s3)) (st1.trans (Stp.same (s2.trans s3))) e3
    have s13 := s2.trans s3
    have G3 := G1'.mono fun b o _ e => s13 b o e
    obtain ⟨dg3, e4⟩ := G3.ob
    have hi := WM.mem_left.mp (WM.next_left hm)
    refine ⟨rfl, _, rfl, g, CG, dg3, _, _, rfl, e4, T.cl, T.nW, flG_words _ _ _, _, rfl, _, rfl, _, rfl, wa1, ha1, ta1, r, s.words, _, _, _, WM.goneS s, m, rfl, G3.W, G3.wok, hi.1, R.same s13, Nat.zero_le _, WM.or_lt gl hi.1, rfl, _, rfl, ?_⟩
    have ed : decide (V.int ((WM.bh s.words (WM.val s.words 0) (WM.goneS s) m : Nat) : Int) = V.int 0) = (WM.bh s.words (WM.val s.words 0) (WM.goneS s) m == 0) := dec_nat _ 0
    cases e : (WM.bh s.words (WM.val s.words 0) (WM.goneS s) m == 0) with
    | true => exact if_true_of (ed.trans e) ⟨_, rfl, c1 e H3 (Same.refl H3)⟩
    | false => exact if_false_of (ed.trans e) (c0 e H3 (Same.refl H3))
theorem scWins : FnScope ["game"] ["game"] (defScope sWins) := ⟨rfl, rfl, rfl, by decide +kernel, rfl, by decide +kernel, by decide +kernel⟩
theorem win_le (s : Uw94.St) (h : WM.Ok s) : (WM.winL s.words (WM.goneS s) (WM.letterS s)).length ≤ 9 := Nat.le_trans (List.length_filter_le _ _) (Nat.le_trans WM.next_length h.many)
theorem can_wins (D : Def K mg "wins" sWins ["game"]) (T : TGa K CG) (U : TKs mg) (cN : CanM P w K mg base CX0 9 CG "now" ["self", "kind"] (spNow CG CW)) (cW : Can P w K mg base CX0 9 "winning" ["game"] (spWinning CG CW)) (cM : Can P w K mg base CX0 1 "with_many" ["some"] spWM) :
    Can P w K mg base CX0 10 "wins" ["game"] (spQ CG CW fun s => stepA s .wins) := by
  refine D.can scWins (fun vs H Q E h => ?_) (fun f cdv A outer s H vs Q E hr h => ?_)
  · obtain ⟨g, O, s, rfl, _⟩ := h
    rfl
  · obtain ⟨g, O, s, rfl, Gg, k⟩ := h
    obtain ⟨wa, ha, ta, sp, kn, kvs, G⟩ := Gg.ex
    obtain ⟨dg, h1⟩ := G.ob
    have hl := win_le s G.ok
    refine ⟨_, pss_one (ps_ret (pe_op op_cat (pe_lst (pa_cons (pe_mt cN T.cl (pv 0) hr (pa_cons (pe_k U.wins) pa_nil)) pa_nil)) (pe_fn cM hr (pa_cons (pe_fn cW hr (pa_cons (pv 0) pa_nil)) pa_nil)))), ?_⟩
    refine ⟨_, rfl, g, dg, _, rfl, h1, flG_no (by decide +kernel) (by decide +kernel) (by decide +kernel) _ _ _, g, O, s, 0, rfl, Gg, by decide, fun O1 H1 G1 st1 => ⟨line_big (by show 1 ≤ 1000; decide), fun a na => ?_⟩⟩
    have sa : Same H1 (upd H1 a (.lst [V.int ((WM.val s.words 0 (WM.goneS s) (WM.letterS s) : Nat) : Int)])) := same_new na
    have noa : ¬ O1 a := G1.not na
    refine ⟨_, rfl, g, O1, s, rfl, G1.same sa, fun p O2 H2 G2 st2 hp => ?_⟩
    have ea := st2.keep a _ upd_same noa
    refine ⟨p, _, rfl, hp, by rw [vn_len]; omega, fun q H3 s3 hq => ?_⟩
    refine ⟨a, q, _, _, rfl, rfl, s3 _ _ ea, hq, line_big (by show 1 + ((vn (WM.winL s.words (WM.goneS s) (WM.letterS s))).length + 1) ≤ 1000; rw [vn_len]; omega), fun z nz => ?_⟩
    have s4 : Same H3 (upd H3 z (.lst ([V.int ((WM.val s.words 0 (WM.goneS s) (WM.letterS s) : Nat) : Int)] ++ V.int ((vn (WM.winL s.words (WM.goneS s) (WM.letterS s))).length : Int) :: vn (WM.winL s.words (WM.goneS s) (WM.letterS s))))) := same_new nz
    refine k z O2 _ (G2.same (s3.trans s4)) (st1.trans ((Stp.same sa).trans (st2.trans (Stp.same (s3.trans s4))))) ?_
    show upd _ z (.lst ([V.int ((WM.val s.words 0 (WM.goneS s) (WM.letterS s) : Nat) : Int)] ++ V.int ((vn (WM.winL s.words (WM.goneS s) (WM.letterS s))).length : Int) :: vn (WM.winL s.words (WM.goneS s) (WM.letterS s)))) z = some (.lst (stepA s .wins))
    rw [a_wins G.ok, upd_same, vn_len]
    rfl
theorem scLongest : FnScope ["game"] ["game"] (defScope sLongest) := ⟨rfl, rfl, rfl, by decide +kernel, rfl, by decide +kernel, by decide +kernel⟩
theorem can_longest (D : Def K mg "longest" sLongest ["game"]) (T : TGa K CG) (U : TKs mg) (cT : CanM P w K mg base CX0 8 CG "table" ["self", "kind"] (spTable CG CW)) (cG : CanM P w K mg base CX0 3 CG "gone" ["self"] (spGone CG CW)) (cL : CanM P w K mg base CX0 2 CG "letter" ["self"] (spLetter CG CW))
    (cF : Can P w K mg base CX0 5 "first_longest" psW (spFirstLong CW)) (cM : Can P w K mg base CX0 1 "with_many" ["some"] spWM) : Can P w K mg base CX0 9 "longest" ["game"] (spQ CG CW fun s => stepA s .longest) := by
  refine D.can scLongest (fun vs H Q E h => ?_) (fun f cdv A outer s H vs Q E hr h => ?_)
  · obtain ⟨g, O, s, rfl, _⟩ := h
    rfl
  · obtain ⟨g, O, s, rfl, Gg, k⟩ := h
    obtain ⟨wa, ha, ta, sp, kn, kvs, G⟩ := Gg.ex
    obtain ⟨dg, h1⟩ := G.ob
    refine ⟨_, pss_one (ps_ret (pe_fn cM hr (pa_cons (pe_fn cF hr (pa_cons (pe_fld (pv 0) rfl) (pa_cons (pe_mt cT T.cl (pv 0) hr (pa_cons (pe_k U.longest) pa_nil)) (pa_cons (pe_mn cG T.cl (pv 0) hr) (pa_cons (pe_mn cL T.cl (pv 0) hr) pa_nil))))) pa_nil))), ?_⟩
    refine ⟨_, rfl, g, CG, dg, _, _, rfl, h1, T.cl, T.nW, flG_words _ _ _, _, rfl, g, dg, _, rfl, h1, flG_no (by decide +kernel) (by decide +kernel) (by decide +kernel) _ _ _, g, O, s, 1, rfl, Gg, by decide, fun r O1 H1 G1 st1 R kd => ?_⟩
    obtain ⟨wa1, ha1, ta1, sp1, kn1, kvs1, G1'⟩ := G1.ex
    obtain ⟨dg1, e1⟩ := G1'.ob
    have W1 := G.W.kd kd
    refine ⟨_, rfl, g, dg1, _, rfl, e1, flG_no (by decide +kernel) (by decide +kernel) (by decide +kernel) _ _ _, g, O1, s, rfl, G1,
      _, rfl, g, dg1, _, rfl, e1, flG_no (by decide +kernel) (by decide +kernel) (by decide +kernel) _ _ _, g, O1, s, rfl, G1,
      wa, r, s.words, WM.goneS s, WM.letterS s, rfl, ⟨⟨ha, ta, W1⟩, G.wok, R, G.ok.gone_lt, G.ok.letter_le⟩, fun p H2 s2 np hp => ?_⟩
    have cl : (WM.chainM s.words (WM.val s.words 1) (WM.val s.words 1 (WM.goneS s) (WM.letterS s)) (WM.goneS s) (WM.letterS s)).length ≤ 9 := by
      rw [WM.chainM_length G.ok.small _ _ _ G.ok.gone_lt G.ok.letter_le rfl]
      exact Nat.le_trans (WM.long_le G.ok.small s.words.length _ _ G.ok.gone_lt G.ok.letter_le WM.left_length) G.ok.many
    refine ⟨p, _, rfl, hp, by rw [vn_len]; omega, fun q H3 s3 hq => k q O1 H3 (G1.same (s2.trans s3)) (st1.trans (Stp.same (s2.trans s3))) ?_⟩
    show H3 q = some (.lst (stepA s .longest))
    rw [a_longest G.ok, hq, vn_len]
theorem scAllSaid : FnScope ["game", "ways"] ["game"] (defScope sAllSaid) := ⟨rfl, rfl, rfl, by decide +kernel, rfl, by decide +kernel, by decide +kernel⟩
theorem way_len {w : Words} {v : Nat → Nat → Nat} : ∀ (n g l : Nat), (WM.wayM w v n g l).length ≤ n
  | 0, _, _ => Nat.le_refl 0
  | n + 1, g, l => by
    cases f : (WM.nextL w g l).find? fun i => WM.bh w v g i != 0 with
    | none => rw [WM.wayM_none f]; exact Nat.zero_le _
    | some i =>
      rw [WM.wayM_succ f, List.length_cons]
      exact Nat.succ_le_succ (way_len n _ _)
theorem can_allSaid (D : Def K mg "all_said" sAllSaid ["game"]) (T : TGa K CG) (U : TKs mg) (cN : CanM P w K mg base CX0 9 CG "now" ["self", "kind"] (spNow CG CW)) (cT : CanM P w K mg base CX0 8 CG "table" ["self", "kind"] (spTable CG CW)) (cG : CanM P w K mg base CX0 3 CG "gone" ["self"] (spGone CG CW))
    (cL : CanM P w K mg base CX0 2 CG "letter" ["self"] (spLetter CG CW)) (cF : Can P w K mg base CX0 5 "first_way" psW (spFirstWay CW)) : Can P w K mg base CX0 10 "all_said" ["game"] (spQ CG CW fun s => stepA s .all) := by
  refine D.can scAllSaid (fun vs H Q E h => ?_) (fun f cdv A outer s H vs Q E hr h => ?_)
  · obtain ⟨g, O, s, rfl, _⟩ := h
    rfl
  · obtain ⟨g, O, s, rfl, Gg, k⟩ := h
    obtain ⟨wa0, ha0, ta0, sp0, kn0, kvs0, G0⟩ := Gg.ex
    obtain ⟨dg0, h0⟩ := G0.ob
    have hok := G0.ok
    refine ⟨_, pss_cons (ps_set (i := 1) scAllSaid.nd rfl (Or.inl rfl) (pe_mt cN T.cl (pv 0) hr (pa_cons (pe_k U.ways) pa_nil)))
      (pss_cons (ps_if (pt_cmpR op_eq (pv 1) pe_int (nomark _)) (pss_one (ps_ret (pe_lst (pa_cons pe_int pa_nil)))) pss_nil)
      (pss_one (ps_ret (pe_op op_cat (pe_lst (pa_cons (pv 1) pa_nil)) (pe_fn cF hr (pa_cons (pe_fld (pv 0) rfl) (pa_cons (pe_mt cT T.cl (pv 0) hr (pa_cons (pe_k U.ways) pa_nil)) (pa_cons (pe_mn cG T.cl (pv 0) hr) (pa_cons (pe_mn cL T.cl (pv 0) hr) pa_nil))))))))), ?_⟩
    refine ⟨_, rfl, g, dg0, _, rfl, h0, flG_no (by decide +kernel) (by decide +kernel) (by decide +kernel) _ _ _, g, O, s, 2, rfl, Gg, by decide, fun O1 H1 G1 st1 => ?_⟩
    refine ⟨_, rfl, rfl, _, rfl, ?_⟩
    have ed : decide (V.int ((WM.val s.words 2 (WM.goneS s) (WM.letterS s) : Nat) : Int) = V.int 0) = (WM.val s.words 2 (WM.goneS s) (WM.letterS s) == 0) := dec_nat _ 0
    by_cases c : WM.val s.words 2 (WM.goneS s) (WM.letterS s) = 0
    · refine if_true_of (by rw [ed, c]; rfl) ⟨line_big (by show 1 ≤ 1000; decide), fun a na => k a O1 _ (G1.same (same_new na)) (st1.trans (Stp.same (same_new na))) ?_⟩
      show upd _ a _ a = some (.lst (stepA s .all))
      rw [a_all hok, upd_same, if_pos c, c]
      rfl
    · refine if_false_of (by rw [ed]; simpa using c) ?_
      refine ⟨_, rfl, line_big (by show 1 ≤ 1000; decide), fun a na => ?_⟩
      have noa : ¬ O1 a := G1.not na
      have sa : Same H1 (upd H1 a (.lst [V.int ((WM.val s.words 2 (WM.goneS s) (WM.letterS s) : Nat) : Int)])) := same_new na
      have G2 := G1.same sa
      obtain ⟨wa, ha, ta, sp, kn, kvs, G⟩ := G2.ex
      obtain ⟨dg, h1⟩ := G.ob
      refine ⟨_, rfl, g, CG, dg, _, _, rfl, h1, T.cl, T.nW, flG_words _ _ _, _, rfl, g, dg, _, rfl, h1, flG_no (by decide +kernel) (by decide +kernel) (by decide +kernel) _ _ _, g, O1, s, 2, rfl, G2, by decide, fun r O3 H3 G3 st3 R kd => ?_⟩
      obtain ⟨wa3, ha3, ta3, sp3, kn3, kvs3, G3'⟩ := G3.ex
      obtain ⟨dg3, e3⟩ := G3'.ob
      have W3 := G.W.kd kd
      have ea := st3.keep a _ upd_same noa
      refine ⟨_, rfl, g, dg3, _, rfl, e3, flG_no (by decide +kernel) (by decide +kernel) (by decide +kernel) _ _ _, g, O3, s, rfl, G3,
        _, rfl, g, dg3, _, rfl, e3, flG_no (by decide +kernel) (by decide +kernel) (by decide +kernel) _ _ _, g, O3, s, rfl, G3,
        wa, r, s.words, WM.goneS s, WM.letterS s, rfl, ⟨⟨ha, ta, W3⟩, G.wok, R, hok.gone_lt, hok.letter_le⟩, c, fun p H4 s4 np hp => ?_⟩
      have wl := Nat.le_trans (way_len (w := s.words) (v := WM.val s.words 2) (WM.leftL s.words (WM.goneS s)).length (WM.goneS s) (WM.letterS s)) (Nat.le_trans WM.left_length hok.many)
      refine ⟨a, p, _, _, rfl, rfl, s4 _ _ ea, hp, line_big (by show 1 + (vn _).length ≤ 1000; rw [vn_len]; omega), fun z nz => ?_⟩
      refine k z O3 _ (G3.same (s4.trans (same_new nz))) (st1.trans ((Stp.same sa).trans (st3.trans (Stp.same (s4.trans (same_new nz)))))) ?_
      show upd _ z _ z = some (.lst (stepA s .all))
      rw [a_all hok, upd_same, if_neg c]
      rfl
def spFB (CG CW : Addr) : Sp := fun vs H Q _ => ∃ (g : Addr) (O : Addr → Prop) (s : Uw94.St) (k : Nat), vs = [.ref g, .int (k : Int)] ∧ Gm CG CW H O g s ∧ k ≤ 4 ∧
  ∀ (O' : Addr → Prop) (H' : Hp), Gm CG CW H' O' g s → Stp O H O' H' → Q (.int ((WM.val s.words k 0 8 : Nat) : Int)) H'
theorem scFB : FnScope ["game", "kind"] ["game", "kind"] (defScope sFromB) := ⟨rfl, rfl, rfl, by decide +kernel, rfl, by decide +kernel, by decide +kernel⟩
theorem can_fromB (D : Def K mg "from_beginning" sFromB ["game", "kind"]) (T : TGa K CG) (U : TK mg) (cT : CanM P w K mg base CX0 8 CG "table" ["self", "kind"] (spTable CG CW)) : Can P w K mg base CX0 9 "from_beginning" ["game", "kind"] (spFB CG CW) := by
  refine D.can scFB (fun vs H Q E h => ?_) (fun f cdv A outer s H vs Q E hr h => ?_)
  · obtain ⟨g, O, s, k, rfl, _⟩ := h
    rfl
  · obtain ⟨g, O, s, k, rfl, Gg, hk, q⟩ := h
    obtain ⟨wa, ha, ta, sp, kn, kvs, G⟩ := Gg.ex
    obtain ⟨dg, h1⟩ := G.ob
    refine ⟨_, pss_one (ps_ret (pe_ix ix_list (pe_ix ix_list (pe_mt cT T.cl (pv 0) hr (pa_cons (pv 1) pa_nil)) pe_int (fun _ _ => rfl)) (pe_k U.any) (fun _ _ => rfl))), ?_⟩
    refine ⟨_, rfl, g, dg, _, rfl, h1, flG_no (by decide +kernel) (by decide +kernel) (by decide +kernel) _ _ _, _, rfl, g, O, s, k, rfl, Gg, hk, fun r O1 H1 G1 st1 R _ => ?_⟩
    obtain ⟨rs, r1, r2, r3⟩ := R.ex
    obtain ⟨y, y1, y2⟩ := r3 0 (Nat.zero_le _) (Nat.two_pow_pos _)
    exact ⟨r, rs, _, _, rfl, rfl, SqL.of r1, atI_nat (j := 0) y1, y, _, _, _, rfl, rfl, SqL.of y2, atI_nat (j := 8) (row_get (Nat.le_refl 8)), q O1 H1 G1 st1⟩
theorem scChainsQ : FnScope ["game"] ["game"] (defScope sChainsQ) := ⟨rfl, rfl, rfl, by decide +kernel, rfl, by decide +kernel, by decide +kernel⟩
theorem can_chainsQ (D : Def K mg "chains" sChainsQ ["game"]) (T : TGa K CG) (U : TKs mg) (cN : CanM P w K mg base CX0 9 CG "now" ["self", "kind"] (spNow CG CW)) : Can P w K mg base CX0 10 "chains" ["game"] (spQ CG CW fun s => stepA s .chains) := by
  refine D.can scChainsQ (fun vs H Q E h => ?_) (fun f cdv A outer s H vs Q E hr h => ?_)
  · obtain ⟨g, O, s, rfl, _⟩ := h
    rfl
  · obtain ⟨g, O, s, rfl, Gg, k⟩ := h
    obtain ⟨wa, ha, ta, sp, kn, kvs, G⟩ := Gg.ex
    obtain ⟨dg, h1⟩ := G.ob
    refine ⟨_, pss_one (ps_ret (pe_lst (pa_cons (pe_mt cN T.cl (pv 0) hr (pa_cons (pe_k U.chains) pa_nil)) pa_nil))), ?_⟩
    refine ⟨_, rfl, g, dg, _, rfl, h1, flG_no (by decide +kernel) (by decide +kernel) (by decide +kernel) _ _ _, g, O, s, 3, rfl, Gg, by decide, fun O1 H1 G1 st1 => ⟨line_big (by show 1 ≤ 1000; decide), fun a na => ?_⟩⟩
    refine k a O1 _ (G1.same (same_new na)) (st1.trans (Stp.same (same_new na))) ?_
    show upd _ a _ a = some (.lst (stepA s .chains))
    rw [a_chains G.ok, upd_same]
theorem scParts : FnScope ["game"] ["game"] (defScope sParts) := ⟨rfl, rfl, rfl, by decide +kernel, rfl, by decide +kernel, by decide +kernel⟩
theorem can_parts (D : Def K mg "parts" sParts ["game"]) (U : TKs mg) (cF : Can P w K mg base CX0 9 "from_beginning" ["game", "kind"] (spFB CG CW)) : Can P w K mg base CX0 10 "parts" ["game"] (spQ CG CW fun s => stepA s .parts) := by
  refine D.can scParts (fun vs H Q E h => ?_) (fun f cdv A outer s H vs Q E hr h => ?_)
  · obtain ⟨g, O, s, rfl, _⟩ := h
    rfl
  · obtain ⟨g, O, s, rfl, Gg, k⟩ := h
    refine ⟨_, pss_one (ps_ret (pe_lst (pa_cons (pe_fn cF hr (pa_cons (pv 0) (pa_cons (pe_k U.fewest) pa_nil))) pa_nil))), ?_⟩
    refine ⟨_, rfl, g, O, s, 4, rfl, Gg, by decide, fun O1 H1 G1 st1 => ⟨line_big (by show 1 ≤ 1000; decide), fun a na => ?_⟩⟩
    refine k a O1 _ (G1.same (same_new na)) (st1.trans (Stp.same (same_new na))) ?_
    show upd _ a _ a = some (.lst (stepA s .parts))
    rw [a_parts, upd_same]
theorem scLeast : FnScope ["game"] ["game"] (defScope sLeast) := ⟨rfl, rfl, rfl, by decide +kernel, rfl, by decide +kernel, by decide +kernel⟩
theorem can_least (D : Def K mg "least" sLeast ["game"]) (T : TGa K CG) (TWo : TW K CW) (U : TKs mg) (cN : CanM P w K mg base CX0 1 CW "many" ["self"] (spMany CW)) (cF : Can P w K mg base CX0 9 "from_beginning" ["game", "kind"] (spFB CG CW)) : Can P w K mg base CX0 10 "least" ["game"] (spQ CG CW fun s => stepA s .least) := by
  refine D.can scLeast (fun vs H Q E h => ?_) (fun f cdv A outer s H vs Q E hr h => ?_)
  · obtain ⟨g, O, s, rfl, _⟩ := h
    rfl
  · obtain ⟨g, O, s, rfl, Gg, k⟩ := h
    obtain ⟨wa, ha, ta, sp, kn, kvs, G⟩ := Gg.ex
    obtain ⟨dg, h1⟩ := G.ob
    obtain ⟨dw, h2⟩ := G.W.ob
    refine ⟨_, pss_one (ps_ret (pe_lst (pa_cons (pe_op op_sub (pe_mn cN TWo.cl (pe_fld (pv 0) rfl) hr) (pe_fn cF hr (pa_cons (pv 0) (pa_cons (pe_k U.longest) pa_nil)))) pa_nil))), ?_⟩
    refine ⟨_, rfl, g, CG, dg, _, _, rfl, h1, T.cl, T.nW, flG_words _ _ _, wa, dw, _, rfl, h2, flW_no (by decide +kernel) (by decide +kernel) _ _, wa, ha, ta, s.words, rfl, G.W,
      _, rfl, g, O, s, 1, rfl, Gg, by decide, fun O1 H1 G1 st1 => ⟨_, _, rfl, rfl, line_big (by show 1 ≤ 1000; decide), fun a na => ?_⟩⟩
    refine k a O1 _ (G1.same (same_new na)) (st1.trans (Stp.same (same_new na))) ?_
    show upd _ a _ a = some (.lst (stepA s .least))
    rw [a_least G.ok, upd_same]
def spAway (CR CG CW : Addr) : Sp := fun vs H Q E => ∃ (g : Addr) (O : Addr → Prop) (s : Uw94.St) (i : Nat), vs = [.ref g, .int (i : Int)] ∧ Gm CG CW H O g s ∧ (s.words.length ≤ i → Rz CR E (-2) H) ∧
  (i < s.words.length → ∀ (p : Addr) (O' : Addr → Prop) (H' : Hp), Gm CG CW H' O' g s → Stp O H O' H' → H' p = some (.lst (stepA s (.away i))) → Q (.ref p) H')
theorem scAway : FnScope ["game", "word", "gone"] ["game", "word"] (defScope sAway) := ⟨rfl, rfl, rfl, by decide +kernel, rfl, by decide +kernel, by decide +kernel⟩
theorem can_away (D : Def K mg "away" sAway ["game", "word"]) (T : TGa K CG) (V' : TK mg) (U : TKs mg) (cE : CanM P w K mg base (L2.CX P w) 4 CG "be_word" ["self", "word"] (spBeWord CR CG CW)) (cW : Can P w K mg base CX0 1 "with_word" ["gone", "word"] spWith)
    (cT : CanM P w K mg base CX0 8 CG "table" ["self", "kind"] (spTable CG CW)) : Can P w K mg base (L2.CX P w) 9 "away" ["game", "word"] (spAway CR CG CW) := by
  refine D.canX scAway (fun vs H Q E h => ?_) (fun f cdv A outer s H vs Q E hr h => ?_)
  · obtain ⟨g, O, s, i, rfl, _⟩ := h
    rfl
  · obtain ⟨g, O, s, i, rfl, Gg, k2, k⟩ := h
    obtain ⟨wa, ha, ta, sp, kn, kvs, G⟩ := Gg.ex
    obtain ⟨dg, h1⟩ := G.ob
    have h9 := G.ok.many
    refine ⟨_, pss_cons (ps_expr (pe_mtX cE (takes_of rfl rfl rfl rfl) T.cl (pv 0) hr (pa_cons (pv 1) pa_nil)))
      (pss_cons (ps_set (i := 2) scAway.nd rfl (Or.inl rfl) (pe_fn cW hr (pa_cons pe_int (pa_cons (pv 1) pa_nil))))
      (pss_one (ps_ret (pe_lst (pa_cons (pe_ix ix_list (pe_ix ix_list (pe_mt cT T.cl (pv 0) hr (pa_cons (pe_k U.wins) pa_nil)) (pv 2) (fun _ _ => rfl)) (pe_k V'.any) (fun _ _ => rfl))
        (pa_cons (pe_ix ix_list (pe_ix ix_list (pe_mt cT T.cl (pv 0) hr (pa_cons (pe_k U.longest) pa_nil)) (pv 2) (fun _ _ => rfl)) (pe_k V'.any) (fun _ _ => rfl)) pa_nil)))))), ?_⟩
    refine ⟨_, rfl, g, dg, _, rfl, h1, flG_no (by decide +kernel) (by decide +kernel) (by decide +kernel) _ _ _, _, rfl, g, O, s, i, rfl, Gg, fun hi => ?_, fun hi => k2 hi⟩
    have e0 : (0 ||| 2 ^ i : Nat) = 2 ^ i := Nat.zero_or _
    have hp : 2 ^ i < 2 ^ s.words.length := Nat.pow_lt_pow_right (by decide) hi
    refine ⟨_, rfl, 0, i, rfl, by omega, ?_⟩
    rw [e0]
    refine ⟨_, rfl, g, dg, _, rfl, h1, flG_no (by decide +kernel) (by decide +kernel) (by decide +kernel) _ _ _, g, O, s, 0, rfl, Gg, by decide, fun r O1 H1 G1 st1 R _ => ?_⟩
    obtain ⟨rs, r1, r2, r3⟩ := R.ex
    obtain ⟨y, y1, y2⟩ := r3 _ (Nat.zero_le _) hp
    obtain ⟨wa1, ha1, ta1, sp1, kn1, kvs1, G1'⟩ := G1.ex
    obtain ⟨dg1, e1⟩ := G1'.ob
    refine ⟨_, rfl, r, rs, _, _, rfl, rfl, SqL.of r1, atI_nat y1, y, _, _, _, rfl, rfl, SqL.of y2, atI_nat (j := 8) (row_get (Nat.le_refl 8)), ?_⟩
    refine ⟨_, rfl, g, dg1, _, rfl, e1, flG_no (by decide +kernel) (by decide +kernel) (by decide +kernel) _ _ _, g, O1, s, 1, rfl, G1, by decide, fun r' O2 H2 G2 st2 R2 _ => ?_⟩
    obtain ⟨rs2, r12, r22, r32⟩ := R2.ex
    obtain ⟨z, z1, z2⟩ := r32 _ (Nat.zero_le _) hp
    refine ⟨_, rfl, r', rs2, _, _, rfl, rfl, SqL.of r12, atI_nat z1, z, _, _, _, rfl, rfl, SqL.of z2, atI_nat (j := 8) (row_get (Nat.le_refl 8)), line_big (by show 2 ≤ 1000; decide), fun a na => ?_⟩
    refine k hi a O2 _ (G2.same (same_new na)) (st1.trans (st2.trans (Stp.same (same_new na)))) ?_
    rw [a_away G.ok hi, upd_same]
end
end WC

/-! W8: the calls, one behind another. -/
namespace WC
open PySem PySem.Spec PyProof.Rows L2
open Uw94 (Words)
abbrev sDone : Stmt := top 61
abbrev sAsked : Stmt := top 62
abbrev sTold : Stmt := top 63
abbrev sAnswer : Stmt := top 64
abbrev sAnswers : Stmt := top 65
structure TC (mg : Str → Option Value) : Prop where
  clear : ∃ t, mg "CLEAR" = some (.int 0 t)
  word : ∃ t, mg "WORD" = some (.int 1 t)
  say : ∃ t, mg "SAY" = some (.int 2 t)
  back : ∃ t, mg "BACK" = some (.int 3 t)
  may : ∃ t, mg "MAY" = some (.int 4 t)
  said : ∃ t, mg "SAID" = some (.int 5 t)
  winning : ∃ t, mg "WINNING" = some (.int 6 t)
  long : ∃ t, mg "LONG" = some (.int 7 t)
  all : ∃ t, mg "ALL_SAID" = some (.int 8 t)
  chains : ∃ t, mg "CHAIN_COUNT" = some (.int 9 t)
  parts : ∃ t, mg "PARTS" = some (.int 10 t)
  away : ∃ t, mg "AWAY" = some (.int 11 t)
/-- how many whole numbers each call has -/
abbrev nums13 : List V := [.int 0, .int 2, .int 1, .int 0, .int 0, .int 0, .int 0, .int 0, .int 0, .int 0, .int 0, .int 1, .int 0]
structure TN (K : PySem.W.Frag) (mg : Str → Option Value) : Prop where
  ex : ∃ a, mg "NUMBERS" = some (.ref a) ∧ ∀ H, SqT K H a nums13

/-! ### the steps by their ways -/
section
variable {s : Uw94.St}
theorem st_word1 {a b : Nat} (h : 7 < a ∨ 7 < b) : Uw94.step s (.word a b) = (s, [-1]) := if_pos h
theorem st_word5 {a b : Nat} (h : ¬ (7 < a ∨ 7 < b)) (h9 : 9 ≤ s.words.length) : Uw94.step s (.word a b) = (s, [-5]) := (if_neg h).trans (if_pos h9)
theorem st_word {a b : Nat} (h : ¬ (7 < a ∨ 7 < b)) (h9 : ¬ 9 ≤ s.words.length) : Uw94.step s (.word a b) = (⟨s.words ++ [(a, b)], []⟩, [(s.words.length : Int)]) := (if_neg h).trans (if_neg h9)
theorem st_say2 {i : Nat} (h : s.words.length ≤ i) : Uw94.step s (.say i) = (s, [-2]) := if_pos h
theorem st_say4 {i : Nat} (h : ¬ s.words.length ≤ i) (h2 : s.said.contains i = true) : Uw94.step s (.say i) = (s, [-4]) := (if_neg h).trans (if_pos h2)
theorem st_say6 {i : Nat} (ok : WM.Ok s) (h : ¬ s.words.length ≤ i) (h2 : ¬ s.said.contains i = true) (h3 : WM.begB s.words i (WM.letterS s) = false) : Uw94.step s (.say i) = (s, [-6]) := by
  refine (if_neg h).trans ((if_neg h2).trans (if_pos ?_))
  rw [ok.must, ← WM.begB_fits ok.letter_le]
  exact h3
theorem st_say {i : Nat} (ok : WM.Ok s) (h : ¬ s.words.length ≤ i) (h2 : ¬ s.said.contains i = true) (h3 : WM.begB s.words i (WM.letterS s) = true) :
    Uw94.step s (.say i) = ({ s with said := s.said ++ [i] }, [(((WM.nextL s.words (WM.goneS { s with said := s.said ++ [i] }) (WM.letterS { s with said := s.said ++ [i] })).length : Nat) : Int)]) := by
  have ok2 : WM.Ok { s with said := s.said ++ [i] } := ok.say (by omega) fun z => h2 (List.contains_iff_mem.mpr z)
  refine (if_neg h).trans ((if_neg h2).trans ((if_neg ?_).trans ?_))
  · rw [ok.must, ← WM.begB_fits ok.letter_le, h3]
    exact Bool.noConfusion
  · show (({ s with said := s.said ++ [i] } : Uw94.St), [((Uw94.may s.words (Uw94.leftOf { s with said := s.said ++ [i] }) (Uw94.must { s with said := s.said ++ [i] })).length : Int)]) = _
    rw [ok2.left, ok2.must]
    show (({ s with said := s.said ++ [i] } : Uw94.St), [((Uw94.may s.words (WM.compl s.words (WM.goneS { s with said := s.said ++ [i] })) (WM.mustOf (WM.letterS { s with said := s.said ++ [i] }))).length : Int)]) = _
    rw [← WM.nextL_may ok2.gone_lt ok2.letter_le]
theorem st_back9 (h : s.said.getLast? = none) : Uw94.step s .back = (s, [-9]) := by
  show (match s.said.getLast? with
    | none => (s, [-9])
    | some i => (({ s with said := s.said.dropLast } : Uw94.St), [(i : Int)])) = _
  rw [h]
theorem st_back {i : Nat} (h : s.said.getLast? = some i) : Uw94.step s .back = ({ s with said := s.said.dropLast }, [(i : Int)]) := by
  show (match s.said.getLast? with
    | none => (s, [-9])
    | some i => (({ s with said := s.said.dropLast } : Uw94.St), [(i : Int)])) = _
  rw [h]
theorem st_away2 {i : Nat} (h : s.words.length ≤ i) : Uw94.step s (.away i) = (s, [-2]) := congrArg (Prod.mk s) (if_pos h)
end

section
variable {P : Program} {w : World} {K : PySem.W.Frag} {mg : Str → Option Value} {base : Heap} {CR CW CG : Addr}
/-- a call is told: its answer's list, the game behind it; or the refusal, all as it was -/
def spTold (K : PySem.W.Frag) (CR CG CW : Addr) (f : Uw94.Call → Prop) : Sp := fun vs H Q E => ∃ (g na : Addr) (O : Addr → Prop) (s : Uw94.St) (x : Uw94.Call), vs = [.ref g, .int ((WM.code x : Nat) : Int), .ref na] ∧ f x ∧ SqL K H na (vn (WM.nums x)) ∧ Gm CG CW H O g s ∧
  (∀ n, Uw94.step s x = (s, [n]) → Rz CR E n H) ∧
  (∀ (p : Addr) (O' : Addr → Prop) (H' : Hp), Gm CG CW H' O' g (Uw94.step s x).1 → Stp O H O' H' → H' p = some (.lst (stepA s x)) → Q (.ref p) H')
abbrev psT : List Str := ["game", "call", "numbers"]
theorem stepA_of {s s' : Uw94.St} {x : Uw94.Call} {l : List Int} (h : Uw94.step s x = (s', l)) : stepA s x = l.map V.int := by
  unfold stepA
  rw [h]
theorem step1_of {s s' : Uw94.St} {x : Uw94.Call} {l : List Int} (h : Uw94.step s x = (s', l)) : (Uw94.step s x).1 = s' := by rw [h]
theorem scDone : FnScope psT psT (defScope sDone) := ⟨rfl, rfl, rfl, by decide +kernel, rfl, by decide +kernel, by decide +kernel⟩
theorem can_done (D : Def K mg "done" sDone psT) (T : TGa K CG) (U : TC mg) (cWi : CanM P w K mg base CX0 3 CG "wipe" ["self"] (spWipe CG CW)) (cPu : CanM P w K mg base (L2.CX P w) 4 CG "put_word" ["self", "head", "tail"] (spPutWord CR CG CW))
    (cSa : CanM P w K mg base (L2.CX P w) 5 CG "say" ["self", "word"] (spSay CR CG CW)) (cUn : CanM P w K mg base (L2.CX P w) 4 CG "unsay" ["self"] (spUnsay CR CG CW)) :
    Can P w K mg base (L2.CX P w) 6 "done" psT (spTold K CR CG CW fun x => WM.code x ≤ 3) := by
  refine D.canX scDone (fun vs H Q E h => ?_) (fun f cdv A outer s H vs Q E hr h => ?_)
  · obtain ⟨g, na, O, s, x, rfl, _⟩ := h
    rfl
  · obtain ⟨g, na, O, s, x, rfl, hx, hN, Gg, kE, kQ⟩ := h
    obtain ⟨wa, ha, ta, sp, kn, kvs, G⟩ := Gg.ex
    obtain ⟨dg, h1⟩ := G.ob
    have hok := G.ok
    refine ⟨_, pss_cons (ps_if (pt_cmpR op_eq (pv 1) (pe_k U.clear) (nomark _)) (pss_cons (ps_expr (pe_mn cWi T.cl (pv 0) hr)) (pss_one (ps_ret (pe_lst (pa_cons pe_int pa_nil))))) pss_nil)
      (pss_cons (ps_if (pt_cmpR op_eq (pv 1) (pe_k U.word) (nomark _)) (pss_one (ps_ret (pe_lst (pa_cons (pe_mtX cPu (takes_of rfl rfl rfl rfl) T.cl (pv 0) hr (pa_cons (pe_ix ix_list (pv 2) pe_int (fun _ _ => rfl)) (pa_cons (pe_ix ix_list (pv 2) pe_int (fun _ _ => rfl)) pa_nil))) pa_nil)))) pss_nil)
      (pss_cons (ps_if (pt_cmpR op_eq (pv 1) (pe_k U.say) (nomark _)) (pss_one (ps_ret (pe_lst (pa_cons (pe_mtX cSa (takes_of rfl rfl rfl rfl) T.cl (pv 0) hr (pa_cons (pe_ix ix_list (pv 2) pe_int (fun _ _ => rfl)) pa_nil)) pa_nil)))) pss_nil)
      (pss_one (ps_ret (pe_lst (pa_cons (pe_mnX cUn (takes_of rfl rfl rfl rfl) T.cl (pv 0) hr) pa_nil)))))), ?_⟩
    cases x with
    | clear =>
      refine ⟨_, rfl, rfl, _, rfl, ?_⟩
      refine if_true_of rfl ⟨_, rfl, g, dg, _, rfl, h1, flG_no (by decide +kernel) (by decide +kernel) (by decide +kernel) _ _ _, g, O, s, rfl, Gg, fun O1 H1 G1 st1 => ⟨line_big (by show 1 ≤ 1000; decide), fun a na' => ?_⟩⟩
      exact kQ a O1 _ (G1.same (same_new na')) (st1.trans (Stp.same (same_new na'))) upd_same
    | word a b =>
      refine ⟨_, rfl, rfl, _, rfl, if_false_of rfl ⟨_, rfl, rfl, _, rfl, if_true_of rfl ?_⟩⟩
      refine ⟨_, rfl, g, dg, _, rfl, h1, flG_no (by decide +kernel) (by decide +kernel) (by decide +kernel) _ _ _, _, rfl, na, _, _, V.int (a : Int), rfl, rfl, hN, atI_nat (j := 0) rfl, _, rfl, na, _, _, V.int (b : Int), rfl, rfl, hN, atI_nat (j := 1) rfl, g, O, s, a, b, rfl, Gg, fun c => kE _ (st_word1 c), fun c c9 => kE _ (st_word5 c c9), fun c c9 O1 H1 G1 st1 => ⟨line_big (by show 1 ≤ 1000; decide), fun p np => ?_⟩⟩
      have e := st_word (s := s) c c9
      refine kQ p O1 _ ?_ (st1.trans (Stp.same (same_new np))) ?_
      · rw [step1_of e]
        exact G1.same (same_new np)
      · rw [stepA_of e, upd_same]
        rfl
    | say i =>
      refine ⟨_, rfl, rfl, _, rfl, if_false_of rfl ⟨_, rfl, rfl, _, rfl, if_false_of rfl ⟨_, rfl, rfl, _, rfl, if_true_of rfl ?_⟩⟩⟩
      refine ⟨_, rfl, g, dg, _, rfl, h1, flG_no (by decide +kernel) (by decide +kernel) (by decide +kernel) _ _ _, _, rfl, na, _, _, V.int (i : Int), rfl, rfl, hN, atI_nat (j := 0) rfl, g, O, s, i, rfl, Gg, fun c => kE _ (st_say2 c), fun c c2 => kE _ (st_say4 c c2), fun c c2 c3 => kE _ (st_say6 hok c c2 c3), fun c c2 c3 O1 H1 G1 st1 => ⟨line_big (by show 1 ≤ 1000; decide), fun p np => ?_⟩⟩
      have e := st_say (s := s) hok c c2 c3
      refine kQ p O1 _ ?_ (st1.trans (Stp.same (same_new np))) ?_
      · rw [step1_of e]
        exact G1.same (same_new np)
      · rw [stepA_of e, upd_same]
        rfl
    | back =>
      refine ⟨_, rfl, rfl, _, rfl, if_false_of rfl ⟨_, rfl, rfl, _, rfl, if_false_of rfl ⟨_, rfl, rfl, _, rfl, if_false_of rfl ?_⟩⟩⟩
      refine ⟨_, rfl, g, dg, _, rfl, h1, flG_no (by decide +kernel) (by decide +kernel) (by decide +kernel) _ _ _, g, O, s, rfl, Gg, fun c => kE _ (st_back9 c), fun i c O1 H1 G1 st1 => ⟨line_big (by show 1 ≤ 1000; decide), fun p np => ?_⟩⟩
      have e := st_back (s := s) c
      refine kQ p O1 _ ?_ (st1.trans (Stp.same (same_new np))) ?_
      · rw [step1_of e]
        exact G1.same (same_new np)
      · rw [stepA_of e, upd_same]
        rfl
    | may => exact absurd hx (by decide)
    | said => exact absurd hx (by decide)
    | wins => exact absurd hx (by decide)
    | longest => exact absurd hx (by decide)
    | all => exact absurd hx (by decide)
    | chains => exact absurd hx (by decide)
    | parts => exact absurd hx (by decide)
    | away i => exact absurd hx (by show ¬ 11 ≤ 3; decide)
    | least => exact absurd hx (by decide)
abbrev CQ (P : Program) (w : World) (K : PySem.W.Frag) (mg : Str → Option Value) (base : Heap) (CG CW : Addr) (k : Nat) (x : Str) (f : Uw94.St → List V) : Prop := Can P w K mg base CX0 k x ["game"] (spQ CG CW f)
theorem scAsked : FnScope psT psT (defScope sAsked) := ⟨rfl, rfl, rfl, by decide +kernel, rfl, by decide +kernel, by decide +kernel⟩
theorem can_asked (D : Def K mg "asked" sAsked psT) (T : TGa K CG) (U : TC mg) (cM : Can P w K mg base CX0 1 "with_many" ["some"] spWM) (cS : CanM P w K mg base CX0 4 CG "sayable" ["self"] (spSayable CG CW))
    (q5 : CQ P w K mg base CG CW 2 "said" fun s => stepA s .said) (q6 : CQ P w K mg base CG CW 10 "wins" fun s => stepA s .wins) (q7 : CQ P w K mg base CG CW 9 "longest" fun s => stepA s .longest) (q8 : CQ P w K mg base CG CW 10 "all_said" fun s => stepA s .all)
    (q9 : CQ P w K mg base CG CW 10 "chains" fun s => stepA s .chains) (q10 : CQ P w K mg base CG CW 10 "parts" fun s => stepA s .parts) (cA : Can P w K mg base (L2.CX P w) 9 "away" ["game", "word"] (spAway CR CG CW)) (q12 : CQ P w K mg base CG CW 10 "least" fun s => stepA s .least) :
    Can P w K mg base (L2.CX P w) 11 "asked" psT (spTold K CR CG CW fun x => 3 < WM.code x) := by
  refine D.canX scAsked (fun vs H Q E h => ?_) (fun f cdv A outer s H vs Q E hr h => ?_)
  · obtain ⟨g, na, O, s, x, rfl, _⟩ := h
    rfl
  · obtain ⟨g, na, O, s, x, rfl, hx, hN, Gg, kE, kQ⟩ := h
    obtain ⟨wa, ha, ta, sp, kn, kvs, G⟩ := Gg.ex
    obtain ⟨dg, h1⟩ := G.ob
    have hok := G.ok
    refine ⟨_, pss_cons (ps_if (pt_cmpR op_eq (pv 1) (pe_k U.may) (nomark _)) (pss_one (ps_ret (pe_fn cM hr (pa_cons (pe_mn cS T.cl (pv 0) hr) pa_nil)))) pss_nil)
      (pss_cons (ps_if (pt_cmpR op_eq (pv 1) (pe_k U.said) (nomark _)) (pss_one (ps_ret (pe_fn q5 hr (pa_cons (pv 0) pa_nil)))) pss_nil)
      (pss_cons (ps_if (pt_cmpR op_eq (pv 1) (pe_k U.winning) (nomark _)) (pss_one (ps_ret (pe_fn q6 hr (pa_cons (pv 0) pa_nil)))) pss_nil)
      (pss_cons (ps_if (pt_cmpR op_eq (pv 1) (pe_k U.long) (nomark _)) (pss_one (ps_ret (pe_fn q7 hr (pa_cons (pv 0) pa_nil)))) pss_nil)
      (pss_cons (ps_if (pt_cmpR op_eq (pv 1) (pe_k U.all) (nomark _)) (pss_one (ps_ret (pe_fn q8 hr (pa_cons (pv 0) pa_nil)))) pss_nil)
      (pss_cons (ps_if (pt_cmpR op_eq (pv 1) (pe_k U.chains) (nomark _)) (pss_one (ps_ret (pe_fn q9 hr (pa_cons (pv 0) pa_nil)))) pss_nil)
      (pss_cons (ps_if (pt_cmpR op_eq (pv 1) (pe_k U.parts) (nomark _)) (pss_one (ps_ret (pe_fn q10 hr (pa_cons (pv 0) pa_nil)))) pss_nil)
      (pss_cons (ps_if (pt_cmpR op_eq (pv 1) (pe_k U.away) (nomark _)) (pss_one (ps_ret (pe_fnX cA (takes_of rfl rfl rfl rfl) hr (pa_cons (pv 0) (pa_cons (pe_ix ix_list (pv 2) pe_int (fun _ _ => rfl)) pa_nil))))) pss_nil)
      (pss_one (ps_ret (pe_fn q12 hr (pa_cons (pv 0) pa_nil))))))))))), ?_⟩
    cases x with
    | clear => exact absurd hx (by decide)
    | word a b => exact absurd hx (by show ¬ 3 < 1; decide)
    | say i => exact absurd hx (by show ¬ 3 < 2; decide)
    | back => exact absurd hx (by decide)
    | may =>
      refine ⟨_, rfl, rfl, _, rfl, if_true_of rfl ?_⟩
      have ln := Nat.le_trans (WM.next_length (w := s.words) (g := WM.goneS s) (l := WM.letterS s)) hok.many
      refine ⟨_, rfl, g, dg, _, rfl, h1, flG_no (by decide +kernel) (by decide +kernel) (by decide +kernel) _ _ _, g, O, s, rfl, Gg, fun p H1 s1 np hp => ⟨p, _, rfl, hp, by rw [vn_len]; omega, fun q H2 s2 hq => ?_⟩⟩
      refine kQ q O H2 (Gg.same (s1.trans s2)) (Stp.same (s1.trans s2)) ?_
      rw [a_may hok, hq, vn_len]
    | said => exact ⟨_, rfl, rfl, _, rfl, if_false_of rfl ⟨_, rfl, rfl, _, rfl, if_true_of rfl ⟨_, rfl, g, O, s, rfl, Gg, kQ⟩⟩⟩
    | wins => exact ⟨_, rfl, rfl, _, rfl, if_false_of rfl ⟨_, rfl, rfl, _, rfl, if_false_of rfl ⟨_, rfl, rfl, _, rfl, if_true_of rfl ⟨_, rfl, g, O, s, rfl, Gg, kQ⟩⟩⟩⟩
    | longest => exact ⟨_, rfl, rfl, _, rfl, if_false_of rfl ⟨_, rfl, rfl, _, rfl, if_false_of rfl ⟨_, rfl, rfl, _, rfl, if_false_of rfl ⟨_, rfl, rfl, _, rfl, if_true_of rfl ⟨_, rfl, g, O, s, rfl, Gg, kQ⟩⟩⟩⟩⟩
    | all => exact ⟨_, rfl, rfl, _, rfl, if_false_of rfl ⟨_, rfl, rfl, _, rfl, if_false_of rfl ⟨_, rfl, rfl, _, rfl, if_false_of rfl ⟨_, rfl, rfl, _, rfl, if_false_of rfl ⟨_, rfl, rfl, _, rfl, if_true_of rfl ⟨_, rfl, g, O, s, rfl, Gg, kQ⟩⟩⟩⟩⟩⟩
    | chains => exact ⟨_, rfl, rfl, _, rfl, if_false_of rfl ⟨_, rfl, rfl, _, rfl, if_false_of rfl ⟨_, rfl, rfl, _, rfl, if_false_of rfl ⟨_, rfl, rfl, _, rfl, if_false_of rfl ⟨_, rfl, rfl, _, rfl, if_false_of rfl ⟨_, rfl, rfl, _, rfl, if_true_of rfl ⟨_, rfl, g, O, s, rfl, Gg, kQ⟩⟩⟩⟩⟩⟩⟩
    | parts => exact ⟨_, rfl, rfl, _, rfl, if_false_of rfl ⟨_, rfl, rfl, _, rfl, if_false_of rfl ⟨_, rfl, rfl, _, rfl, if_false_of rfl ⟨_, rfl, rfl, _, rfl, if_false_of rfl ⟨_, rfl, rfl, _, rfl, if_false_of rfl ⟨_, rfl, rfl, _, rfl, if_false_of rfl ⟨_, rfl, rfl, _, rfl, if_true_of rfl ⟨_, rfl, g, O, s, rfl, Gg, kQ⟩⟩⟩⟩⟩⟩⟩⟩
    | away i =>
      refine ⟨_, rfl, rfl, _, rfl, if_false_of rfl ⟨_, rfl, rfl, _, rfl, if_false_of rfl ⟨_, rfl, rfl, _, rfl, if_false_of rfl ⟨_, rfl, rfl, _, rfl, if_false_of rfl ⟨_, rfl, rfl, _, rfl, if_false_of rfl ⟨_, rfl, rfl, _, rfl, if_false_of rfl ⟨_, rfl, rfl, _, rfl, if_false_of rfl ⟨_, rfl, rfl, _, rfl, if_true_of rfl ?_⟩⟩⟩⟩⟩⟩⟩⟩
      exact ⟨_, rfl, _, rfl, na, _, _, V.int (i : Int), rfl, rfl, hN, atI_nat (j := 0) rfl, g, O, s, i, rfl, Gg, fun c => kE _ (st_away2 c), fun _ => kQ⟩
    | least => exact ⟨_, rfl, rfl, _, rfl, if_false_of rfl ⟨_, rfl, rfl, _, rfl, if_false_of rfl ⟨_, rfl, rfl, _, rfl, if_false_of rfl ⟨_, rfl, rfl, _, rfl, if_false_of rfl ⟨_, rfl, rfl, _, rfl, if_false_of rfl ⟨_, rfl, rfl, _, rfl, if_false_of rfl ⟨_, rfl, rfl, _, rfl, if_false_of rfl ⟨_, rfl, rfl, _, rfl, if_false_of rfl ⟨_, rfl, g, O, s, rfl, Gg, kQ⟩⟩⟩⟩⟩⟩⟩⟩⟩
theorem scTold : FnScope psT psT (defScope sTold) := ⟨rfl, rfl, rfl, by decide +kernel, rfl, by decide +kernel, by decide +kernel⟩
theorem can_told (D : Def K mg "told" sTold psT) (U : TC mg) (cD : Can P w K mg base (L2.CX P w) 6 "done" psT (spTold K CR CG CW fun x => WM.code x ≤ 3)) (cA : Can P w K mg base (L2.CX P w) 11 "asked" psT (spTold K CR CG CW fun x => 3 < WM.code x)) :
    Can P w K mg base (L2.CX P w) 12 "told" psT (spTold K CR CG CW fun _ => True) := by
  refine D.canX scTold (fun vs H Q E h => ?_) (fun f cdv A outer s H vs Q E hr h => ?_)
  · obtain ⟨g, na, O, s, x, rfl, _⟩ := h
    rfl
  · obtain ⟨g, na, O, s, x, rfl, hx, hN, Gg, kE, kQ⟩ := h
    refine ⟨_, pss_cons (ps_if (pt_cmpR op_le (pv 1) (pe_k U.back) (nomark _)) (pss_one (ps_ret (pe_fnX cD (takes_of rfl rfl rfl rfl) hr (pa_cons (pv 0) (pa_cons (pv 1) (pa_cons (pv 2) pa_nil)))))) pss_nil)
      (pss_one (ps_ret (pe_fnX cA (takes_of rfl rfl rfl rfl) hr (pa_cons (pv 0) (pa_cons (pv 1) (pa_cons (pv 2) pa_nil)))))), ?_⟩
    refine ⟨_, rfl, _, _, rfl, rfl, _, rfl, ?_⟩
    by_cases c : WM.code x ≤ 3
    · exact if_true_of (decide_eq_true (by omega)) ⟨_, rfl, _, rfl, _, rfl, g, na, O, s, x, rfl, c, hN, Gg, kE, kQ⟩
    · exact if_false_of (decide_eq_false (by omega)) ⟨_, rfl, _, rfl, _, rfl, g, na, O, s, x, rfl, (by omega), hN, Gg, kE, kQ⟩
def spAnswer (K : PySem.W.Frag) (CG CW : Addr) : Sp := fun vs H Q _ => ∃ (g na : Addr) (O : Addr → Prop) (s : Uw94.St) (x : Uw94.Call), vs = [.ref g, .int ((WM.code x : Nat) : Int), .ref na] ∧ SqL K H na (vn (WM.nums x)) ∧ Gm CG CW H O g s ∧
  (∀ (p : Addr) (O' : Addr → Prop) (H' : Hp), Gm CG CW H' O' g (Uw94.step s x).1 → Stp O H O' H' → H' p = some (.lst (stepA s x)) → Q (.ref p) H')
abbrev nAnswer : List Str := ["game", "call", "numbers", "e"]
theorem scAnswer : FnScope nAnswer psT (defScope sAnswer) := ⟨rfl, rfl, rfl, by decide +kernel, rfl, by decide +kernel, by decide +kernel⟩
theorem can_answer (D : Def K mg "answer" sAnswer psT) (TRe : TR K mg CR) (cT : Can P w K mg base (L2.CX P w) 12 "told" psT (spTold K CR CG CW fun _ => True)) : Can P w K mg base CX0 13 "answer" psT (spAnswer K CG CW) := by
  refine D.can scAnswer (fun vs H Q E h => ?_) (fun f cdv A outer s H vs Q E hr h => ?_)
  · obtain ⟨g, na, O, s, x, rfl, _⟩ := h
    rfl
  · obtain ⟨g, na, O, s, x, rfl, hN, Gg, kQ⟩ := h
    refine ⟨_, pss_one (ps_try_as (i := 3) (tb := fun W => tRet (tCallS (spTold K CR CG CW fun _ => True) (WE W) (tCons (tVar 0) (tCons (tVar 1) (tCons (tVar 2) tNil))))) (ts := fun a cls d => tRet (tLst (tCons (tXf a cls d CR "number" (tVar 3)) tNil))) (Wout := fun _ _ _ _ => False)
      rfl rfl scAnswer.nd rfl rfl ⟨rfl, by decide, Or.inl TRe.gR⟩ takes0
      (fun W pn xe tk _ => pss_one (ps_ret (by exact (pe_fnX cT tk hr (by exact (pa_cons (pv 0) (pa_cons (pv 1) (pa_cons (pv 2) pa_nil))))))))
      (fun a oe cls d pn hz hf => pss_one (ps_ret (by exact (pe_lst (by exact (pa_cons (by exact (pe_xf TRe.xf TRe.noN hz hf (pv 3))) pa_nil))))))), ?_⟩
    refine ⟨_, rfl, _, rfl, _, rfl, g, na, O, s, x, rfl, True.intro, hN, Gg, fun n hn H1 d s1 hd => ?_, kQ⟩
    refine ⟨true, TRe.te, fun _ a0 _ => ?_, fun q => Bool.noConfusion q⟩
    refine ⟨_, rfl, rfl, rfl, d, _, _, rfl, hd, lk_here, line_big (by show 1 ≤ 1000; decide), fun p np => ?_⟩
    refine kQ p O _ ?_ (Stp.same (s1.trans (same_new np))) ?_
    · rw [step1_of hn]
      exact Gg.same (s1.trans (same_new np))
    · rw [stepA_of hn, upd_same]
      rfl
end
end WC

/-! W9: a list of calls. -/
namespace WC
open PySem PySem.Spec PyProof.Rows L2
open Uw94 (Words)
theorem nums_at (x : Uw94.Call) : atI nums13 ((WM.code x : Nat) : Int) = some (V.int (((WM.nums x).length : Nat) : Int)) := by
  cases x <;> exact atI_nat rfl
theorem enc_v (x : Uw94.Call) : (WM.enc x).map V.int = V.int ((WM.code x : Nat) : Int) :: vn (WM.nums x) := by
  unfold WM.enc
  rw [List.map_cons, List.map_map]
  rfl
/-- what stands behind the first n + 1 items, k of them -/
theorem cut_mid {P A R : List V} {c : V} {n k : Nat} (hn : P.length = n) (hk : A.length = k) : cutV (P ++ (c :: A) ++ R) (some ((n : Int) + 1)) (some ((n : Int) + 1 + (k : Int))) = A := by
  have e1 : ((n : Int) + 1) = ((n + 1 : Nat) : Int) := by omega
  have e2 : ((n : Int) + 1 + (k : Int)) = ((n + 1 + k : Nat) : Int) := by omega
  have el : (P ++ (c :: A) ++ R).length = n + 1 + k + R.length := by
    rw [List.length_append, List.length_append, List.length_cons, hn, hk]
    omega
  unfold cutV
  rw [e2, e1, HT.sIx_nat, HT.sIx_nat, el, Nat.min_eq_left (by omega), Nat.min_eq_left (by omega)]
  have ed : (P ++ (c :: A) ++ R).drop (n + 1) = A ++ R := by
    have e : P ++ (c :: A) ++ R = (P ++ [c]) ++ (A ++ R) := by simp
    rw [e]
    exact List.drop_left' (by rw [List.length_append, hn]; rfl)
  rw [ed]
  exact List.take_left' (by omega)
theorem mid_get {P A : List V} {c : V} {n : Nat} (hn : P.length = n) : (P ++ (c :: A))[n]? = some c := by
  rw [List.getElem?_append_right (by omega), hn, Nat.sub_self]
  rfl
section
variable {P : Program} {w : World} {K : PySem.W.Frag} {mg : Str → Option Value} {base : Heap} {CR CW CG : Addr}
def spAnswers (K : PySem.W.Frag) : Sp := fun vs H Q _ => ∃ (a : Addr) (ns : List Int), vs = [.ref a] ∧ SqL K H a (ns.map V.int) ∧ PyUw94.answers_asked ns = true ∧
  ∀ (H' : Hp) (p : Addr), H' p = some (.lst ((PyUw94.answers ns).map V.int)) → Q (.ref p) H'
abbrev nAnswers : List Str := ["calls", "game", "found", "at", "call", "numbers"]
theorem scAnswers : FnScope nAnswers ["calls"] (defScope sAnswers) := ⟨rfl, rfl, rfl, by decide +kernel, rfl, by decide +kernel, by decide +kernel⟩
/-- between two turns -/
structure Turn2 (K : PySem.W.Frag) (CG CW : Addr) (H : Hp) (a g fnd : Addr) (ns : List Int) (m : Nat) (σ : L2.St) (H' : Hp) : Prop where
  ex : ∃ (pre : List Int) (rest : List Uw94.Call) (s : Uw94.St) (O : Addr → Prop) (acc : List Int) (x y : Option V), m = rest.length ∧ σ = [some (.ref a), some (.ref g), some (.ref fnd), some (.int (pre.length : Int)), x, y] ∧ ns = pre ++ WM.fl rest ∧
    Gm CG CW H' O g s ∧ ¬ O fnd ∧ H' fnd = some (.lst (acc.map V.int)) ∧ Same H H' ∧ (∀ b, O b → H b = none) ∧ acc ++ PyFlat.told (WM.playS s rest) = PyUw94.answers ns
theorem ok_answers {f : Addr} {fd : FuncData} (F : Fun K "answers" "answers" sAnswers f fd) (TNu : TN K mg) (U : TK mg) (cG : CanI P w K mg base 3 CG "Game" ["self"] (spGI CG CW)) (cM : Can P w K mg base CX0 1 "with_many" ["some"] spWM) (cA : Can P w K mg base CX0 13 "answer" psT (spAnswer K CG CW)) :
    FnOk P w K mg base CX0 14 f fd ["calls"] (spAnswers K) := by
  refine F.ok scAnswers (fun vs H Q E h => ?_) (fun cdv A outer s H vs Q E hr h => ?_)
  · obtain ⟨a, ns, rfl, _⟩ := h
    rfl
  · obtain ⟨a, ns, rfl, hS, hask, k⟩ := h
    obtain ⟨aN, gN, sN⟩ := TNu.ex
    obtain ⟨xs0, hl0, hdue, hlen⟩ := WM.parse hask
    refine ⟨_, pss_cons (ps_set (i := 1) scAnswers.nd rfl (Or.inl rfl) (pe_new cG hr))
      (pss_cons (ps_set (i := 2) scAnswers.nd rfl (Or.inl rfl) (pe_lst pa_nil))
      (pss_cons (ps_set (i := 3) scAnswers.nd rfl (Or.inl rfl) pe_int)
      (pss_cons (ps_while PassesOwn.never (pt_cmpR op_lt (pv 3) (pe_callB call_len_seq (by rfl) U.len PySem.boot_len (pa_cons (pv 0) pa_nil)) (nomark _))
        (pss_cons (ps_set (i := 4) scAnswers.nd rfl (Or.inl rfl) (pe_ix ix_list (pv 0) (pv 3) (fun _ _ => rfl)))
        (pss_cons (ps_set (i := 5) scAnswers.nd rfl (Or.inl rfl) (pe_slice sl_list (pv 0) (po_some (pe_op op_add (pv 3) pe_int)) (po_some (pe_op op_add (pe_op op_add (pv 3) pe_int) (pe_ix ix_tup (pe_glob (v := .ref aN) rfl gN rfl) (pv 4) (fun _ _ => rfl))))))
        (pss_cons (ps_expr (pe_bm PySem.F.plainAttrs_list PySem.F.slot_list_extend PySem.F.type_list_extend mt_extend (pv 2) (pa_cons (pe_fn cM hr (pa_cons (pe_fn cA hr (pa_cons (pv 1) (pa_cons (pv 4) (pa_cons (pv 5) pa_nil)))) pa_nil)) pa_nil)))
        (pss_one (ps_set (i := 3) scAnswers.nd rfl (Or.inl rfl) (pe_op op_add (pe_op op_add (pv 3) pe_int) (pe_ix ix_tup (pe_glob (v := .ref aN) rfl gN rfl) (pv 4) (fun _ _ => rfl)))))))))
      (pss_one (ps_ret (pv 2)))))), ?_⟩
    intro g dg ng ndg nex
    refine ⟨g, dg, rfl, upd_same, fun H1 G1 kp => ⟨rfl, ?_⟩⟩
    have s0 : Same H (upd (upd H dg (.own g)) g (.ins CG dg [])) := fun b o e => by
      rw [upd_ne (ne_of_none e ng), upd_ne (ne_of_none e ndg)]
      exact e
    have s1 : Same H H1 := fun b o e => kp b o (s0 b o e) (ne_of_none e ng)
    refine ⟨Nat.zero_le _, fun fnd nf => ?_⟩
    have nf0 : H fnd = none := s1.free nf
    refine ⟨Turn2 K CG CW H a g fnd ns, ⟨xs0.length, [], xs0, Uw94.init, _, [], none, none, rfl, rfl, hl0, G1.same (same_new nf), G1.not nf, upd_same, same_upd s1 nf0, fun b hb => ?_, hdue.symm⟩, ?_⟩
    · rcases hb with rfl | ⟨n, _⟩
      · exact ng
      · exact s0.free n
    rintro m σ H2 T
    obtain ⟨pre, rest, st, O, acc, x, y, rfl, rfl, hns, G2, nOf, hf, s2, hO, hdue2⟩ := T.ex
    have S2 := s2.seq hS
    refine ⟨_, rfl, _, rfl, a, _, rfl, .inl S2, _, _, rfl, rfl, _, rfl, ?_⟩
    cases rest with
    | nil =>
      have e0 : ns = pre := by rw [hns]; exact List.append_nil _
      refine if_false_of (decide_eq_false (by rw [List.length_map, e0]; omega)) ⟨_, rfl, k H2 fnd ?_⟩
      have e1 : acc ++ [] = PyUw94.answers ns := hdue2
      rw [List.append_nil] at e1
      rw [← e1]
      exact hf
    | cons c r =>
      have hns2 : ns = pre ++ WM.enc c ++ WM.fl r := by rw [hns, WM.fl_cons, List.append_assoc]
      have hv : ns.map V.int = pre.map V.int ++ (V.int ((WM.code c : Nat) : Int) :: vn (WM.nums c)) ++ (WM.fl r).map V.int := by
        rw [hns2, List.map_append, List.map_append, enc_v]
      have hpl : (pre.map V.int).length = pre.length := List.length_map _
      refine if_true_of (decide_eq_true ?_) ?_
      · rw [hv, List.length_append, List.length_append, List.length_cons, hpl]
        omega
      refine ⟨fun σ' H' => ∃ m', m' < r.length + 1 ∧ Turn2 K CG CW H a g fnd ns m' σ' H', fun σ' H' q => q, ?_⟩
      refine ⟨_, rfl, _, rfl, a, _, _, V.int ((WM.code c : Nat) : Int), rfl, rfl, S2, atI_nat ?_, ?_⟩
      · rw [hv, List.append_assoc]
        exact mid_get hpl
      refine ⟨_, rfl, _, rfl, _, _, rfl, rfl, _, rfl, _, rfl, _, _, rfl, rfl, _, rfl, aN, _, _, _, rfl, rfl, sN _, nums_at c, _, _, rfl, rfl, _, rfl, a, _, rfl, S2, fun na nna => ?_⟩
      have hcut : cutV (ns.map V.int) (some ((pre.length : Int) + 1)) (some ((pre.length : Int) + 1 + (((WM.nums c).length : Nat) : Int))) = vn (WM.nums c) := by
        rw [hv]
        exact cut_mid hpl (vn_len _)
      have hdue3 : acc ++ ((((Uw94.step st c).2.length : Int) :: (Uw94.step st c).2) ++ PyFlat.told (WM.playS (Uw94.step st c).1 r)) = PyUw94.answers ns := hdue2
      have hlen3 := congrArg List.length hdue3
      rw [List.length_append, List.length_append, List.length_cons] at hlen3
      have eA : (stepA st c).length = (Uw94.step st c).2.length := List.length_map _
      have sn : Same H2 (upd H2 na (.lst (cutV (ns.map V.int) (some ((pre.length : Int) + 1)) (some ((pre.length : Int) + 1 + (((WM.nums c).length : Nat) : Int)))))) := same_new nna
      have en : (upd H2 na (.lst (cutV (ns.map V.int) (some ((pre.length : Int) + 1)) (some ((pre.length : Int) + 1 + (((WM.nums c).length : Nat) : Int)))))) na = some (.lst (vn (WM.nums c))) := by rw [upd_same, hcut]
      refine ⟨_, rfl, .inl ⟨rfl, _, SqL.of (sn _ _ hf)⟩, _, rfl, _, rfl, _, rfl, g, na, O, st, c, rfl, SqL.of en, G2.same sn, fun p O3 H3 G3 st3 hp => ?_⟩
      refine ⟨p, _, rfl, hp, by rw [eA]; omega, fun q H4 s4 hq => ?_⟩
      have sHn := s2.trans sn
      have sH3 : Same H H3 := fun b o e => st3.keep b o (sHn b o e) fun z => by
        rw [hO b z] at e
        cases e
      have sH4 : Same H H4 := sH3.trans s4
      have ef : H4 fnd = some (.lst (acc.map V.int)) := s4 _ _ (st3.keep fnd _ (sn _ _ hf) nOf)
      refine ⟨fnd, q, _, _, rfl, rfl, ef, hq, ?_, ?_⟩
      · rw [List.length_map, List.length_cons, eA, sizeLine_eq]
        omega
      have nO3 : ¬ O3 fnd := fun z => by
        rcases st3.own fnd z with z | z
        · exact nOf z
        · rw [sn _ _ hf] at z
          cases z
      refine ⟨_, rfl, _, _, rfl, rfl, _, rfl, aN, _, _, _, rfl, rfl, sN _, nums_at c, _, _, rfl, rfl, ?_⟩
      refine ⟨r.length, Nat.lt_succ_self _, pre ++ WM.enc c, r, (Uw94.step st c).1, O3, acc ++ (((Uw94.step st c).2.length : Int) :: (Uw94.step st c).2), some (.int ((WM.code c : Nat) : Int)), some (.ref na), rfl, ?_, hns2, ?_, nO3, ?_, same_upd sH4 nf0, fun b hb => ?_, ?_⟩
      · have e : (pre.length : Int) + 1 + (((WM.nums c).length : Nat) : Int) = (((pre ++ WM.enc c).length : Nat) : Int) := by
          unfold WM.enc
          rw [List.length_append, List.length_cons, List.length_map]
          omega
        rw [← e]
        rfl
      · refine (G3.same s4).mono fun b o hb e => ?_
        rw [upd_ne fun z => nO3 (by rw [← z]; exact hb)]
        exact e
      · rw [upd_same, List.map_append, List.map_cons, eA]
        rfl
      · rcases st3.own b hb with z | z
        · exact hO b z
        · exact sHn.free z
      · rw [List.append_assoc]
        exact hdue3
end
end WC

/-! W10: what the top has written, def by def; the assembly. Printed by gen_end.py. -/
namespace WC
open PySem PySem.Spec PyProof.Rows L2
section
variable {K : PySem.W.Frag} {h : Heap} {mg : Str → Option Value} {C f : Addr} {x qual c : Str} {st : Stmt} {ps : List Str} {oc : Value} {od an : Option Addr} {sl : Array (Option Value)} {kV dc pm cd ct : Value}
abbrev BindsBy (x qual : Str) (st : Stmt) (ps : List Str) : Prop := ∀ (kV doc pm : Value) (an : Option Addr) (cdv ct : Value) (us : List Value), us.length = ps.length → bindArgs (PySem.W.fnOf x qual (defArgs st) (defBody st) (defScope st) .none kV doc pm an cdv ct) ⟨us, []⟩ = pure (ps.zip us)
theorem def_mk (X : K.In h) (G : h.Ns mainGlobals mg) (b : BindsBy x x st ps) (a : PySem.W.nsIn K mainGlobals x = some (some (.ref f))) (l : K.lookup f = some ⟨oc, od, .func (PySem.W.fnOf x x (defArgs st) (defBody st) (defScope st) .none kV dc pm an cd ct), sl⟩)
    (cc : PySem.W.codeIn K cd x = true) (k : PySem.W.keepIn K (.ref f) = true) : Def K mg x st ps :=
  have F := fun_mk (st := st) l cc k
  ⟨f, _, F, F.binds b, PySem.W.mg_of X G a⟩
theorem defM_mk (b : BindsBy x qual st ps) (a : PySem.W.findIn K (.ref C) x = some (some (.ref f))) (i : PySem.W.isFn K (.ref f) = true) (l : K.lookup f = some ⟨oc, od, .func (PySem.W.fnOf x qual (defArgs st) (defBody st) (defScope st) .none kV dc pm an cd ct), sl⟩)
    (cc : PySem.W.codeIn K cd qual = true) (k : PySem.W.keepIn K (.ref f) = true) : DefM K C x qual st ps :=
  have F := fun_mk (st := st) l cc k
  ⟨f, _, F, F.binds b, ⟨a, i, k⟩⟩
theorem defI_mk (b : BindsBy "__init__" qual st ps) (mc : mg c = some (.ref C)) (mk : PySem.W.makesIn K C = true) (kc : PySem.W.keepIn K (.ref C) = true) (a : PySem.W.findIn K (.ref C) "__init__" = some (some (.ref f))) (i : PySem.W.isFn K (.ref f) = true)
    (l : K.lookup f = some ⟨oc, od, .func (PySem.W.fnOf "__init__" qual (defArgs st) (defBody st) (defScope st) .none kV dc pm an cd ct), sl⟩)
    (cc : PySem.W.codeIn K cd qual = true) (k : PySem.W.keepIn K (.ref f) = true) : DefI K mg C c qual st ps :=
  have F := fun_mk (st := st) l cc k
  ⟨f, _, F, F.binds b, ⟨mk, a, i, kc⟩, mc⟩
theorem defR_mk (b : BindsBy "__init__" "Refusal.__init__" sRI ["self", "number"]) (a : PySem.W.findIn K (.ref C) "__init__" = some (some (.ref f))) (i : PySem.W.typeIn K (.ref f) = some (.type "function"))
    (l : K.lookup f = some ⟨oc, od, .func (PySem.W.fnOf "__init__" "Refusal.__init__" (defArgs sRI) (defBody sRI) (defScope sRI) .none kV dc pm an cd ct), sl⟩)
    (cc : PySem.W.codeIn K cd "Refusal.__init__" = true) (k : PySem.W.keepIn K (.ref f) = true) : DefR K C :=
  have F := fun_mk (st := sRI) l cc k
  ⟨f, _, F, F.binds b, a, i⟩
/-- an error of the class at S is what «except S» names -/
theorem exm_self {S : Addr} (h1 : PySem.W.subIn K (.ref S) (.type "BaseException") = some true) (h2 : PySem.W.isClsIn K S = true) (h3 : PySem.W.typeIn K (.ref S) = some (.type "type")) (h4 : PySem.W.subIn K (.ref S) (.ref S) = some true) :
    PySem.W.exmOne K (.ref S) (.ref S) = some true := by
  have e1 : (PySem.W.subIn K (.ref S) (.type "BaseException") == some true) = true := by rw [h1] <;> rfl
  have e2 : ((PySem.W.clsIn K S).isSome && PySem.W.typeIn K (.ref S) == some (.type "type")) = true := by
    have h2' : (PySem.W.clsIn K S).isSome = true := h2
    rw [h2', h3] <;> rfl
  show (if (PySem.W.subIn K (.ref S) (.type "BaseException") == some true) = true then (if ((PySem.W.clsIn K S).isSome && PySem.W.typeIn K (.ref S) == some (.type "type")) = true then PySem.W.subIn K (.ref S) (.ref S) else none) else none) = some true
  rw [if_pos e1, if_pos e2]
  exact h4
theorem tr_mk (X : K.In h) (G : h.Ns mainGlobals mg) {nm q : Str} {N : Addr} {bs : List Value} {sn : List Str} {sub : List Value} {ab : Bool} {col : Option Bool} {dd : Option Addr} {m0 m1 m2 m3 m5 : Option Value}
    (aC : PySem.W.nsIn K mainGlobals "Refusal" = some (some (.ref C)))
    (xL : K.lookup C = some (excClassObj nm q C N bs [.type "ValueError", .type "Exception", .type "BaseException", .type "object"] true sn sub ab col dd m0 m1 m2 m3 m5 "ValueError.__new__"))
    (sa : PySem.W.findIn K (.ref C) "__setattr__" = some (some (.builtin "object.__setattr__"))) (ga : PySem.W.findIn K (.ref C) "__getattribute__" = some (some (.builtin "BaseException.__getattribute__"))) (gg : PySem.W.findIn K (.ref C) "__getattr__" = some none) (nb : PySem.W.findIn K (.ref C) "number" = some none)
    (kC : PySem.W.keepIn K (.ref C) = true) (eC : PySem.W.subIn K (.ref C) (.type "BaseException") = some true) (tC : PySem.W.typeIn K (.ref C) = some (.type "type")) (hC : PySem.W.hasDictIn K C = true) (iC : PySem.W.isClsIn K C = true) (sC : PySem.W.subIn K (.ref C) (.ref C) = some true)
    (nV : PySem.W.nsIn K mainGlobals "ValueError" = some none) (vV : PySem.W.findCls K (.type "ValueError") (.type "type") "__init__" = some (.val (.builtin "ValueError.__init__"))) : TR K mg C where
  oex := ⟨⟨nm, q, N, bs, _, sn, sub, ab, col, dd, m0, m1, m2, m3, m5, xL, by decide +kernel⟩, sa, eC, tC, kC⟩
  xf := ⟨ga, gg, eC, hC⟩
  noN := nb
  gR := PySem.W.mg_of X G aC
  mVE := PySem.W.mg_none_of X G nV
  vV := vV
  te := exm_self eC iC tC sC
theorem tw_mk (pg : PySem.W.plainGet K C Str.empty = true) (hd : PySem.W.hasDictIn K C = true) (po : PySem.W.plainOver K C = true) (sa : PySem.W.findIn K (.ref C) "__setattr__" = some (some (.builtin "object.__setattr__")))
    (n1 : PySem.W.findIn K (.ref C) "heads" = some none) (n2 : PySem.W.findIn K (.ref C) "tails" = some none) : TW K C := ⟨⟨pg, hd, po, sa⟩, n1, n2⟩
theorem tg_mk (pg : PySem.W.plainGet K C Str.empty = true) (hd : PySem.W.hasDictIn K C = true) (po : PySem.W.plainOver K C = true) (sa : PySem.W.findIn K (.ref C) "__setattr__" = some (some (.builtin "object.__setattr__")))
    (n1 : PySem.W.findIn K (.ref C) "words" = some none) (n2 : PySem.W.findIn K (.ref C) "spoken" = some none) (n3 : PySem.W.findIn K (.ref C) "known" = some none) : TGa K C := ⟨⟨pg, hd, po, sa⟩, n1, n2, n3⟩
theorem k_mk (X : K.In h) (G : h.Ns mainGlobals mg) {n : Int} {t : Tok} (a : PySem.W.nsIn K mainGlobals x = some (some (.int n t))) : ∃ t, mg x = some (.int n t) := ⟨t, PySem.W.mg_of X G a⟩
theorem tn_mk (X : K.In h) (G : h.Ns mainGlobals mg) {a : Addr} {od : Option Addr} {n : Nat} {sl : Array (Option Value)} {t0 t1 t2 t3 t4 t5 t6 t7 t8 t9 t10 t11 t12 : Tok} (aN : PySem.W.nsIn K mainGlobals "NUMBERS" = some (some (.ref a)))
    (l : K.lookup a = some ⟨.type "tuple", od, .seq #[.int 0 t0, .int 2 t1, .int 1 t2, .int 0 t3, .int 0 t4, .int 0 t5, .int 0 t6, .int 0 t7, .int 0 t8, .int 0 t9, .int 0 t10, .int 1 t11, .int 0 t12] n, sl⟩) : TN K mg :=
  ⟨a, PySem.W.mg_of X G aN, fun H => .inr ⟨_, _, n, l, rfl, rfl, line_big (by show 13 ≤ 1000; decide), .cons ⟨_, rfl⟩ (.cons ⟨_, rfl⟩ (.cons ⟨_, rfl⟩ (.cons ⟨_, rfl⟩ (.cons ⟨_, rfl⟩ (.cons ⟨_, rfl⟩ (.cons ⟨_, rfl⟩ (.cons ⟨_, rfl⟩ (.cons ⟨_, rfl⟩ (.cons ⟨_, rfl⟩ (.cons ⟨_, rfl⟩ (.cons ⟨_, rfl⟩ (.cons ⟨_, rfl⟩ .nil))))))))))))⟩⟩
end
/-! ### how the arguments bind -/
theorem b_R_init : BindsBy "__init__" "Refusal.__init__" sRI ["self", "number"] := fun _ _ _ _ _ _ us hl => match us, hl with | [_, _], _ => rfl
theorem b_must : BindsBy "must" "must" sMust ["truth", "number"] := fun _ _ _ _ _ _ us hl => match us, hl with | [_, _], _ => rfl
theorem b_W_init : BindsBy "__init__" "Words.__init__" sWI ["self"] := fun _ _ _ _ _ _ us hl => match us, hl with | [_], _ => rfl
theorem b_W_many : BindsBy "many" "Words.many" sMany ["self"] := fun _ _ _ _ _ _ us hl => match us, hl with | [_], _ => rfl
theorem b_W_put : BindsBy "put" "Words.put" sPut ["self", "head", "tail"] := fun _ _ _ _ _ _ us hl => match us, hl with | [_, _, _], _ => rfl
theorem b_W_tail_of : BindsBy "tail_of" "Words.tail_of" sTail ["self", "word"] := fun _ _ _ _ _ _ us hl => match us, hl with | [_, _], _ => rfl
theorem b_W_begins : BindsBy "begins" "Words.begins" sBegins ["self", "word", "letter"] := fun _ _ _ _ _ _ us hl => match us, hl with | [_, _, _], _ => rfl
theorem b_W_left : BindsBy "left" "Words.left" sLeft ["self", "gone"] := fun _ _ _ _ _ _ us hl => match us, hl with | [_, _], _ => rfl
theorem b_W_next_ones : BindsBy "next_ones" "Words.next_ones" sNext ["self", "gone", "letter"] := fun _ _ _ _ _ _ us hl => match us, hl with | [_, _, _], _ => rfl
theorem b_is_gone : BindsBy "is_gone" "is_gone" sIsGone ["gone", "word"] := fun _ _ _ _ _ _ us hl => match us, hl with | [_, _], _ => rfl
theorem b_with_word : BindsBy "with_word" "with_word" sWith ["gone", "word"] := fun _ _ _ _ _ _ us hl => match us, hl with | [_, _], _ => rfl
theorem b_all_gone : BindsBy "all_gone" "all_gone" sAllGone ["words"] := fun _ _ _ _ _ _ us hl => match us, hl with | [_], _ => rfl
theorem b_gone_of : BindsBy "gone_of" "gone_of" sGoneOf ["some"] := fun _ _ _ _ _ _ us hl => match us, hl with | [_], _ => rfl
theorem b_behind : BindsBy "behind" "behind" sBehind ["words", "rows", "gone", "word"] := fun _ _ _ _ _ _ us hl => match us, hl with | [_, _, _, _], _ => rfl
theorem b_win_worth : BindsBy "win_worth" "win_worth" sWin ["words", "rows", "gone", "letter"] := fun _ _ _ _ _ _ us hl => match us, hl with | [_, _, _, _], _ => rfl
theorem b_longest_worth : BindsBy "longest_worth" "longest_worth" sLong ["words", "rows", "gone", "letter"] := fun _ _ _ _ _ _ us hl => match us, hl with | [_, _, _, _], _ => rfl
theorem b_total_behind : BindsBy "total_behind" "total_behind" sTotal ["words", "rows", "gone", "letter"] := fun _ _ _ _ _ _ us hl => match us, hl with | [_, _, _, _], _ => rfl
theorem b_ways_worth : BindsBy "ways_worth" "ways_worth" sWays ["words", "rows", "gone", "letter"] := fun _ _ _ _ _ _ us hl => match us, hl with | [_, _, _, _], _ => rfl
theorem b_chains_worth : BindsBy "chains_worth" "chains_worth" sChains ["words", "rows", "gone", "letter"] := fun _ _ _ _ _ _ us hl => match us, hl with | [_, _, _, _], _ => rfl
theorem b_new_chain : BindsBy "new_chain" "new_chain" sNewC ["words", "letter", "word"] := fun _ _ _ _ _ _ us hl => match us, hl with | [_, _, _], _ => rfl
theorem b_fewest_worth : BindsBy "fewest_worth" "fewest_worth" sFew ["words", "rows", "gone", "letter"] := fun _ _ _ _ _ _ us hl => match us, hl with | [_, _, _, _], _ => rfl
theorem b_worth_of : BindsBy "worth_of" "worth_of" sWorth ["words", "rows", "gone", "letter", "kind"] := fun _ _ _ _ _ _ us hl => match us, hl with | [_, _, _, _, _], _ => rfl
theorem b_filled : BindsBy "filled" "filled" sFilled ["words", "kind"] := fun _ _ _ _ _ _ us hl => match us, hl with | [_, _], _ => rfl
theorem b_G_init : BindsBy "__init__" "Game.__init__" sGI ["self"] := fun _ _ _ _ _ _ us hl => match us, hl with | [_], _ => rfl
theorem b_G_letter : BindsBy "letter" "Game.letter" sLetter ["self"] := fun _ _ _ _ _ _ us hl => match us, hl with | [_], _ => rfl
theorem b_G_gone : BindsBy "gone" "Game.gone" sGone ["self"] := fun _ _ _ _ _ _ us hl => match us, hl with | [_], _ => rfl
theorem b_G_table : BindsBy "table" "Game.table" sTable ["self", "kind"] := fun _ _ _ _ _ _ us hl => match us, hl with | [_, _], _ => rfl
theorem b_G_now : BindsBy "now" "Game.now" sNow ["self", "kind"] := fun _ _ _ _ _ _ us hl => match us, hl with | [_, _], _ => rfl
theorem b_G_sayable : BindsBy "sayable" "Game.sayable" sSayable ["self"] := fun _ _ _ _ _ _ us hl => match us, hl with | [_], _ => rfl
theorem b_G_be_word : BindsBy "be_word" "Game.be_word" sBeWord ["self", "word"] := fun _ _ _ _ _ _ us hl => match us, hl with | [_, _], _ => rfl
theorem b_G_wipe : BindsBy "wipe" "Game.wipe" sWipe ["self"] := fun _ _ _ _ _ _ us hl => match us, hl with | [_], _ => rfl
theorem b_G_put_word : BindsBy "put_word" "Game.put_word" sPutWord ["self", "head", "tail"] := fun _ _ _ _ _ _ us hl => match us, hl with | [_, _, _], _ => rfl
theorem b_G_say : BindsBy "say" "Game.say" sSay ["self", "word"] := fun _ _ _ _ _ _ us hl => match us, hl with | [_, _], _ => rfl
theorem b_G_unsay : BindsBy "unsay" "Game.unsay" sUnsay ["self"] := fun _ _ _ _ _ _ us hl => match us, hl with | [_], _ => rfl
theorem b_first_of_worth : BindsBy "first_of_worth" "first_of_worth" sFirstOf ["words", "rows", "gone", "letter", "worth"] := fun _ _ _ _ _ _ us hl => match us, hl with | [_, _, _, _, _], _ => rfl
theorem b_first_longest : BindsBy "first_longest" "first_longest" sFirstLong ["words", "rows", "gone", "letter"] := fun _ _ _ _ _ _ us hl => match us, hl with | [_, _, _, _], _ => rfl
theorem b_first_open : BindsBy "first_open" "first_open" sFirstOpen ["words", "rows", "gone", "letter"] := fun _ _ _ _ _ _ us hl => match us, hl with | [_, _, _, _], _ => rfl
theorem b_first_way : BindsBy "first_way" "first_way" sFirstWay ["words", "rows", "gone", "letter"] := fun _ _ _ _ _ _ us hl => match us, hl with | [_, _, _, _], _ => rfl
theorem b_with_many : BindsBy "with_many" "with_many" sWithMany ["some"] := fun _ _ _ _ _ _ us hl => match us, hl with | [_], _ => rfl
theorem b_said : BindsBy "said" "said" sSaid ["game"] := fun _ _ _ _ _ _ us hl => match us, hl with | [_], _ => rfl
theorem b_winning : BindsBy "winning" "winning" sWinning ["game"] := fun _ _ _ _ _ _ us hl => match us, hl with | [_], _ => rfl
theorem b_wins : BindsBy "wins" "wins" sWins ["game"] := fun _ _ _ _ _ _ us hl => match us, hl with | [_], _ => rfl
theorem b_longest : BindsBy "longest" "longest" sLongest ["game"] := fun _ _ _ _ _ _ us hl => match us, hl with | [_], _ => rfl
theorem b_all_said : BindsBy "all_said" "all_said" sAllSaid ["game"] := fun _ _ _ _ _ _ us hl => match us, hl with | [_], _ => rfl
theorem b_from_beginning : BindsBy "from_beginning" "from_beginning" sFromB ["game", "kind"] := fun _ _ _ _ _ _ us hl => match us, hl with | [_, _], _ => rfl
theorem b_chains : BindsBy "chains" "chains" sChainsQ ["game"] := fun _ _ _ _ _ _ us hl => match us, hl with | [_], _ => rfl
theorem b_parts : BindsBy "parts" "parts" sParts ["game"] := fun _ _ _ _ _ _ us hl => match us, hl with | [_], _ => rfl
theorem b_away : BindsBy "away" "away" sAway ["game", "word"] := fun _ _ _ _ _ _ us hl => match us, hl with | [_, _], _ => rfl
theorem b_least : BindsBy "least" "least" sLeast ["game"] := fun _ _ _ _ _ _ us hl => match us, hl with | [_], _ => rfl
theorem b_done : BindsBy "done" "done" sDone ["game", "call", "numbers"] := fun _ _ _ _ _ _ us hl => match us, hl with | [_, _, _], _ => rfl
theorem b_asked : BindsBy "asked" "asked" sAsked ["game", "call", "numbers"] := fun _ _ _ _ _ _ us hl => match us, hl with | [_, _, _], _ => rfl
theorem b_told : BindsBy "told" "told" sTold ["game", "call", "numbers"] := fun _ _ _ _ _ _ us hl => match us, hl with | [_, _, _], _ => rfl
theorem b_answer : BindsBy "answer" "answer" sAnswer ["game", "call", "numbers"] := fun _ _ _ _ _ _ us hl => match us, hl with | [_, _, _], _ => rfl
theorem b_answers : BindsBy "answers" "answers" sAnswers ["calls"] := fun _ _ _ _ _ _ us hl => match us, hl with | [_], _ => rfl
/-! ### all of it -/
structure All (K : PySem.W.Frag) (mg : Str → Option Value) (CR CW CG : Addr) : Prop where
  tR : TR K mg CR
  tW : TW K CW
  tG : TGa K CG
  tK : TK mg
  tKs : TKs mg
  tC : TC mg
  tN : TN K mg
  d_R_init : DefR K CR
  d_must : Def K mg "must" sMust ["truth", "number"]
  d_W_init : DefI K mg CW "Words" "Words.__init__" sWI ["self"]
  d_W_many : DefM K CW "many" "Words.many" sMany ["self"]
  d_W_put : DefM K CW "put" "Words.put" sPut ["self", "head", "tail"]
  d_W_tail_of : DefM K CW "tail_of" "Words.tail_of" sTail ["self", "word"]
  d_W_begins : DefM K CW "begins" "Words.begins" sBegins ["self", "word", "letter"]
  d_W_left : DefM K CW "left" "Words.left" sLeft ["self", "gone"]
  d_W_next_ones : DefM K CW "next_ones" "Words.next_ones" sNext ["self", "gone", "letter"]
  d_is_gone : Def K mg "is_gone" sIsGone ["gone", "word"]
  d_with_word : Def K mg "with_word" sWith ["gone", "word"]
  d_all_gone : Def K mg "all_gone" sAllGone ["words"]
  d_gone_of : Def K mg "gone_of" sGoneOf ["some"]
  d_behind : Def K mg "behind" sBehind ["words", "rows", "gone", "word"]
  d_win_worth : Def K mg "win_worth" sWin ["words", "rows", "gone", "letter"]
  d_longest_worth : Def K mg "longest_worth" sLong ["words", "rows", "gone", "letter"]
  d_total_behind : Def K mg "total_behind" sTotal ["words", "rows", "gone", "letter"]
  d_ways_worth : Def K mg "ways_worth" sWays ["words", "rows", "gone", "letter"]
  d_chains_worth : Def K mg "chains_worth" sChains ["words", "rows", "gone", "letter"]
  d_new_chain : Def K mg "new_chain" sNewC ["words", "letter", "word"]
  d_fewest_worth : Def K mg "fewest_worth" sFew ["words", "rows", "gone", "letter"]
  d_worth_of : Def K mg "worth_of" sWorth ["words", "rows", "gone", "letter", "kind"]
  d_filled : Def K mg "filled" sFilled ["words", "kind"]
  d_G_init : DefI K mg CG "Game" "Game.__init__" sGI ["self"]
  d_G_letter : DefM K CG "letter" "Game.letter" sLetter ["self"]
  d_G_gone : DefM K CG "gone" "Game.gone" sGone ["self"]
  d_G_table : DefM K CG "table" "Game.table" sTable ["self", "kind"]
  d_G_now : DefM K CG "now" "Game.now" sNow ["self", "kind"]
  d_G_sayable : DefM K CG "sayable" "Game.sayable" sSayable ["self"]
  d_G_be_word : DefM K CG "be_word" "Game.be_word" sBeWord ["self", "word"]
  d_G_wipe : DefM K CG "wipe" "Game.wipe" sWipe ["self"]
  d_G_put_word : DefM K CG "put_word" "Game.put_word" sPutWord ["self", "head", "tail"]
  d_G_say : DefM K CG "say" "Game.say" sSay ["self", "word"]
  d_G_unsay : DefM K CG "unsay" "Game.unsay" sUnsay ["self"]
  d_first_of_worth : Def K mg "first_of_worth" sFirstOf ["words", "rows", "gone", "letter", "worth"]
  d_first_longest : Def K mg "first_longest" sFirstLong ["words", "rows", "gone", "letter"]
  d_first_open : Def K mg "first_open" sFirstOpen ["words", "rows", "gone", "letter"]
  d_first_way : Def K mg "first_way" sFirstWay ["words", "rows", "gone", "letter"]
  d_with_many : Def K mg "with_many" sWithMany ["some"]
  d_said : Def K mg "said" sSaid ["game"]
  d_winning : Def K mg "winning" sWinning ["game"]
  d_wins : Def K mg "wins" sWins ["game"]
  d_longest : Def K mg "longest" sLongest ["game"]
  d_all_said : Def K mg "all_said" sAllSaid ["game"]
  d_from_beginning : Def K mg "from_beginning" sFromB ["game", "kind"]
  d_chains : Def K mg "chains" sChainsQ ["game"]
  d_parts : Def K mg "parts" sParts ["game"]
  d_away : Def K mg "away" sAway ["game", "word"]
  d_least : Def K mg "least" sLeast ["game"]
  d_done : Def K mg "done" sDone ["game", "call", "numbers"]
  d_asked : Def K mg "asked" sAsked ["game", "call", "numbers"]
  d_told : Def K mg "told" sTold ["game", "call", "numbers"]
  d_answer : Def K mg "answer" sAnswer ["game", "call", "numbers"]
section
variable {P : Program} {w : World} {K : PySem.W.Frag} {mg : Str → Option Value} {base : Heap} {CR CW CG : Addr}
theorem assemble (A : All K mg CR CW CG) {f : Addr} {fd : FuncData} (F : Fun K "answers" "answers" sAnswers f fd) : FnOk P w K mg base CX0 14 f fd ["calls"] (spAnswers K) := by
  have must : CMust P w K mg base CR := can_must A.d_must A.d_R_init A.tR
  have wi : CanI P w K mg base 1 CW "Words" ["self"] (spWI CW) := can_wi A.d_W_init A.tW
  have many : CanM P w K mg base CX0 1 CW "many" ["self"] (spMany CW) := can_many A.d_W_many A.tW A.tK
  have put : CanM P w K mg base CX0 1 CW "put" ["self", "head", "tail"] (spPut CW) := can_put A.d_W_put A.tW A.tK
  have tail : CanM P w K mg base CX0 1 CW "tail_of" ["self", "word"] (spTail CW) := can_tail A.d_W_tail_of A.tW
  have begins : CanM P w K mg base CX0 1 CW "begins" ["self", "word", "letter"] (spBegins CW) := can_begins A.d_W_begins A.tW A.tK
  have isGone : Can P w K mg base CX0 1 "is_gone" ["gone", "word"] spIsGone := can_isGone A.d_is_gone
  have withW : Can P w K mg base CX0 1 "with_word" ["gone", "word"] spWith := can_with A.d_with_word
  have allGone : Can P w K mg base CX0 2 "all_gone" ["words"] (spAllGone CW) := can_allGone A.d_all_gone A.tW many
  have goneOf : Can P w K mg base CX0 2 "gone_of" ["some"] (spGoneOf K) := can_goneOf A.d_gone_of withW
  have left : CanM P w K mg base CX0 2 CW "left" ["self", "gone"] (spLeft CW) := can_left A.d_W_left A.tW A.tK isGone
  have next : CanM P w K mg base CX0 3 CW "next_ones" ["self", "gone", "letter"] (spNext CW) := can_next A.d_W_next_ones A.tW left begins
  have behind : Can P w K mg base CX0 2 "behind" ["words", "rows", "gone", "word"] (spBehind CW) := can_behind A.d_behind A.tW withW tail
  have win := can_win (P := P) (w := w) (base := base) A.d_win_worth A.tW next behind
  have long := can_long (P := P) (w := w) (base := base) A.d_longest_worth A.tW A.tK next behind
  have total := can_total (P := P) (w := w) (base := base) A.d_total_behind A.tW A.tK next behind
  have ways := can_ways (P := P) (w := w) (base := base) A.d_ways_worth allGone total
  have chainsW := can_chainsW (P := P) (w := w) (base := base) A.d_chains_worth total
  have newC := can_newC (P := P) (w := w) (base := base) A.d_new_chain A.tW A.tK begins
  have few := can_few (P := P) (w := w) (base := base) A.d_fewest_worth A.tW A.tK allGone left newC behind
  have worth := can_worth (P := P) (w := w) (base := base) A.d_worth_of A.tKs win long ways chainsW few
  have filled := can_filled (P := P) (w := w) (base := base) A.d_filled A.tK allGone worth
  have gi : CanI P w K mg base 3 CG "Game" ["self"] (spGI CG CW) := can_gi A.d_G_init A.tG wi
  have letter : CanM P w K mg base CX0 2 CG "letter" ["self"] (spLetter CG CW) := can_letter A.d_G_letter A.tG A.tW A.tK tail
  have gone : CanM P w K mg base CX0 3 CG "gone" ["self"] (spGone CG CW) := can_gone A.d_G_gone A.tG goneOf
  have sayable : CanM P w K mg base CX0 4 CG "sayable" ["self"] (spSayable CG CW) := can_sayable A.d_G_sayable A.tG A.tW next gone letter
  have table : CanM P w K mg base CX0 8 CG "table" ["self", "kind"] (spTable CG CW) := can_table A.d_G_table A.tG filled
  have now : CanM P w K mg base CX0 9 CG "now" ["self", "kind"] (spNow CG CW) := can_now A.d_G_now A.tG table gone letter
  have beWord : CanM P w K mg base (L2.CX P w) 4 CG "be_word" ["self", "word"] (spBeWord CR CG CW) := can_beWord A.d_G_be_word A.tG A.tW must many
  have wipe : CanM P w K mg base CX0 3 CG "wipe" ["self"] (spWipe CG CW) := can_wipe A.d_G_wipe A.tG wi
  have putWord : CanM P w K mg base (L2.CX P w) 4 CG "put_word" ["self", "head", "tail"] (spPutWord CR CG CW) := can_putWord A.d_G_put_word A.tG A.tW A.tK must many put
  have say : CanM P w K mg base (L2.CX P w) 5 CG "say" ["self", "word"] (spSay CR CG CW) := can_say A.d_G_say A.tG A.tW A.tK must beWord begins letter sayable
  have unsay : CanM P w K mg base (L2.CX P w) 4 CG "unsay" ["self"] (spUnsay CR CG CW) := can_unsay A.d_G_unsay A.tG A.tK must
  have firstOf := can_firstOf (P := P) (w := w) (base := base) A.d_first_of_worth A.tW next behind
  have firstLong := can_firstLong (P := P) (w := w) (base := base) A.d_first_longest A.tW firstOf withW tail
  have firstOpen := can_firstOpen (P := P) (w := w) (base := base) A.d_first_open A.tW next behind
  have firstWay := can_firstWay (P := P) (w := w) (base := base) A.d_first_way A.tW A.tK left firstOpen withW tail
  have withMany : Can P w K mg base CX0 1 "with_many" ["some"] spWM := can_withMany A.d_with_many A.tK
  have said := can_said (P := P) (w := w) (base := base) A.d_said A.tG A.tW A.tK many withMany
  have winning := can_winning (P := P) (w := w) (base := base) A.d_winning A.tG A.tKs table gone sayable behind
  have wins := can_wins (P := P) (w := w) (base := base) A.d_wins A.tG A.tKs now winning withMany
  have longest := can_longest (P := P) (w := w) (base := base) A.d_longest A.tG A.tKs table gone letter firstLong withMany
  have allSaid := can_allSaid (P := P) (w := w) (base := base) A.d_all_said A.tG A.tKs now table gone letter firstWay
  have fromB := can_fromB (P := P) (w := w) (base := base) A.d_from_beginning A.tG A.tK table
  have chainsQ := can_chainsQ (P := P) (w := w) (base := base) A.d_chains A.tG A.tKs now
  have parts := can_parts (P := P) (w := w) (base := base) A.d_parts A.tKs fromB
  have away : Can P w K mg base (L2.CX P w) 9 "away" ["game", "word"] (spAway CR CG CW) := can_away A.d_away A.tG A.tK A.tKs beWord withW table
  have least := can_least (P := P) (w := w) (base := base) A.d_least A.tG A.tW A.tKs many fromB
  have done := can_done (P := P) (w := w) (base := base) A.d_done A.tG A.tC wipe putWord say unsay
  have asked := can_asked (P := P) (w := w) (base := base) A.d_asked A.tG A.tC withMany sayable said wins longest allSaid chainsQ parts away least
  have told := can_told (P := P) (w := w) (base := base) A.d_told A.tC done asked
  have answer := can_answer (P := P) (w := w) (base := base) A.d_answer A.tR told
  exact ok_answers F A.tN A.tK gi withMany answer
theorem final_mk {h : Heap} {fa f : Addr} {oc : Value} {od an : Option Addr} {sl : Array (Option Value)} {kV dc pm cd ct : Value} (X : K.In h) (G : h.Ns mainGlobals mg) (hfa : mg "answers" = some (.ref fa))
    (A : All K mg CR CW CG) (a : PySem.W.nsIn K mainGlobals "answers" = some (some (.ref f))) (l : K.lookup f = some ⟨oc, od, .func (PySem.W.fnOf "answers" "answers" (defArgs sAnswers) (defBody sAnswers) (defScope sAnswers) .none kV dc pm an cd ct), sl⟩)
    (cc : PySem.W.codeIn K cd "answers" = true) (k : PySem.W.keepIn K (.ref f) = true) :
    ∃ fd : FuncData, (∀ (s : Shared) (us : List Value), us.length = (["calls"] : List Str).length → BindsTo s fd ⟨us, []⟩ ((["calls"] : List Str).zip us)) ∧ ∀ base : Heap, K.In base → base.Ns mainGlobals mg → FnOk P w K mg base CX0 14 fa fd ["calls"] (spAnswers K) := by
  have e := hfa.symm.trans (PySem.W.mg_of X G a)
  cases e
  exact ⟨_, fun s us hu => .of_eq (b_answers kV dc pm an cd ct us hu), fun base _ _ => assemble A (fun_mk (st := sAnswers) l cc k)⟩
end
end WC

open PySem PySem.W PyProof.Rows
set_option maxRecDepth 100000 in
set_option maxHeartbeats 0 in
theorem PySem.Challenge.cw_wordchains_s01_answers_holds : PySem.Challenge.rw_wordchains_s01_answers.Holds := by
  w_on; k_headS; (case hw => exact ⟨[.list [.int 0]], by decide +kernel, by decide +kernel⟩)
  k_fillS
  refine L2.walk_specK (r := PySem.Challenge.rw_wordchains_s01_answers) (k := 14) (CX := L2.CX0) (ps := ["calls"]) (sp := WC.spAnswers) (by decide +kernel) rfl rfl ⟨rfl, by decide, by decide⟩ (fun w h Y => PySem.W.kIn_of Y) ?F ?S (fun _ _ _ _ z => z)
  case S =>
    intro K H xs a hO hwi hask hx
    cases hx with
    | cons h1 h2 =>
      cases h2
      cases h1 with
      | lst hs ha =>
        have e := L2.ints_dw a.1 _ ha
        subst e
        exact ⟨_, a.1, rfl, hs, hask, fun H' p hp => .lst (L2.SqL.of hp) (L2.dw_ints _)⟩
  case F =>
    intro w mg fa h Y KX G hmg
    refine' WC.final_mk KX G hmg ⟨?tR, ?tW, ?tG, ?tK, ?tKs, ?tCo, ?tN, ?d_R_init, ?d_must, ?d_W_init, ?d_W_many, ?d_W_put, ?d_W_tail_of, ?d_W_begins, ?d_W_left, ?d_W_next_ones, ?d_is_gone, ?d_with_word, ?d_all_gone, ?d_gone_of, ?d_behind, ?d_win_worth, ?d_longest_worth, ?d_total_behind, ?d_ways_worth, ?d_chains_worth, ?d_new_chain, ?d_fewest_worth, ?d_worth_of, ?d_filled, ?d_G_init, ?d_G_letter, ?d_G_gone, ?d_G_table, ?d_G_now, ?d_G_sayable, ?d_G_be_word, ?d_G_wipe, ?d_G_put_word, ?d_G_say, ?d_G_unsay, ?d_first_of_worth, ?d_first_longest, ?d_first_open, ?d_first_way, ?d_with_many, ?d_said, ?d_winning, ?d_wins, ?d_longest, ?d_all_said, ?d_from_beginning, ?d_chains, ?d_parts, ?d_away, ?d_least, ?d_done, ?d_asked, ?d_told, ?d_answer⟩ ?fa ?fl ?fc ?fk
    (case tR => refine' WC.tr_mk KX G ?aC ?xL ?sa ?ga ?gg ?nb ?kC ?eC ?tC ?hC ?iC ?sC ?nV ?vV; (case aC => k_is); (case xL => k_is); (case sa => k_is); (case ga => k_is); (case gg => k_is); (case nb => k_is); (case kC => k_is); (case eC => k_is); (case tC => k_is); (case hC => k_is); (case iC => k_is); (case sC => first | rfl | k_is); (case nV => k_is); (case vV => first | k_is | rfl | decide +kernel))
    (case d_W_init => refine' WC.defI_mk WC.b_W_init (PySem.W.mg_of KX G ?mc) ?mk ?kc ?a ?i ?l ?cc ?k; (case mc => k_is); (case mk => k_is); (case kc => k_is); (case a => k_is); (case i => k_is); (case l => k_is); (case cc => k_is); (case k => k_is))
    (case d_G_init => refine' WC.defI_mk WC.b_G_init (PySem.W.mg_of KX G ?mc) ?mk ?kc ?a ?i ?l ?cc ?k; (case mc => k_is); (case mk => k_is); (case kc => k_is); (case a => k_is); (case i => k_is); (case l => k_is); (case cc => k_is); (case k => k_is))
    (case tW => refine' WC.tw_mk ?pg ?hd ?po ?sa ?n1 ?n2; (case pg => k_is); (case hd => k_is); (case po => k_is); (case sa => k_is); (case n1 => k_is); (case n2 => k_is))
    (case tG => refine' WC.tg_mk ?pg ?hd ?po ?sa ?n1 ?n2 ?n3; (case pg => k_is); (case hd => k_is); (case po => k_is); (case sa => k_is); (case n1 => k_is); (case n2 => k_is); (case n3 => k_is))
    (case tK => refine' ⟨WC.k_mk KX G ?c1, WC.k_mk KX G ?c2, WC.k_mk KX G ?c3, PySem.W.mg_none_of KX G ?n0, PySem.W.mg_none_of KX G ?n1, PySem.W.mg_none_of KX G ?n2, PySem.W.mg_none_of KX G ?n3, PySem.W.mg_none_of KX G ?n4, PySem.W.mg_none_of KX G ?n5, PySem.W.mg_none_of KX G ?n6⟩; (case c1 => k_is); (case c2 => k_is); (case c3 => k_is); (case n0 => k_is); (case n1 => k_is); (case n2 => k_is); (case n3 => k_is); (case n4 => k_is); (case n5 => k_is); (case n6 => k_is))
    (case tKs => refine' ⟨WC.k_mk KX G ?c0, WC.k_mk KX G ?c1, WC.k_mk KX G ?c2, WC.k_mk KX G ?c3, WC.k_mk KX G ?c4⟩; (case c0 => k_is); (case c1 => k_is); (case c2 => k_is); (case c3 => k_is); (case c4 => k_is))
    (case tCo => refine' ⟨WC.k_mk KX G ?c0, WC.k_mk KX G ?c1, WC.k_mk KX G ?c2, WC.k_mk KX G ?c3, WC.k_mk KX G ?c4, WC.k_mk KX G ?c5, WC.k_mk KX G ?c6, WC.k_mk KX G ?c7, WC.k_mk KX G ?c8, WC.k_mk KX G ?c9, WC.k_mk KX G ?c10, WC.k_mk KX G ?c11⟩; (case c0 => k_is); (case c1 => k_is); (case c2 => k_is); (case c3 => k_is); (case c4 => k_is); (case c5 => k_is); (case c6 => k_is); (case c7 => k_is); (case c8 => k_is); (case c9 => k_is); (case c10 => k_is); (case c11 => k_is))
    (case tN => refine' WC.tn_mk KX G ?aN ?lN; (case aN => k_is); (case lN => k_is))
    (case d_R_init => refine' WC.defR_mk WC.b_R_init ?a ?i ?l ?cc ?k; (case a => k_is); (case i => k_is); (case l => k_is); (case cc => k_is); (case k => k_is))
    (case d_must => refine' WC.def_mk KX G WC.b_must ?a ?l ?cc ?k; (case a => k_is); (case l => k_is); (case cc => k_is); (case k => k_is))
    (case d_W_many => refine' WC.defM_mk WC.b_W_many ?a ?i ?l ?cc ?k; (case a => k_is); (case i => k_is); (case l => k_is); (case cc => k_is); (case k => k_is))
    (case d_W_put => refine' WC.defM_mk WC.b_W_put ?a ?i ?l ?cc ?k; (case a => k_is); (case i => k_is); (case l => k_is); (case cc => k_is); (case k => k_is))
    (case d_W_tail_of => refine' WC.defM_mk WC.b_W_tail_of ?a ?i ?l ?cc ?k; (case a => k_is); (case i => k_is); (case l => k_is); (case cc => k_is); (case k => k_is))
    (case d_W_begins => refine' WC.defM_mk WC.b_W_begins ?a ?i ?l ?cc ?k; (case a => k_is); (case i => k_is); (case l => k_is); (case cc => k_is); (case k => k_is))
    (case d_W_left => refine' WC.defM_mk WC.b_W_left ?a ?i ?l ?cc ?k; (case a => k_is); (case i => k_is); (case l => k_is); (case cc => k_is); (case k => k_is))
    (case d_W_next_ones => refine' WC.defM_mk WC.b_W_next_ones ?a ?i ?l ?cc ?k; (case a => k_is); (case i => k_is); (case l => k_is); (case cc => k_is); (case k => k_is))
    (case d_is_gone => refine' WC.def_mk KX G WC.b_is_gone ?a ?l ?cc ?k; (case a => k_is); (case l => k_is); (case cc => k_is); (case k => k_is))
    (case d_with_word => refine' WC.def_mk KX G WC.b_with_word ?a ?l ?cc ?k; (case a => k_is); (case l => k_is); (case cc => k_is); (case k => k_is))
    (case d_all_gone => refine' WC.def_mk KX G WC.b_all_gone ?a ?l ?cc ?k; (case a => k_is); (case l => k_is); (case cc => k_is); (case k => k_is))
    (case d_gone_of => refine' WC.def_mk KX G WC.b_gone_of ?a ?l ?cc ?k; (case a => k_is); (case l => k_is); (case cc => k_is); (case k => k_is))
    (case d_behind => refine' WC.def_mk KX G WC.b_behind ?a ?l ?cc ?k; (case a => k_is); (case l => k_is); (case cc => k_is); (case k => k_is))
    (case d_win_worth => refine' WC.def_mk KX G WC.b_win_worth ?a ?l ?cc ?k; (case a => k_is); (case l => k_is); (case cc => k_is); (case k => k_is))
    (case d_longest_worth => refine' WC.def_mk KX G WC.b_longest_worth ?a ?l ?cc ?k; (case a => k_is); (case l => k_is); (case cc => k_is); (case k => k_is))
    (case d_total_behind => refine' WC.def_mk KX G WC.b_total_behind ?a ?l ?cc ?k; (case a => k_is); (case l => k_is); (case cc => k_is); (case k => k_is))
    (case d_ways_worth => refine' WC.def_mk KX G WC.b_ways_worth ?a ?l ?cc ?k; (case a => k_is); (case l => k_is); (case cc => k_is); (case k => k_is))
    (case d_chains_worth => refine' WC.def_mk KX G WC.b_chains_worth ?a ?l ?cc ?k; (case a => k_is); (case l => k_is); (case cc => k_is); (case k => k_is))
    (case d_new_chain => refine' WC.def_mk KX G WC.b_new_chain ?a ?l ?cc ?k; (case a => k_is); (case l => k_is); (case cc => k_is); (case k => k_is))
    (case d_fewest_worth => refine' WC.def_mk KX G WC.b_fewest_worth ?a ?l ?cc ?k; (case a => k_is); (case l => k_is); (case cc => k_is); (case k => k_is))
    (case d_worth_of => refine' WC.def_mk KX G WC.b_worth_of ?a ?l ?cc ?k; (case a => k_is); (case l => k_is); (case cc => k_is); (case k => k_is))
    (case d_filled => refine' WC.def_mk KX G WC.b_filled ?a ?l ?cc ?k; (case a => k_is); (case l => k_is); (case cc => k_is); (case k => k_is))
    (case d_G_letter => refine' WC.defM_mk WC.b_G_letter ?a ?i ?l ?cc ?k; (case a => k_is); (case i => k_is); (case l => k_is); (case cc => k_is); (case k => k_is))
    (case d_G_gone => refine' WC.defM_mk WC.b_G_gone ?a ?i ?l ?cc ?k; (case a => k_is); (case i => k_is); (case l => k_is); (case cc => k_is); (case k => k_is))
    (case d_G_table => refine' WC.defM_mk WC.b_G_table ?a ?i ?l ?cc ?k; (case a => k_is); (case i => k_is); (case l => k_is); (case cc => k_is); (case k => k_is))
    (case d_G_now => refine' WC.defM_mk WC.b_G_now ?a ?i ?l ?cc ?k; (case a => k_is); (case i => k_is); (case l => k_is); (case cc => k_is); (case k => k_is))
    (case d_G_sayable => refine' WC.defM_mk WC.b_G_sayable ?a ?i ?l ?cc ?k; (case a => k_is); (case i => k_is); (case l => k_is); (case cc => k_is); (case k => k_is))
    (case d_G_be_word => refine' WC.defM_mk WC.b_G_be_word ?a ?i ?l ?cc ?k; (case a => k_is); (case i => k_is); (case l => k_is); (case cc => k_is); (case k => k_is))
    (case d_G_wipe => refine' WC.defM_mk WC.b_G_wipe ?a ?i ?l ?cc ?k; (case a => k_is); (case i => k_is); (case l => k_is); (case cc => k_is); (case k => k_is))
    (case d_G_put_word => refine' WC.defM_mk WC.b_G_put_word ?a ?i ?l ?cc ?k; (case a => k_is); (case i => k_is); (case l => k_is); (case cc => k_is); (case k => k_is))
    (case d_G_say => refine' WC.defM_mk WC.b_G_say ?a ?i ?l ?cc ?k; (case a => k_is); (case i => k_is); (case l => k_is); (case cc => k_is); (case k => k_is))
    (case d_G_unsay => refine' WC.defM_mk WC.b_G_unsay ?a ?i ?l ?cc ?k; (case a => k_is); (case i => k_is); (case l => k_is); (case cc => k_is); (case k => k_is))
    (case d_first_of_worth => refine' WC.def_mk KX G WC.b_first_of_worth ?a ?l ?cc ?k; (case a => k_is); (case l => k_is); (case cc => k_is); (case k => k_is))
    (case d_first_longest => refine' WC.def_mk KX G WC.b_first_longest ?a ?l ?cc ?k; (case a => k_is); (case l => k_is); (case cc => k_is); (case k => k_is))
    (case d_first_open => refine' WC.def_mk KX G WC.b_first_open ?a ?l ?cc ?k; (case a => k_is); (case l => k_is); (case cc => k_is); (case k => k_is))
    (case d_first_way => refine' WC.def_mk KX G WC.b_first_way ?a ?l ?cc ?k; (case a => k_is); (case l => k_is); (case cc => k_is); (case k => k_is))
    (case d_with_many => refine' WC.def_mk KX G WC.b_with_many ?a ?l ?cc ?k; (case a => k_is); (case l => k_is); (case cc => k_is); (case k => k_is))
    (case d_said => refine' WC.def_mk KX G WC.b_said ?a ?l ?cc ?k; (case a => k_is); (case l => k_is); (case cc => k_is); (case k => k_is))
    (case d_winning => refine' WC.def_mk KX G WC.b_winning ?a ?l ?cc ?k; (case a => k_is); (case l => k_is); (case cc => k_is); (case k => k_is))
    (case d_wins => refine' WC.def_mk KX G WC.b_wins ?a ?l ?cc ?k; (case a => k_is); (case l => k_is); (case cc => k_is); (case k => k_is))
    (case d_longest => refine' WC.def_mk KX G WC.b_longest ?a ?l ?cc ?k; (case a => k_is); (case l => k_is); (case cc => k_is); (case k => k_is))
    (case d_all_said => refine' WC.def_mk KX G WC.b_all_said ?a ?l ?cc ?k; (case a => k_is); (case l => k_is); (case cc => k_is); (case k => k_is))
    (case d_from_beginning => refine' WC.def_mk KX G WC.b_from_beginning ?a ?l ?cc ?k; (case a => k_is); (case l => k_is); (case cc => k_is); (case k => k_is))
    (case d_chains => refine' WC.def_mk KX G WC.b_chains ?a ?l ?cc ?k; (case a => k_is); (case l => k_is); (case cc => k_is); (case k => k_is))
    (case d_parts => refine' WC.def_mk KX G WC.b_parts ?a ?l ?cc ?k; (case a => k_is); (case l => k_is); (case cc => k_is); (case k => k_is))
    (case d_away => refine' WC.def_mk KX G WC.b_away ?a ?l ?cc ?k; (case a => k_is); (case l => k_is); (case cc => k_is); (case k => k_is))
    (case d_least => refine' WC.def_mk KX G WC.b_least ?a ?l ?cc ?k; (case a => k_is); (case l => k_is); (case cc => k_is); (case k => k_is))
    (case d_done => refine' WC.def_mk KX G WC.b_done ?a ?l ?cc ?k; (case a => k_is); (case l => k_is); (case cc => k_is); (case k => k_is))
    (case d_asked => refine' WC.def_mk KX G WC.b_asked ?a ?l ?cc ?k; (case a => k_is); (case l => k_is); (case cc => k_is); (case k => k_is))
    (case d_told => refine' WC.def_mk KX G WC.b_told ?a ?l ?cc ?k; (case a => k_is); (case l => k_is); (case cc => k_is); (case k => k_is))
    (case d_answer => refine' WC.def_mk KX G WC.b_answer ?a ?l ?cc ?k; (case a => k_is); (case l => k_is); (case cc => k_is); (case k => k_is))
    (case fa => k_is); (case fl => k_is); (case fc => k_is); (case fk => k_is)
#print axioms PySem.Challenge.cw_wordchains_s01_answers_holds
