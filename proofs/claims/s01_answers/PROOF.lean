import PyProof.Rows.All
import Wide.All
import OpenK.AllK
import Wide.FinOn
import Open.SpecLaws
import KE.OsGo
import KE.GoesEnum
import HandS.ForSpec
import HandS.ForMost
import HandS.Walk
import PySem.Challenge.RW_fortycounters_s01_answers
set_option Elab.async false
set_option maxRecDepth 100000
set_option maxHeartbeats 8000000
/-! P1: the plain law, part 1: powers, numbers, rules (what they take, what they change), steps. No program in sight. -/
namespace Fc
open Rc87 (Rule Row Abs Ins)

/-! ### powers -/
abbrev W64 : Nat := 18446744073709551616
theorem big_eq : Rc87.BIG = W64 := by decide
theorem pow_split (p n : Nat) : p ^ n = if n % 2 = 1 then p ^ (n / 2) * p ^ (n / 2) * p else p ^ (n / 2) * p ^ (n / 2) := by
  have h : n = n / 2 + n / 2 + n % 2 := by omega
  split
  · rename_i h1
    rw [h1] at h
    conv => lhs; rw [h]
    rw [Nat.pow_add, Nat.pow_add, Nat.pow_one]
  · have h0 : n % 2 = 0 := by omega
    rw [h0] at h
    conv => lhs; rw [h]
    rw [Nat.add_zero, Nat.pow_add]
theorem power_eq (p : Nat) : ∀ f n : Nat, n < 2 ^ f → Rc87.power p f n = p ^ n % W64
  | 0, n, h => by
    have e : n = 0 := by simpa using h
    subst e
    rfl
  | f + 1, n, h => by
    unfold Rc87.power
    rw [big_eq]
    by_cases h0 : n = 0
    · rw [if_pos h0, h0]
      rfl
    · rw [if_neg h0]
      have ih := power_eq p f (n / 2) (by rw [Nat.pow_succ] at h; omega)
      simp only [ih]
      rw [pow_split p n]
      split
      · rw [← Nat.mul_mod, ← Nat.mul_mod_mod, Nat.mod_mul_mod, Nat.mul_mod_mod]
      · rw [← Nat.mul_mod]
theorem pw_odd {found more left : Nat} (h : left % 2 = 1) : found * more % W64 * (more * more % W64) ^ (left / 2) % W64 = found * more ^ left % W64 := by
  rw [Nat.mul_mod, ← Nat.pow_mod, Nat.mod_mod, ← Nat.mul_mod, pow_split more left, if_pos h, Nat.mul_pow]
  congr 1
  ac_rfl
theorem pw_even {found more left : Nat} (h : ¬ left % 2 = 1) : found * (more * more % W64) ^ (left / 2) % W64 = found * more ^ left % W64 := by
  rw [Nat.mul_mod, ← Nat.pow_mod, ← Nat.mul_mod, pow_split more left, if_neg h, Nat.mul_pow]

/-! ### the number -/
def primesL : List Nat := [2, 3, 5, 7, 11, 13, 17, 19, 23, 29, 31, 37, 41, 43, 47, 53, 59, 61, 67, 71, 73, 79, 83, 89, 97, 101, 103, 107, 109, 113, 127, 131, 137, 139, 149, 151, 157, 163, 167, 173]
theorem primes_eq : Rc87.primes = primesL := by decide +kernel
theorem primesL_length : primesL.length = 40 := rfl
theorem primesL_lt : ∀ p ∈ primesL, p < 200 := by decide
def numStep (z : Nat) (x : Nat × Nat) : Nat := z * Rc87.power x.1 64 x.2 % Rc87.BIG
def numTo (c : List Nat) (i : Nat) : Nat := ((primesL.zip c).take i).foldl numStep 1
theorem numTo_zero (c : List Nat) : numTo c 0 = 1 := by simp [numTo]
theorem take_more {α : Type} : ∀ {l : List α} {i : Nat} {x : α}, l[i]? = some x → l.take (i + 1) = l.take i ++ [x]
  | [], i, x, h => by simp at h
  | a :: l, 0, x, h => by
    have e : a = x := Option.some.inj h
    subst e
    rfl
  | a :: l, i + 1, x, h => by
    have ih := take_more (l := l) (i := i) (x := x) h
    show a :: l.take (i + 1) = a :: l.take i ++ [x]
    rw [ih]
    rfl
theorem numTo_succ {c : List Nat} {i p m : Nat} (hp : primesL[i]? = some p) (hm : c[i]? = some m) : numTo c (i + 1) = numTo c i * Rc87.power p 64 m % W64 := by
  have hz : (primesL.zip c)[i]? = some (p, m) := by
    rw [List.getElem?_zip_eq_some]
    exact ⟨hp, hm⟩
  unfold numTo
  rw [take_more hz, List.foldl_append]
  show numStep _ (p, m) = _
  unfold numStep
  rw [big_eq]
theorem numTo_all {c : List Nat} (h : c.length = 40) : numTo c 40 = Rc87.number c := by
  unfold numTo Rc87.number
  rw [primes_eq, List.take_of_length_le (by rw [List.length_zip, h]; decide)]
  rfl
theorem numTo_lt (c : List Nat) : ∀ i, numTo c i < W64
  | 0 => by rw [numTo_zero]; decide
  | i + 1 => by
    by_cases h : i < (primesL.zip c).length
    · have hz : (primesL.zip c)[i]? = some (primesL.zip c)[i] := List.getElem?_eq_getElem h
      unfold numTo
      rw [take_more hz, List.foldl_append]
      show numStep _ _ < W64
      unfold numStep
      rw [big_eq]
      exact Nat.mod_lt _ (by decide)
    · have e : numTo c (i + 1) = numTo c i := by
        unfold numTo
        rw [List.take_of_length_le (by omega), List.take_of_length_le (by omega)]
      rw [e]
      exact numTo_lt c i

/-! ### what a rule takes, what it changes -/
def takeTo (t : List Nat) (i : Nat) : List (Nat × Nat) := (List.range i).filterMap fun j => if 0 < t.getD j 0 then some (j, t.getD j 0) else none
def chgTo (t g : List Nat) (i : Nat) : List (Nat × Int) := (List.range i).filterMap fun j => if g.getD j 0 ≠ t.getD j 0 then some (j, (g.getD j 0 : Int) - (t.getD j 0 : Int)) else none
theorem fm_one {α β : Type} (f : α → Option β) (a : α) : List.filterMap f [a] = (f a).toList := by
  cases h : f a <;> simp [h]
theorem takeTo_succ (t : List Nat) (i : Nat) : takeTo t (i + 1) = takeTo t i ++ if 0 < t.getD i 0 then [(i, t.getD i 0)] else [] := by
  unfold takeTo
  rw [List.range_succ, List.filterMap_append, fm_one]
  congr 1
  by_cases h : 0 < t.getD i 0
  · rw [if_pos h, if_pos h]; rfl
  · rw [if_neg h, if_neg h]; rfl
theorem chgTo_succ (t g : List Nat) (i : Nat) : chgTo t g (i + 1) = chgTo t g i ++ if g.getD i 0 ≠ t.getD i 0 then [(i, (g.getD i 0 : Int) - (t.getD i 0 : Int))] else [] := by
  unfold chgTo
  rw [List.range_succ, List.filterMap_append, fm_one]
  congr 1
  by_cases h : g.getD i 0 ≠ t.getD i 0
  · rw [if_pos h, if_pos h]; rfl
  · rw [if_neg h, if_neg h]; rfl
def takingL (r : Rule) : List (Nat × Nat) := takeTo r.take 40
def changesL (r : Rule) : List (Nat × Int) := chgTo r.take r.give 40
theorem mem_taking {r : Rule} {p : Nat × Nat} : p ∈ takingL r ↔ p.1 < 40 ∧ 0 < r.take.getD p.1 0 ∧ p.2 = r.take.getD p.1 0 := by
  unfold takingL takeTo
  rw [List.mem_filterMap]
  constructor
  · rintro ⟨j, hj, e⟩
    split at e
    · rename_i h
      cases e
      exact ⟨List.mem_range.mp hj, h, rfl⟩
    · cases e
  · rintro ⟨h1, h2, h3⟩
    refine ⟨p.1, List.mem_range.mpr h1, ?_⟩
    rw [if_pos h2, ← h3]
theorem mem_changes {r : Rule} {p : Nat × Int} : p ∈ changesL r ↔ p.1 < 40 ∧ r.give.getD p.1 0 ≠ r.take.getD p.1 0 ∧ p.2 = (r.give.getD p.1 0 : Int) - (r.take.getD p.1 0 : Int) := by
  unfold changesL chgTo
  rw [List.mem_filterMap]
  constructor
  · rintro ⟨j, hj, e⟩
    split at e
    · rename_i h
      cases e
      exact ⟨List.mem_range.mp hj, h, rfl⟩
    · cases e
  · rintro ⟨h1, h2, h3⟩
    refine ⟨p.1, List.mem_range.mpr h1, ?_⟩
    rw [if_pos h2, ← h3]
structure GoodR (r : Rule) : Prop where
  tl : r.take.length = 40
  gl : r.give.length = 40
  ts : ∀ x ∈ r.take, x ≤ 255
  gs : ∀ x ∈ r.give, x ≤ 255
theorem getD_of {l : List Nat} {i x : Nat} (h : l[i]? = some x) : l.getD i 0 = x := by rw [List.getD_eq_getElem?_getD, h]; rfl
theorem get_of {l : List Nat} {i : Nat} (h : i < l.length) : l[i]? = some (l.getD i 0) := by
  rw [List.getD_eq_getElem?_getD]
  simp [h]
theorem fits_iff {r : Rule} {c : Row} (G : GoodR r) (hc : c.length = 40) : Rc87.fits r c = true ↔ ∀ i, i < 40 → r.take.getD i 0 ≤ c.getD i 0 := by
  unfold Rc87.fits
  rw [List.all_eq_true]
  constructor
  · intro h i hi
    have h1 := get_of (l := r.take) (i := i) (by rw [G.tl]; exact hi)
    have h2 := get_of (l := c) (i := i) (by rw [hc]; exact hi)
    have hz : (r.take.zip c)[i]? = some (r.take.getD i 0, c.getD i 0) := by
      rw [List.getElem?_zip_eq_some]
      exact ⟨h1, h2⟩
    exact of_decide_eq_true (h _ (List.mem_of_getElem? hz))
  · rintro h ⟨a, b⟩ hm
    obtain ⟨i, hi⟩ := List.getElem?_of_mem hm
    rw [List.getElem?_zip_eq_some] at hi
    have hl : i < 40 := by
      have := (List.getElem?_eq_some_iff.mp hi.1).1
      rw [G.tl] at this
      exact this
    have q := h i hl
    rw [getD_of hi.1, getD_of hi.2] at q
    exact decide_eq_true q
theorem fits_taking {r : Rule} {c : Row} (G : GoodR r) (hc : c.length = 40) : Rc87.fits r c = true ↔ ∀ p ∈ takingL r, p.2 ≤ c.getD p.1 0 := by
  rw [fits_iff G hc]
  constructor
  · intro h p hp
    obtain ⟨h1, _, h3⟩ := mem_taking.mp hp
    rw [h3]
    exact h _ h1
  · intro h i hi
    by_cases h0 : 0 < r.take.getD i 0
    · exact h (i, r.take.getD i 0) (mem_taking.mpr ⟨hi, h0, rfl⟩)
    · omega
theorem applied_get {r : Rule} {c : Row} (G : GoodR r) (hc : c.length = 40) {i : Nat} (hi : i < 40) : (Rc87.applied r c)[i]? = some (c.getD i 0 - r.take.getD i 0 + r.give.getD i 0) := by
  unfold Rc87.applied
  have h1 := get_of (l := r.take) (i := i) (by rw [G.tl]; exact hi)
  have h2 := get_of (l := c) (i := i) (by rw [hc]; exact hi)
  have h3 := get_of (l := r.give) (i := i) (by rw [G.gl]; exact hi)
  have hz : (c.zip (r.take.zip r.give))[i]? = some (c.getD i 0, r.take.getD i 0, r.give.getD i 0) := by
    rw [List.getElem?_zip_eq_some, List.getElem?_zip_eq_some]
    exact ⟨h2, h1, h3⟩
  rw [List.getElem?_map, hz]
  rfl
theorem applied_length {r : Rule} {c : Row} (G : GoodR r) (hc : c.length = 40) : (Rc87.applied r c).length = 40 := by
  unfold Rc87.applied
  rw [List.length_map, List.length_zip, List.length_zip, hc, G.tl, G.gl]
  decide
theorem small_iff {c : Row} (hc : c.length = 40) : Rc87.small c = true ↔ ∀ i, i < 40 → c.getD i 0 ≤ Rc87.HIGH := by
  unfold Rc87.small
  rw [List.all_eq_true]
  constructor
  · intro h i hi
    exact of_decide_eq_true (h _ (List.mem_of_getElem? (get_of (l := c) (i := i) (by rw [hc]; exact hi))))
  · intro h x hx
    obtain ⟨i, hi⟩ := List.getElem?_of_mem hx
    have hl : i < 40 := by
      have := (List.getElem?_eq_some_iff.mp hi).1
      rw [hc] at this
      exact this
    have q := h i hl
    rw [getD_of hi] at q
    exact decide_eq_true q
theorem small_changes {r : Rule} {c : Row} (G : GoodR r) (hc : c.length = 40) (hs : Rc87.small c = true) (hf : Rc87.fits r c = true) :
    Rc87.small (Rc87.applied r c) = true ↔ ∀ p ∈ changesL r, (c.getD p.1 0 : Int) + p.2 ≤ 2147483647 := by
  rw [small_iff (applied_length G hc)]
  rw [small_iff hc] at hs
  rw [fits_iff G hc] at hf
  constructor
  · intro h p hp
    obtain ⟨h1, h2, h3⟩ := mem_changes.mp hp
    have q := h p.1 h1
    rw [getD_of (applied_get G hc h1)] at q
    have f := hf p.1 h1
    unfold Rc87.HIGH at q
    rw [h3]
    omega
  · intro h i hi
    rw [getD_of (applied_get G hc hi)]
    have f := hf i hi
    have s := hs i hi
    by_cases e : r.give.getD i 0 = r.take.getD i 0
    · rw [e]
      omega
    · have q := h (i, (r.give.getD i 0 : Int) - (r.take.getD i 0 : Int)) (mem_changes.mpr ⟨hi, e, rfl⟩)
      unfold Rc87.HIGH
      simp only at q
      omega

/-! ### counters as whole numbers -/
def nI (n : Nat) : Int := (n : Int)
def chg (cs : List Int) (p : Nat × Int) : List Int := cs.set p.1 (cs.getD p.1 0 + p.2)
def mixed (r : Rule) (c : Row) (i : Nat) : List Int := (List.range 40).map fun j => if j < i then ((c.getD j 0 - r.take.getD j 0 + r.give.getD j 0 : Nat) : Int) else (c.getD j 0 : Int)
theorem mixed_zero {r : Rule} {c : Row} (hc : c.length = 40) : mixed r c 0 = c.map nI := by
  refine List.ext_getElem? fun i => ?_
  unfold mixed
  by_cases hi : i < 40
  · rw [List.getElem?_map, List.getElem?_range hi, List.getElem?_map, get_of (by rw [hc]; exact hi)]
    rfl
  · rw [List.getElem?_eq_none (by simp; omega), List.getElem?_eq_none (by rw [List.length_map, hc]; omega)]
theorem mixed_all {r : Rule} {c : Row} (G : GoodR r) (hc : c.length = 40) : mixed r c 40 = (Rc87.applied r c).map nI := by
  refine List.ext_getElem? fun i => ?_
  unfold mixed
  by_cases hi : i < 40
  · rw [List.getElem?_map, List.getElem?_range hi, List.getElem?_map, applied_get G hc hi]
    show some (if i < 40 then _ else _) = some _
    rw [if_pos hi]
    rfl
  · rw [List.getElem?_eq_none (by simp; omega), List.getElem?_eq_none (by rw [List.length_map, applied_length G hc]; omega)]
theorem mixed_getD {r : Rule} {c : Row} {i j : Nat} (hj : j < 40) : (mixed r c i).getD j 0 = if j < i then ((c.getD j 0 - r.take.getD j 0 + r.give.getD j 0 : Nat) : Int) else (c.getD j 0 : Int) := by
  unfold mixed
  rw [List.getD_eq_getElem?_getD, List.getElem?_map, List.getElem?_range hj]
  rfl
theorem chg_mixed {r : Rule} {c : Row} (hf : ∀ i, i < 40 → r.take.getD i 0 ≤ c.getD i 0) : ∀ i, i ≤ 40 → (chgTo r.take r.give i).foldl chg (mixed r c 0) = mixed r c i
  | 0, _ => rfl
  | i + 1, h => by
    rw [chgTo_succ, List.foldl_append, chg_mixed hf i (by omega)]
    have f := hf i (by omega)
    by_cases e : r.give.getD i 0 = r.take.getD i 0
    · rw [if_neg (by simpa using e)]
      refine List.map_congr_left fun j hj => ?_
      by_cases hji : j = i
      · subst hji
        rw [if_neg (by omega), if_pos (by omega), e]
        omega
      · by_cases hlt : j < i
        · rw [if_pos hlt, if_pos (by omega)]
        · rw [if_neg hlt, if_neg (by omega)]
    · rw [if_pos e]
      show (mixed r c i).set i ((mixed r c i).getD i 0 + _) = _
      rw [mixed_getD (by omega), if_neg (Nat.lt_irrefl i)]
      refine List.ext_getElem? fun j => ?_
      by_cases hj : j < 40
      · by_cases hji : j = i
        · subst hji
          rw [List.getElem?_set_self (by simp [mixed]; omega)]
          unfold mixed
          rw [List.getElem?_map, List.getElem?_range hj]
          show some _ = some (if j < j + 1 then _ else _)
          rw [if_pos (by omega)]
          congr 1
          omega
        · rw [List.getElem?_set_ne (Ne.symm hji)]
          unfold mixed
          rw [List.getElem?_map, List.getElem?_map, List.getElem?_range hj]
          show some (if j < i then _ else _) = some (if j < i + 1 then _ else _)
          by_cases hlt : j < i
          · rw [if_pos hlt, if_pos (by omega)]
          · rw [if_neg hlt, if_neg (by omega)]
      · rw [List.getElem?_eq_none (by simp [mixed]; omega), List.getElem?_eq_none (by simp [mixed]; omega)]
theorem chg_all {r : Rule} {c : Row} (G : GoodR r) (hc : c.length = 40) (hf : Rc87.fits r c = true) : (changesL r).foldl chg (c.map nI) = (Rc87.applied r c).map nI := by
  rw [← mixed_zero (r := r) hc, ← mixed_all G hc]
  exact chg_mixed ((fits_iff G hc).mp hf) 40 (Nat.le_refl _)
theorem chg_length (cs : List Int) (p : Nat × Int) : (chg cs p).length = cs.length := by unfold chg; simp
theorem chgs_length : ∀ (ps : List (Nat × Int)) (cs : List Int), (ps.foldl chg cs).length = cs.length
  | [], _ => rfl
  | p :: ps, cs => by rw [List.foldl_cons, chgs_length ps, chg_length]
/-- each counter is changed once at the most: what stands there ahead of the change is as at the beginning -/
theorem chg_fresh {ps : List (Nat × Int)} {cs : List Int} {i : Nat} (h : ∀ p ∈ ps, p.1 ≠ i) : (ps.foldl chg cs).getD i 0 = cs.getD i 0 := by
  induction ps generalizing cs with
  | nil => rfl
  | cons p ps ih =>
    rw [List.foldl_cons, ih (fun q hq => h q (List.mem_cons_of_mem _ hq))]
    unfold chg
    have ne := h p List.mem_cons_self
    rw [List.getD_eq_getElem?_getD, List.getElem?_set_ne ne, ← List.getD_eq_getElem?_getD]

/-! ### steps -/
theorem next_some {l : List Rule} {c : Row} {i : Nat} {r : Rule} (hr : l[i]? = some r) (hf : Rc87.fits r c = true) (hb : ∀ (j : Nat) (r' : Rule), j < i → l[j]? = some r' → Rc87.fits r' c = false) :
    Rc87.next l c = some i ∧ Rc87.step l c = some (Rc87.applied r c) := by
  induction l generalizing i with
  | nil => simp at hr
  | cons a l ih =>
    cases i with
    | zero =>
      have e : a = r := Option.some.inj hr
      subst e
      unfold Rc87.next Rc87.step
      simp [List.findIdx?_cons, hf]
    | succ i =>
      have h0 := hb 0 a (Nat.succ_pos _) rfl
      obtain ⟨h1, h2⟩ := ih (i := i) hr fun j r' hj e => hb (j + 1) r' (Nat.succ_lt_succ hj) e
      unfold Rc87.next Rc87.step at *
      constructor
      · rw [List.findIdx?_cons, h0]
        simp [h1]
      · rw [List.find?_cons, h0]
        exact h2
theorem next_none {l : List Rule} {c : Row} (hb : ∀ (j : Nat) (r' : Rule), l[j]? = some r' → Rc87.fits r' c = false) : Rc87.next l c = none ∧ Rc87.step l c = none := by
  induction l with
  | nil => exact ⟨rfl, rfl⟩
  | cons a l ih =>
    have h0 := hb 0 a rfl
    obtain ⟨h1, h2⟩ := ih fun j r' e => hb (j + 1) r' e
    unfold Rc87.next Rc87.step at *
    constructor
    · rw [List.findIdx?_cons, h0]
      simp [h1]
    · rw [List.find?_cons, h0]
      exact h2
end Fc
/-! H0: rules that the layer lacks: xs[i] read by place for xs[i] += e; zip of a tuple and a list. -/
namespace Fc
open PySem PySem.Spec PyProof.Rows L2

/-! ### xs[i] op= e, xs a list -/
def rGetL (K : PySem.W.Frag) : V → V → Hp → VK → Prop := fun x y H Q => ∃ (p : Addr) (xs : List V) (j : Nat) (v : V), x = .ref p ∧ y = .int (j : Int) ∧ SqL K H p xs ∧ xs[j]? = some v ∧ Q v H
theorem pget_list {X : Cx} : PGet X (rGetL X.K) := by
  intro pins s σ H o i ov iv Q I ro ri h
  obtain ⟨p, xs, j, v, e1, e2, hq, hx, q⟩ := h
  subst e1
  subst e2
  cases ro
  obtain ⟨t, rfl⟩ := ri
  obtain ⟨its, r, pl, hz⟩ := I.list hq
  obtain ⟨u, hu, ru⟩ := r.get hx
  have hj : j < xs.length := (List.getElem?_eq_some_iff.mp hx).1
  have hn := line63
  exact wpAny_getItem_list (x := u) pl.isList (Int.natCast_nonneg _) (by omega) (by simpa using hu) ⟨v, H, I, ru, q⟩

/-! ### zip of a tuple and a list -/
/-- the tuple at a and the list at b as they stand at each turn, the items in new pairs -/
def ItzM (K : PySem.W.Frag) (a b : Addr) : It :=
  ⟨fun i H => ∃ (xs ys : List V) (x y : V), SqT K H a xs ∧ SqL K H b ys ∧ xs[i]? = some x ∧ ys[i]? = some y,
    fun i H v H' => ∃ (T : Addr) (x y : V), v = .ref T ∧ H T = Option.none ∧ H' = upd H T (.tup [x, y]) ∧ (∀ l, SqT K H a l → l[i]? = some x) ∧ ∀ l, SqL K H b l → l[i]? = some y,
    fun i H => ∃ xs ys : List V, SqT K H a xs ∧ SqL K H b ys ∧ xs.length = ys.length ∧ i = xs.length⟩
def ZSt (a b z TI TO i1 i2 : Addr) (i : Nat) (h : Heap) : Prop :=
  (ZipSep2 z TI TO i1 i2 [i1, a] [i2, b] ∧ a ≠ i1 ∧ b ≠ i2) ∧ IsZip h z TI TO .none ∧ IsTupOf2 h TI (.ref i1) (.ref i2) ∧ (∃ x y, IsTupOf2 h TO x y) ∧ h.IsTupleIter i1 a i ∧ h.IsListIter i2 b i
theorem mem5 {c z TI TO i1 i2 : Addr} (h : c ∈ [z, TI, TO, i1, i2]) : c = z ∨ c = TI ∨ c = TO ∨ c = i1 ∨ c = i2 := by simpa using h
theorem out5 {c z TI TO i1 i2 : Addr} (h : c ∉ [z, TI, TO, i1, i2]) : c ≠ z ∧ c ≠ TO ∧ c ≠ i1 ∧ c ≠ i2 :=
  ⟨fun q => h (by simp [q]), fun q => h (by simp [q]), fun q => h (by simp [q]), fun q => h (by simp [q])⟩
theorem turn_zipM {P : Program} {w : World} {K : PySem.W.Frag} {elts : List Expr} {kk : Nat} {tpos : Pos} {a b z TI TO i1 i2 : Addr} :
    Turn P w K (.Tuple elts kk tpos) (ItzM K a b) [z, TI, TO, i1, i2] z (ZSt a b z TI TO i1 i2) where
  mem := List.mem_cons_self
  obj := fun i h st c hc => by
    obtain ⟨_, hz, hTI, ⟨x, y, hTO⟩, ⟨o1, e1, _, d1⟩, ⟨o2, e2, _, d2⟩⟩ := st
    rcases mem5 hc with q | q | q | q | q <;> subst q
    · exact ⟨_, hz, fun v q => nomatch q⟩
    · exact ⟨_, hTI, fun v q => nomatch q⟩
    · exact ⟨_, hTO, fun v q => nomatch q⟩
    · exact ⟨o1, e1, fun v q => by rw [d1] at q; cases q⟩
    · exact ⟨o2, e2, fun v q => by rw [d2] at q; cases q⟩
  keep := fun i h h' st k => by
    obtain ⟨S, hz, hTI, ⟨x, y, hTO⟩, h1, h2⟩ := st
    exact ⟨S, k z (by simp) _ hz, k TI (by simp) _ hTI, ⟨x, y, k TO (by simp) _ hTO⟩, h1.at fun o q => k i1 (by simp) o q, h2.at fun o q => k i2 (by simp) o q⟩
  item := by
    intro X hP hw hK hc i pins s σ H E I hf st hg
    subst hP hw hK
    obtain ⟨⟨S, na, nb⟩, hz, hTI, ⟨x0, y0, hTO⟩, h1, h2⟩ := st
    obtain ⟨xs, ys, x, y, hqx, hqy, hx, hy⟩ := hg
    obtain ⟨its, rv, p1, _⟩ := I.tuple hqx
    obtain ⟨its2, rv2, p2, _⟩ := I.list hqy
    obtain ⟨u, hu, ru⟩ := rv.get hx
    obtain ⟨u2, hu2, ru2⟩ := rv2.get hy
    have hA : X.A.in1.handled = Option.none := I.ok.hd hc
    have D1 := Draws.tuple (prog := X.prog) (w := X.w) hA i1 a na its.toArray
    have D2 := Draws.list (prog := X.prog) (w := X.w) hA i2 b nb its2.toArray
    have l1 : i < its.toArray.size := by simpa using (List.getElem?_eq_some_iff.mp hu).1
    have l2 : i < its2.toArray.size := by simpa using (List.getElem?_eq_some_iff.mp hu2).1
    have hzl : z < s.heap.objs.size := Heap.lt_size hz
    refine wpAny_pyNext_zipD2_item S D1 D2 hz hTI hTO ⟨h1, p1⟩ ⟨h2, p2.isList⟩ l1 l2 fun v1 v2 h' tk e1 e2 z' TO' t1' t2' hT hsz hk => ?_
    have ev1 : u = v1 := by
      rw [List.getElem?_toArray, hu] at e1
      exact Option.some.inj e1
    have ev2 : u2 = v2 := by
      rw [List.getElem?_toArray, hu2] at e2
      exact Option.some.inj e2
    subst ev1
    subst ev2
    refine ⟨_, rfl, wpAny_letOwnedTupleGo_zip (s := { s with heap := h', toks := tk }) z' fun h'' z'' sb => ?_⟩
    have hT2 : h''.get? s.heap.objs.size = some { cls := .type "tuple", data := .seq #[u, u2] } := (sb.2 _ (Nat.ne_of_gt hzl)).trans hT
    have new : ObjOk X.prog X.w (upd H s.heap.objs.size (.tup [x, y])) h'' s.heap.objs.size (.tup [x, y]) :=
      ⟨(show 2 ≤ sizeLine by decide), [u, u2], .cons ru (.cons ru2 .nil), ⟨_, hT2, rfl, _, rfl⟩⟩
    have I1 : Inv X pins σ (upd H s.heap.objs.size (.tup [x, y])) { s with heap := h'', toks := tk } :=
      I.turnedNew (t' := tk) (ch := [z, TI, TO, i1, i2]) (fun c o hb q => by
        obtain ⟨n1, n2, n3, n4⟩ := out5 hb
        exact (sb.2 c n1).trans (hk c o n1 n2 n3 n4 q)) hf (Nat.le_refl _) new
    refine ⟨.ref s.heap.objs.size, _, I1, rfl, ⟨_, x, y, rfl, I.hok.fresh (Nat.le_refl _), rfl, fun l hl => by rw [I.tuple_inj hl hqx]; exact hx, fun l hl => by rw [I.list_inj hl hqy]; exact hy⟩, ⟨⟨S, na, nb⟩, z'', ?_, ⟨u, u2, ?_⟩, ?_, ?_⟩, fun c hcm => ?_⟩
    · exact (sb.2 _ S.TIz).trans (hk _ _ S.TIz S.TITO S.TIi1 S.TIi2 hTI)
    · exact (sb.2 _ S.TOz).trans TO'
    · exact t1'.1.at fun o q => (sb.2 _ S.zi1.symm).trans q
    · exact t2'.1.at fun o q => (sb.2 _ S.zi2.symm).trans q
    · have hlt : c < s.heap.objs.size := by
        rcases mem5 hcm with q | q | q | q | q <;> rw [q]
        · exact hzl
        · exact Heap.lt_size hTI
        · exact Heap.lt_size hTO
        · obtain ⟨_, e1, _⟩ := h1
          exact Heap.lt_size e1
        · obtain ⟨_, e2, _⟩ := h2
          exact Heap.lt_size e2
      rw [upd_ne (Nat.ne_of_lt hlt)]
      exact (hf c hcm).1
  done := by
    intro X hP hw hK hc i pins s σ H E I hf st hg
    subst hP hw hK
    obtain ⟨⟨S, na, nb⟩, hz, hTI, ⟨x0, y0, hTO⟩, h1, h2⟩ := st
    obtain ⟨xs, ys, hqx, hqy, hl, hi⟩ := hg
    obtain ⟨its, rv, p1, _⟩ := I.tuple hqx
    obtain ⟨its2, rv2, p2, _⟩ := I.list hqy
    have hA : X.A.in1.handled = Option.none := I.ok.hd hc
    have D1 := Draws.tuple (prog := X.prog) (w := X.w) hA i1 a na its.toArray
    have D2 := Draws.list (prog := X.prog) (w := X.w) hA i2 b nb its2.toArray
    have q1 : its.toArray.size = i := by rw [List.size_toArray, ← rv.length, hi]
    have q2 : its2.toArray.size = i := by rw [List.size_toArray, ← rv2.length, hi, hl]
    exact wpAny_pyNext_zipD2_end S D1 D2 hz hTI hTO ⟨h1, p1⟩ ⟨h2, p2.isList⟩ (by omega) (by omega) (.inl q1.symm) fun h' tk hk => ⟨rfl, I.turnedL (t' := tk) (ch := [z, TI, TO, i1, i2]) (fun c o hb q => by
      obtain ⟨n1, n2, n3, n4⟩ := out5 hb
      exact hk c o n1 n2 n3 n4 q) hf⟩
  self := fun A i s Q E st h => wpAny_pyIter_zip st.2.1 h
def iZipM (K : PySem.W.Frag) (ta : TA) : TI := fun σ H R => ta σ H fun vs H1 => ∃ (a b : Addr) (xs ys : List V), vs = [.ref a, .ref b] ∧ SqT K H1 a xs ∧ SqL K H1 b ys ∧ R (ItzM K a b) H1
theorem pi_zipM {X : Cx} {e e2 : Expr} {ta : TA} {p pos tpos : Pos} {elts : List Expr} {kk : Nat} (hg : Gl X "zip") (hm : X.mg "zip" = Option.none) (ha : PA X [e, e2] ta)
    (hs : starEach [e, e2] X.env = (false, eval e X.env) :: starEach [e2] X.env := by rfl) (hpl : (backTo pos (starEach [e2] X.env)).any (·.1) = false := by rfl) :
    PI X (.Tuple elts kk tpos) (.Call (.Name "zip" p) [e, e2] [] pos) (iZipM X.K ta) := by
  refine ⟨fun pins s σ H R I h => ?_⟩
  refine Call_ (ld_blt I hg hm PyProof.Rows.boot_zip (PyProof.Rows.callWith_type1 (thn (ha.run pos pins s σ H _ I h) fun us s1 ⟨vs, H1, I1, r1, q1⟩ => ?_) hs hpl))
  obtain ⟨a, b, xs, ys, ex, hqx, hqy, q⟩ := q1
  subst ex
  cases r1 with
  | cons r rr =>
    cases rr with
    | cons r' rr =>
      cases rr
      cases r
      cases r'
      obtain ⟨its, rv, p1, _⟩ := I1.tuple hqx
      obtain ⟨its2, rv2, p2, _⟩ := I1.list hqy
      have la : a < s1.heap.objs.size := p1.lt
      have lb : b < s1.heap.objs.size := p2.lt
      refine zip_begins2 (begins_tuple a its.toArray) (begins_list b its2.toArray) p1 p2.isList fun h' hz hTI hTO g1 g2 hsz hk => wpAny_pyIter_zip hz ?_
      have I2 : Inv X pins σ H1 { s1 with heap := h' } := I1.kept (t' := s1.toks) hk
      have S := zip_sep2 (N := s1.heap.objs.size) (fp1 := [a]) (fp2 := [b]) (fun c hc => by rw [List.mem_singleton.mp hc]; exact la) (fun c hc => by rw [List.mem_singleton.mp hc]; exact lb)
      have nb : b ≠ s1.heap.objs.size + 1 := Nat.ne_of_lt (Nat.lt_succ_of_lt lb)
      refine ⟨s1.heap.objs.size + 4, [s1.heap.objs.size + 4, s1.heap.objs.size + 2, s1.heap.objs.size + 3, s1.heap.objs.size, s1.heap.objs.size + 1], _, _, H1, rfl, I2, turn_zipM, ⟨⟨S, Nat.ne_of_lt la, nb⟩, hz, hTI, ⟨_, _, hTO⟩, ⟨_, g1, rfl, rfl⟩, ⟨_, g2, rfl, rfl⟩⟩, fun c hcm => ?_, q⟩
      have hle : s1.heap.objs.size ≤ c := by
        rcases mem5 hcm with z | z | z | z | z <;> rw [z]
        · exact Nat.le_add_right _ _
        · exact Nat.le_add_right _ _
        · exact Nat.le_add_right _ _
        · exact Nat.le_refl _
        · exact Nat.le_add_right _ _
      exact I1.fpOk hle (I1.hok.fresh hle)
/-- both of one length -/
theorem walk_zipM {K : PySem.W.Frag} {a b : Addr} {xs ys : List V} (hl : xs.length = ys.length) : Walk (ItzM K a b) xs.length (fun H => SqT K H a xs ∧ SqL K H b ys) (YPair (fun i => xs[i]?) (fun i => ys[i]?)) := by
  refine ⟨fun i _ hi q => ?_, fun _ q => ⟨xs, ys, q.1, q.2, hl, rfl⟩, fun i H v H' _ q y => ?_⟩
  · exact ⟨xs, ys, xs[i], ys[i]'(by omega), q.1, q.2, List.getElem?_eq_getElem hi, List.getElem?_eq_getElem _⟩
  · obtain ⟨T, x, z, h1, h2, h3, h4, h5⟩ := y
    exact ⟨T, x, z, h1, h2, h3, h4 xs q.1, h5 ys q.2⟩
end Fc
/-! H1: the text by places, scopes, how the state lies in the heap. -/
namespace Fc
open PySem PySem.Spec PyProof.Rows L2
open Rc87 (Rule Row Abs Ins)

/-! ### the text by places -/
def top (i : Nat) : Stmt := PySem.Challenge.pw_fortycounters_s01_answers.main.body.getD i (.Pass ⟨0, 0, 0, 0⟩)
abbrev sPower : Stmt := top 5
abbrev sNumber : Stmt := top 6
abbrev sFilled : Stmt := top 7
abbrev sAmts : Stmt := top 8
abbrev sRInit : Stmt := inClass (top 10) 0
abbrev sFits : Stmt := inClass (top 10) 1
abbrev sBeyond : Stmt := inClass (top 10) 2
abbrev sChange : Stmt := inClass (top 10) 3
abbrev sRuleBy : Stmt := top 11
abbrev sCodeOf : Stmt := top 20
abbrev sIsIns : Stmt := top 21
abbrev sIsCode : Stmt := top 22
abbrev sRulesOf : Stmt := top 23
abbrev sIsCounter : Stmt := top 34
abbrev sIsCount : Stmt := top 35
abbrev sCInit : Stmt := inClass (top 36) 0
abbrev sAddRule : Stmt := inClass (top 36) 1
abbrev sPut : Stmt := inClass (top 36) 2
abbrev sGet : Stmt := inClass (top 36) 3
abbrev sFitting : Stmt := inClass (top 36) 4
abbrev sStep : Stmt := inClass (top 36) 5
abbrev sIsAlone : Stmt := inClass (top 36) 6
abbrev sRun : Stmt := inClass (top 36) 7
abbrev sRunSteps : Stmt := inClass (top 36) 8
abbrev sRunAlone : Stmt := inClass (top 36) 9
abbrev sRatio : Stmt := inClass (top 36) 10
abbrev sSetCode : Stmt := inClass (top 36) 11
abbrev sMakeRules : Stmt := inClass (top 36) 12
abbrev sInsDone : Stmt := inClass (top 36) 13
abbrev sGo : Stmt := inClass (top 36) 14
abbrev sTold : Stmt := top 41
abbrev sAnswered : Stmt := top 42
abbrev sAnswers : Stmt := top 43

/-! ### what the top has written -/
def IntG (mg : Str → Option Value) (x : Str) (i : Int) : Prop := ∃ t, mg x = some (.int i t)
structure Txt (K : PySem.W.Frag) (mg : Str → Option Value) (R C : Addr) : Prop where
  clR : Cls K R
  clC : Cls K C
  nTakes : NoAttr K R "takes"
  nGives : NoAttr K R "gives"
  nTaking : NoAttr K R "taking"
  nChanges : NoAttr K R "changes"
  nCounters : NoAttr K C "counters"
  nRules : NoAttr K C "rules"
  nCode : NoAttr K C "code"
  nAt : NoAttr K C "at"
  len : mg "len" = Option.none
  range : mg "range" = Option.none
  enumerate : mg "enumerate" = Option.none
  zip : mg "zip" = Option.none
  max : mg "max" = Option.none
  tuple : mg "tuple" = Option.none
  gCOUNTERS : IntG mg "COUNTERS" 40
  gMOST : IntG mg "MOST" 2147483647
  gWORDS : IntG mg "WORDS" 18446744073709551616
  gSTOP : IntG mg "STOP" 0
  gMORE : IntG mg "MORE" 1
  gLESS : IntG mg "LESS" 2
  gREGISTERS : IntG mg "REGISTERS" 8
  gNOW : IntG mg "NOW" 8
  gNEXT : IntG mg "NEXT" 24
  gPARTS : IntG mg "PARTS" 4
  gMOST_RULES : IntG mg "MOST_RULES" 64
  gMOST_STEPS : IntG mg "MOST_STEPS" 1000000000
  gWRONG : IntG mg "WRONG" (-1)
  gNONE : IntG mg "NONE" (-2)
  gBEYOND : IntG mg "BEYOND" (-3)
  gDONE : IntG mg "DONE" 0
  gAT_END : IntG mg "AT_END" 1
  gTOO_MUCH : IntG mg "TOO_MUCH" 2
  gALONE : IntG mg "ALONE" 3
  gRULE : IntG mg "RULE" 1
  gCODE : IntG mg "CODE" 9
  gPRIMES : ∃ a, mg "PRIMES" = some (.ref a) ∧ ∀ H, SqT K H a ((primesL.map nI).map V.int)
  gNUMBERS : ∃ a, mg "NUMBERS" = some (.ref a) ∧ ∀ H, SqT K H a (([0, 0, 2, 1, 0, 1, 2, 0, 1, 0, 0, 1] : List Int).map V.int)
theorem pe_gint {X : Cx} {x : Str} {i : Int} {pos : Pos} (hg : Gl X x) (h : IntG X.mg x i) (hd : (x == ("__debug__" : Str)) = false := by decide) : PE X (.Name x pos) (tC (.int i)) := by
  obtain ⟨t, e⟩ := h
  exact pe_glob hg e ⟨t, rfl⟩ hd

/-! ### callees -/
section
variable (P : Program) (w : World) (K : PySem.W.Frag) (mg : Str → Option Value) (base : Heap)
/-- a def of the module that keeps its promise -/
def FnC (x : Str) (k : Nat) (ps : List Str) (sp : Sp) : Prop := ∃ f fd, FnOk P w K mg base CX0 k f fd ps sp ∧ mg x = some (.ref f) ∧ PySem.W.keepIn K (.ref f) = true ∧ Binds K fd ps []
/-- a method -/
def MtC (C : Addr) (m : Str) (k : Nat) (ps : List Str) (sp : Sp) : Prop := ∃ f fd, FnOk P w K mg base CX0 k f fd ps sp ∧ Meth K C m f ∧ Binds K fd ps []
/-- a class that is made -/
def MkC (x : Str) (C : Addr) (k : Nat) (ps : List Str) (sp : Sp) : Prop := ∃ f fd, Mk K C f ∧ FnOk P w K mg base CX0 k f fd ps sp ∧ mg x = some (.ref C) ∧ Binds K fd ps []
end

/-! ### lists of numbers -/
/-- a list of natural numbers as values -/
abbrev vsN (l : List Nat) : List V := (l.map nI).map V.int
theorem vsN_get {l : List Nat} {i x : Nat} (h : l[i]? = some x) : (vsN l)[i]? = some (V.int (x : Int)) := by
  rw [List.getElem?_map, List.getElem?_map, h]
  rfl
theorem vsN_getD {l : List Nat} {i : Nat} (h : i < l.length) : (vsN l)[i]? = some (V.int ((l.getD i 0 : Nat) : Int)) := vsN_get (get_of h)
theorem vsN_at {l : List Nat} {i : Nat} {v : V} (h : (vsN l)[i]? = some v) : ∃ x : Nat, l[i]? = some x ∧ v = V.int (x : Int) := by
  rw [List.getElem?_map, List.getElem?_map] at h
  cases e : l[i]? with
  | none =>
    rw [e] at h
    cases h
  | some x =>
    rw [e] at h
    exact ⟨x, rfl, (Option.some.inj h).symm⟩
theorem vsN_length (l : List Nat) : (vsN l).length = l.length := by rw [List.length_map, List.length_map]
theorem vsN_append (l m : List Nat) : vsN (l ++ m) = vsN l ++ vsN m := by unfold vsN; rw [List.map_append, List.map_append]
theorem vsN_set (l : List Nat) (i x : Nat) : (vsN l).set i (V.int (x : Int)) = vsN (l.set i x) := by
  unfold vsN
  rw [List.map_set, List.map_set]
  rfl
theorem refs_get {l : List Addr} {i : Nat} {v : V} (h : (l.map V.ref)[i]? = some v) : ∃ a, l[i]? = some a ∧ v = V.ref a := by
  rw [List.getElem?_map] at h
  cases e : l[i]? with
  | none =>
    rw [e] at h
    cases h
  | some x =>
    rw [e] at h
    exact ⟨x, rfl, (Option.some.inj h).symm⟩
theorem refs_at {l : List Addr} {i : Nat} {a : Addr} (h : l[i]? = some a) : (l.map V.ref)[i]? = some (V.ref a) := by rw [List.getElem?_map, h]; rfl
/-- a list of numbers that is not empty is no list of objects -/
theorem ints_refs {l : List Int} {m : List Addr} (h : 0 < l.length) : HO.lst (l.map V.int) ≠ HO.lst (m.map V.ref) := by
  intro e
  cases l with
  | nil => exact absurd h (Nat.lt_irrefl _)
  | cons a l =>
    cases m with
    | nil => cases e
    | cons b m =>
      injection e with e
      injection e with e1 _
      cases e1

/-! ### pairs of lists -/
theorem pr_snoc {α β : Type} {F : α → β → Prop} : ∀ {l : List α} {m : List β} {a : α} {b : β}, Paired F l m → F a b → Paired F (l ++ [a]) (m ++ [b])
  | _, _, _, _, .nil, h => .cons h .nil
  | _, _, _, _, .cons r t, h => .cons r (pr_snoc t h)
theorem pr_get {α β : Type} {F : α → β → Prop} : ∀ {l : List α} {m : List β} {i : Nat} {a : α}, Paired F l m → l[i]? = some a → ∃ b, m[i]? = some b ∧ F a b
  | _, _, _, _, .nil, e => by simp at e
  | _, _, 0, _, .cons r _, e => ⟨_, rfl, by simp at e; subst e; exact r⟩
  | _, _, i + 1, a, .cons _ t, e => by
    obtain ⟨b, h1, h2⟩ := pr_get (i := i) (a := a) t (by simpa using e)
    exact ⟨b, by simpa using h1, h2⟩
theorem pr_get' {α β : Type} {F : α → β → Prop} : ∀ {l : List α} {m : List β} {i : Nat} {b : β}, Paired F l m → m[i]? = some b → ∃ a, l[i]? = some a ∧ F a b
  | _, _, _, _, .nil, e => by simp at e
  | _, _, 0, _, .cons r _, e => ⟨_, rfl, by simp at e; subst e; exact r⟩
  | _, _, i + 1, b, .cons _ t, e => by
    obtain ⟨a, h1, h2⟩ := pr_get' (i := i) (b := b) t (by simpa using e)
    exact ⟨a, by simpa using h1, h2⟩
theorem pr_len {α β : Type} {F : α → β → Prop} : ∀ {l : List α} {m : List β}, Paired F l m → l.length = m.length
  | _, _, .nil => rfl
  | _, _, .cons _ t => congrArg (· + 1) (pr_len t)
theorem pr_map {α β : Type} {F G : α → β → Prop} : ∀ {l : List α} {m : List β}, Paired F l m → (∀ a b, F a b → G a b) → Paired G l m
  | _, _, .nil, _ => .nil
  | _, _, .cons r t, f => .cons (f _ _ r) (pr_map t f)

/-! ### regions of the heap -/
/-- what H' has where H has nothing -/
def out (H H' : Hp) : Hp := fun b => match H b with
  | Option.none => H' b
  | some _ => Option.none
theorem out_of {H H' : Hp} {b : Addr} (h : H b = Option.none) : out H H' b = H' b := by unfold out; rw [h]
theorem out_in {H H' : Hp} {b : Addr} {o : HO} (h : out H H' b = some o) : H b = Option.none ∧ H' b = some o := by
  unfold out at h
  split at h
  · exact ⟨by assumption, h⟩
  · cases h
theorem out_same {H H' : Hp} : Same (out H H') H' := fun _ _ h => (out_in h).2
/-- both together, the first ahead -/
def uni (O N : Hp) : Hp := fun b => match O b with
  | some o => some o
  | Option.none => N b
theorem uni_left {O N : Hp} : Same O (uni O N) := fun b o h => by unfold uni; rw [h]
theorem uni_in {O N : Hp} {b : Addr} {o : HO} (h : uni O N b = some o) : O b = some o ∨ N b = some o := by
  unfold uni at h
  split at h
  · rename_i e
    rw [e]
    exact .inl h
  · exact .inr h
theorem uni_none {O N : Hp} {b : Addr} (h1 : O b = Option.none) (h2 : N b = Option.none) : uni O N b = Option.none := by unfold uni; rw [h1]; exact h2
theorem uni_right {O N : Hp} (h : ∀ b o, O b = some o → N b = some o ∨ N b = Option.none) : Same N (uni O N) := fun b o e => by
  cases q : O b with
  | none =>
    unfold uni
    rw [q]
    exact e
  | some u =>
    unfold uni
    rw [q]
    rcases h b u q with z | z
    · rw [e] at z
      exact z.symm
    · rw [e] at z
      cases z

/-! ### a rule -/
def rF (t g a c : Addr) : List (Str × V) := [("takes", .ref t), ("gives", .ref g), ("taking", .ref a), ("changes", .ref c)]
def TwoAt (H : Hp) (t : Addr) (p : Int × Int) : Prop := H t = some (.tup [.int p.1, .int p.2])
def natI (p : Nat × Nat) : Int × Int := ((p.1 : Int), (p.2 : Int))
def intI (p : Nat × Int) : Int × Int := ((p.1 : Int), p.2)
def TwosAt (H : Hp) (a : Addr) (ps : List (Int × Int)) : Prop := ∃ ts : List Addr, H a = some (.lst (ts.map V.ref)) ∧ Paired (TwoAt H) ts ps
theorem TwosAt.mono {H H' : Hp} {a : Addr} {ps : List (Int × Int)} (h : TwosAt H a ps) (s : Same H H') : TwosAt H' a ps := by
  obtain ⟨ts, e, p⟩ := h
  exact ⟨ts, s _ _ e, pr_map p fun t q z => s _ _ z⟩
structure RuleAt (R : Addr) (H : Hp) (a : Addr) (r : Rule) : Prop where
  ex : ∃ dx t g u c, H a = some (.ins R dx (rF t g u c)) ∧ H t = some (.lst (vsN r.take)) ∧ H g = some (.lst (vsN r.give)) ∧ TwosAt H u ((takingL r).map natI) ∧ TwosAt H c ((changesL r).map intI)
theorem RuleAt.mono {R : Addr} {H H' : Hp} {a : Addr} {r : Rule} (h : RuleAt R H a r) (s : Same H H') : RuleAt R H' a r := by
  obtain ⟨dx, t, g, u, c, h1, h2, h3, h4, h5⟩ := h.ex
  exact ⟨dx, t, g, u, c, s _ _ h1, s _ _ h2, s _ _ h3, h4.mono s, h5.mono s⟩

/-! ### a code -/
/-- four numbers are this instruction -/
def InsIs (q : List Nat) (i : Ins) : Prop := q.length = 4 ∧ match i with
  | .halt_ => q.getD 0 0 = 0
  | .more r j => q.getD 0 0 = 1 ∧ q.getD 1 0 = r ∧ q.getD 2 0 = j
  | .less r j k => q.getD 0 0 = 2 ∧ q.getD 1 0 = r ∧ q.getD 2 0 = j ∧ q.getD 3 0 = k
def QuadsAt (H : Hp) (p : Addr) (qs : List (List Nat)) : Prop := ∃ ks : List Addr, H p = some (.lst (ks.map V.ref)) ∧ Paired (fun k q => H k = some (.tup (vsN q))) ks qs
theorem QuadsAt.mono {H H' : Hp} {a : Addr} {qs : List (List Nat)} (h : QuadsAt H a qs) (s : Same H H') : QuadsAt H' a qs := by
  obtain ⟨ts, e, p⟩ := h
  exact ⟨ts, s _ _ e, pr_map p fun t q z => s _ _ z⟩
def GoodI (n : Nat) : Ins → Prop
  | .halt_ => True
  | .more r j => r < 8 ∧ j < n
  | .less r j k => r < 8 ∧ j < n ∧ k < n

/-! ### the machine -/
structure Good (s : Abs) : Prop where
  cl : s.counters.length = 40
  cs : Rc87.small s.counters = true
  rl : s.rules.length ≤ 64
  rs : ∀ r ∈ s.rules, GoodR r
  kl : s.code.length ≤ 16
  ks : ∀ i ∈ s.code, GoodI s.code.length i
  at_ : s.at_ < s.code.length ∨ (s.at_ = 0 ∧ s.code = [])
def cF (lc lr lk : Addr) (n : Nat) : List (Str × V) := [("counters", .ref lc), ("rules", .ref lr), ("code", .ref lk), ("at", .int (n : Int))]
/-- the machine s lies at x: B is what stands beside it, O what is its own and never changes -/
structure St (R C : Addr) (B H : Hp) (x : Addr) (s : Abs) : Prop where
  good : Good s
  sB : Same B H
  Bx : B x = Option.none
  ex : ∃ (O : Hp) (dx lc lr lk : Addr) (rs : List Addr) (qs : List (List Nat)), Same O H ∧ (∀ b o, O b = some o → B b = Option.none) ∧ O x = Option.none ∧ O lc = Option.none ∧ O lr = Option.none ∧ B lc = Option.none ∧ B lr = Option.none ∧
    H x = some (.ins C dx (cF lc lr lk s.at_)) ∧ H lc = some (.lst (vsN s.counters)) ∧ H lr = some (.lst (rs.map V.ref)) ∧ Paired (RuleAt R O) rs s.rules ∧ QuadsAt O lk qs ∧ Paired InsIs qs s.code
/-- what stands beside changes -/
theorem St.beside {R C : Addr} {B B' H H' : Hp} {x : Addr} {s : Abs} (h : St R C B H x s) (keep : ∀ b o, H b = some o → B b = Option.none → H' b = some o) (sB : Same B' H') (dis : ∀ b o, H b = some o → B b = Option.none → B' b = Option.none) : St R C B' H' x s := by
  obtain ⟨O, dx, lc, lr, lk, rs, qs, h1, h2, h3, h4, h5, h6, h7, h8, h9, h10, h11, h12, h13⟩ := h.ex
  exact ⟨h.good, sB, dis _ _ h8 h.Bx, O, dx, lc, lr, lk, rs, qs, fun b o e => keep b o (h1 b o e) (h2 b o e), fun b o e => dis b o (h1 b o e) (h2 b o e), h3, h4, h5, dis _ _ h9 h6, dis _ _ h10 h7, keep _ _ h8 h.Bx, keep _ _ h9 h6, keep _ _ h10 h7, h11, h12, h13⟩
/-- the heap grows -/
theorem St.mono {R C : Addr} {B H H' : Hp} {x : Addr} {s : Abs} (h : St R C B H x s) (k : Same H H') : St R C B H' x s :=
  h.beside (fun b o e _ => k b o e) (h.sB.trans k) fun _ _ _ e => e

/-! ### attributes -/
theorem lk_here {k : Str} {v : V} {r : List (Str × V)} : List.lookup k ((k, v) :: r) = some v := by
  have e : (k == k) = true := beq_self_eq_true k
  simp only [List.lookup, e]
theorem lk_past {k g : Str} {v : V} {r : List (Str × V)} (h : (k == g) = false) : List.lookup k ((g, v) :: r) = List.lookup k r := by
  simp only [List.lookup, h]
theorem put_here {f : Str} {v x : V} {r : List (Str × V)} : putF f v ((f, x) :: r) = (f, v) :: r := if_pos rfl
theorem put_past {f g : Str} {v x : V} {r : List (Str × V)} (h : ¬ g = f) : putF f v ((g, x) :: r) = (g, x) :: putF f v r := if_neg h
theorem put_end {f : Str} {v : V} : putF f v [] = [(f, v)] := rfl
section
variable (t g u c lc lr lk : Addr) (n : Nat)
theorem rF_takes : (rF t g u c).lookup ("takes" : Str) = some (.ref t) := lk_here
theorem rF_gives : (rF t g u c).lookup ("gives" : Str) = some (.ref g) := (lk_past (by decide +kernel)).trans lk_here
theorem rF_taking : (rF t g u c).lookup ("taking" : Str) = some (.ref u) := (lk_past (by decide +kernel)).trans ((lk_past (by decide +kernel)).trans lk_here)
theorem rF_changes : (rF t g u c).lookup ("changes" : Str) = some (.ref c) := (lk_past (by decide +kernel)).trans ((lk_past (by decide +kernel)).trans ((lk_past (by decide +kernel)).trans lk_here))
theorem rF_no {m : Str} (h1 : (m == ("takes" : Str)) = false) (h2 : (m == ("gives" : Str)) = false) (h3 : (m == ("taking" : Str)) = false) (h4 : (m == ("changes" : Str)) = false) : (rF t g u c).lookup m = Option.none :=
  (lk_past h1).trans ((lk_past h2).trans ((lk_past h3).trans ((lk_past h4).trans rfl)))
theorem rF_new : putF "changes" (.ref c) (putF "taking" (.ref u) (putF "gives" (.ref g) (putF "takes" (.ref t) []))) = rF t g u c := by
  rw [put_end, put_past (by decide +kernel), put_end, put_past (by decide +kernel), put_past (by decide +kernel), put_past (by decide +kernel), put_end, put_past (by decide +kernel), put_past (by decide +kernel), put_end]
  rfl
theorem cF_counters : (cF lc lr lk n).lookup ("counters" : Str) = some (.ref lc) := lk_here
theorem cF_rules : (cF lc lr lk n).lookup ("rules" : Str) = some (.ref lr) := (lk_past (by decide +kernel)).trans lk_here
theorem cF_code : (cF lc lr lk n).lookup ("code" : Str) = some (.ref lk) := (lk_past (by decide +kernel)).trans ((lk_past (by decide +kernel)).trans lk_here)
theorem cF_at : (cF lc lr lk n).lookup ("at" : Str) = some (.int (n : Int)) := (lk_past (by decide +kernel)).trans ((lk_past (by decide +kernel)).trans ((lk_past (by decide +kernel)).trans lk_here))
theorem cF_no {m : Str} (h1 : (m == ("counters" : Str)) = false) (h2 : (m == ("rules" : Str)) = false) (h3 : (m == ("code" : Str)) = false) (h4 : (m == ("at" : Str)) = false) : (cF lc lr lk n).lookup m = Option.none :=
  (lk_past h1).trans ((lk_past h2).trans ((lk_past h3).trans ((lk_past h4).trans rfl)))
theorem cF_new : putF "at" (.int (n : Int)) (putF "code" (.ref lk) (putF "rules" (.ref lr) (putF "counters" (.ref lc) []))) = cF lc lr lk n := by
  rw [put_end, put_past (by decide +kernel), put_end, put_past (by decide +kernel), put_past (by decide +kernel), put_past (by decide +kernel), put_end, put_past (by decide +kernel), put_past (by decide +kernel), put_end]
  rfl
theorem cF_putRules (l : Addr) : putF "rules" (.ref l) (cF lc lr lk n) = cF lc l lk n := by
  unfold cF
  rw [put_past (by decide +kernel), put_here]
theorem cF_putCode (l : Addr) : putF "code" (.ref l) (cF lc lr lk n) = cF lc lr l n := by
  unfold cF
  rw [put_past (by decide +kernel), put_past (by decide +kernel), put_here]
theorem cF_putAt (m : Nat) : putF "at" (.int (m : Int)) (cF lc lr lk n) = cF lc lr lk m := by
  unfold cF
  rw [put_past (by decide +kernel), put_past (by decide +kernel), put_past (by decide +kernel), put_here]
end
end Fc
/-! D1: power_of, number_of, filled, amounts_of, is_counter, is_count. -/
namespace Fc
open PySem PySem.Spec PyProof.Rows L2
open Rc87 (Rule Row Abs Ins)
/-! ### tests -/
theorem ite_eqI {i j : Int} {A B : Prop} (h1 : i = j → A) (h2 : i ≠ j → B) : if decide (V.int i = V.int j) = true then A else B := by
  by_cases e : i = j
  · rw [if_pos (decide_eq_true (congrArg V.int e))]
    exact h1 e
  · rw [if_neg (fun q => e (V.int.inj (of_decide_eq_true q)))]
    exact h2 e
theorem ite_dec {p : Prop} [Decidable p] {A B : Prop} (h1 : p → A) (h2 : ¬ p → B) : if decide p = true then A else B := by
  by_cases e : p
  · rw [if_pos (decide_eq_true e)]
    exact h1 e
  · rw [if_neg (fun q => e (of_decide_eq_true q))]
    exact h2 e
section
variable {P : Program} {w : World} {K : PySem.W.Frag} {mg : Str → Option Value} {base : Heap} {R C : Addr}

/-! ### power_of -/
theorem mulOk {a : Nat} {b : Int} (h : a < W64) : CMul (a : Int) b := .inl ⟨by omega, by
  have q : (a : Int) < (W64 : Nat) := Int.ofNat_lt.mpr h
  exact q⟩
def spPower : Sp := fun vs H Q _ => ∃ p n : Nat, vs = [.int (p : Int), .int (n : Int)] ∧ p < W64 ∧ n < 2 ^ 64 ∧ Q (.int ((Rc87.power p 64 n : Nat) : Int)) H
abbrev nPower : List Str := ["number", "times", "found", "more", "left"]
theorem scPower : FnScope nPower ["number", "times"] (defScope sPower) := ⟨rfl, rfl, rfl, by decide +kernel, rfl, by decide +kernel, by decide +kernel⟩
theorem ok_power {f : Addr} {fd : FuncData} (F : Fun K "power_of" "power_of" sPower f fd) (T : Txt K mg R C) : FnOk P w K mg base CX0 1 f fd ["number", "times"] spPower := by
  refine F.ok scPower (fun vs H Q E h => ?_) (fun cdv A outer s H vs Q E hr h => ?_)
  · obtain ⟨p, n, rfl, _⟩ := h
    rfl
  · obtain ⟨p, n, rfl, hp, hn, k⟩ := h
    refine ⟨_, pss_cons (ps_set (i := 2) scPower.nd rfl (Or.inl rfl) pe_int) (pss_cons (ps_set (i := 3) scPower.nd rfl (Or.inl rfl) (pv 0)) (pss_cons (ps_set (i := 4) scPower.nd rfl (Or.inl rfl) (pv 1))
      (pss_cons (ps_while PassesOwn.never (pt_cmpR op_gt (pv 4) pe_int (nomark _))
        (pss_cons (ps_if (pt_cmpR op_eq (pe_op op_mod (pv 4) pe_int) pe_int (nomark _)) (pss_one (ps_set (i := 2) scPower.nd rfl (Or.inl rfl) (pe_op op_mod (pe_op op_mul (pv 2) (pv 3)) (pe_gint rfl T.gWORDS)))) pss_nil)
          (pss_cons (ps_set (i := 3) scPower.nd rfl (Or.inl rfl) (pe_op op_mod (pe_op op_mul (pv 3) (pv 3)) (pe_gint rfl T.gWORDS)))
            (pss_one (ps_set (i := 4) scPower.nd rfl (Or.inl rfl) (pe_op op_fdiv (pv 4) pe_int))))))
      (pss_one (ps_ret (pv 2)))))), ?_⟩
    refine ⟨_, rfl, _, rfl, ?_⟩
    refine ⟨fun l σ H' => ∃ a b : Nat, σ = [some (V.int (p : Int)), some (V.int (n : Int)), some (V.int (a : Int)), some (V.int (b : Int)), some (V.int (l : Int))] ∧ H' = H ∧ a < W64 ∧ b < W64 ∧ a * b ^ l % W64 = p ^ n % W64,
      ⟨n, 1, p, rfl, rfl, by decide, hp, by rw [Nat.one_mul]⟩, ?_⟩
    rintro l σ H' ⟨a, b, rfl, rfl, ha, hb, e⟩
    refine ⟨_, rfl, _, _, rfl, rfl, _, rfl, ?_⟩
    refine ite_dec (fun hl => ?_) (fun hl => ?_)
    · have hl : 0 < l := by omega
      refine ⟨fun σ' H'' => ∃ a b : Nat, σ' = [some (V.int (p : Int)), some (V.int (n : Int)), some (V.int (a : Int)), some (V.int (b : Int)), some (V.int ((l / 2 : Nat) : Int))] ∧ H'' = H' ∧ a < W64 ∧ b < W64 ∧ a * b ^ (l / 2) % W64 = p ^ n % W64,
        fun σ' H'' ⟨a', b', e1, e2, e3, e4, e5⟩ => ⟨l / 2, by omega, a', b', e1, e2, e3, e4, e5⟩, ?_⟩
      refine ⟨_, rfl, _, _, rfl, rfl, (by show (0 : Int) < 2; decide), rfl, _, rfl, ?_⟩
      refine ite_eqI (fun ho => ?_) (fun ho => ?_)
      · have ho : l % 2 = 1 := by omega
        refine ⟨_, rfl, _, rfl, _, _, rfl, rfl, mulOk ha, _, _, rfl, rfl, (by show (0 : Int) < 18446744073709551616; decide), ?_⟩
        refine ⟨_, rfl, _, rfl, _, _, rfl, rfl, mulOk hb, _, _, rfl, rfl, (by show (0 : Int) < 18446744073709551616; decide), ?_⟩
        refine ⟨_, rfl, _, _, rfl, rfl, (by constructor <;> decide), ?_⟩
        exact ⟨a * b % W64, b * b % W64, rfl, rfl, Nat.mod_lt _ (by decide), Nat.mod_lt _ (by decide), (pw_odd ho).trans e⟩
      · have ho : ¬ l % 2 = 1 := by omega
        refine ⟨_, rfl, _, rfl, _, _, rfl, rfl, mulOk hb, _, _, rfl, rfl, (by show (0 : Int) < 18446744073709551616; decide), ?_⟩
        refine ⟨_, rfl, _, _, rfl, rfl, (by constructor <;> decide), ?_⟩
        exact ⟨a, b * b % W64, rfl, rfl, ha, Nat.mod_lt _ (by decide), (pw_even ho).trans e⟩
    · have hl : l = 0 := by omega
      subst hl
      refine ⟨_, rfl, ?_⟩
      rw [power_eq p 64 n hn, ← e, Nat.pow_zero, Nat.mul_one, Nat.mod_eq_of_lt ha] at k
      exact k

/-! ### number_of -/
def spNumber (K : PySem.W.Frag) : Sp := fun vs H Q _ => ∃ (a : Addr) (c : List Nat), vs = [.ref a] ∧ SqL K H a (vsN c) ∧ c.length = 40 ∧ (∀ x ∈ c, x < 2 ^ 64) ∧ ∀ H', Same H H' → Q (.int ((Rc87.number c : Nat) : Int)) H'
abbrev nNumber : List Str := ["amounts", "found", "prime", "many"]
theorem scNumber : FnScope nNumber ["amounts"] (defScope sNumber) := ⟨rfl, rfl, rfl, by decide +kernel, rfl, by decide +kernel, by decide +kernel⟩
theorem ok_number {f : Addr} {fd : FuncData} (F : Fun K "number_of" "number_of" sNumber f fd) (T : Txt K mg R C) (GP : FnC P w K mg base "power_of" 1 ["number", "times"] spPower) : FnOk P w K mg base CX0 2 f fd ["amounts"] (spNumber K) := by
  obtain ⟨fp, fdp, GP, mP, kP, bP⟩ := GP
  obtain ⟨aP, gP, qP⟩ := T.gPRIMES
  refine F.ok scNumber (fun vs H Q E h => ?_) (fun cdv A outer s H vs Q E hr h => ?_)
  · obtain ⟨a, c, rfl, _⟩ := h
    rfl
  · obtain ⟨a, c, rfl, hS, hc, hb, k⟩ := h
    refine ⟨_, pss_cons (ps_set (i := 1) scNumber.nd rfl (Or.inl rfl) pe_int)
      (pss_cons (ps_for PassesOwn.never rfl (pi_zipM (by rfl) T.zip (pa_cons (pe_glob (v := .ref aP) rfl gP rfl) (pa_cons (pv 0) pa_nil)))
        (pg_tup rfl (pgs_cons (pg_name (i := 2) scNumber.nd rfl (.inl rfl)) (pgs_cons (pg_name (i := 3) scNumber.nd rfl (.inl rfl)) pgs_nil)))
        (pss_one (ps_set (i := 1) scNumber.nd rfl (Or.inl rfl) (pe_op op_mod (pe_op op_mul (pv 1) (pe_call GP hr rfl mP kP bP .nil pass0 (pa_cons (pv 2) (pa_cons (pv 3) pa_nil)))) (pe_gint rfl T.gWORDS)))))
      (pss_one (ps_ret (pv 1)))), ?_⟩
    refine ⟨_, rfl, aP, a, _, _, rfl, qP H, hS, ?_⟩
    refine for_it (walk_zipM (K := K) (a := aP) (b := a) (xs := vsN primesL) (ys := vsN c) (by rw [vsN_length, vsN_length, hc]; rfl)) (fun i σ H' => ∃ v1 v2 : Option V, σ = [some (V.ref a), some (V.int ((numTo c i : Nat) : Int)), v1, v2] ∧ Same H H')
      ⟨_, _, rfl, Same.refl H⟩ (fun i σ H' _ ⟨_, _, _, s1⟩ => ⟨qP H', s1.seq hS⟩) ?_ ?_
    · rintro i v σ H1 H2 hi ⟨v1, v2, rfl, s1⟩ ⟨t, x, y, rfl, ht, rfl, hx, hy⟩
      obtain ⟨p, hp, rfl⟩ := vsN_at hx
      obtain ⟨n, hn, rfl⟩ := vsN_at hy
      refine ⟨t, _, rfl, SqT.of upd_same, rfl, _, _, rfl, _, _, rfl, rfl, ?_⟩
      have hpl : p < W64 := Nat.lt_trans (primesL_lt p (List.mem_of_getElem? hp)) (by decide)
      refine ⟨_, rfl, _, rfl, _, rfl, p, n, rfl, hpl, hb n (List.mem_of_getElem? hn), _, _, rfl, rfl, mulOk (numTo_lt c i), _, _, rfl, rfl, (by show (0 : Int) < 18446744073709551616; decide), ?_⟩
      refine ⟨some (V.int (p : Int)), some (V.int (n : Int)), ?_, fun b o e => ?_⟩
      · rw [numTo_succ hp hn]
        rfl
      · rw [upd_ne (ne_of_none (s1 b o e) ht)]
        exact s1 b o e
    · rintro σ H1 ⟨v1, v2, rfl, s1⟩
      refine ⟨_, rfl, ?_⟩
      have q := k H1 s1
      rw [← numTo_all hc] at q
      rw [vsN_length]
      exact q

/-! ### filled -/
def fill (c : List Nat) : List Nat := c ++ List.replicate (40 - c.length) 0
def spFilled : Sp := fun vs H Q _ => ∃ (a : Addr) (c : List Nat), vs = [.ref a] ∧ H a = some (.lst (vsN c)) ∧ c.length ≤ 40 ∧ ∀ H' p, Same H H' → H p = Option.none → H' p = some (.lst (vsN (fill c))) → Q (.ref p) H'
abbrev nFilled : List Str := ["row"]
theorem scFilled : FnScope nFilled ["row"] (defScope sFilled) := ⟨rfl, rfl, rfl, by decide +kernel, rfl, by decide +kernel, by decide +kernel⟩
theorem rep_one {α : Type} (x : α) : ∀ n : Nat, (List.replicate n [x]).flatten = List.replicate n x
  | 0 => rfl
  | n + 1 => by rw [List.replicate_succ, List.flatten_cons, rep_one x n]; rfl
theorem vsN_zeros (n : Nat) : vsN (List.replicate n 0) = List.replicate n (V.int 0) := by
  unfold vsN
  rw [List.map_replicate, List.map_replicate]
  rfl
theorem upd_new {H : Hp} {p : Addr} {o : HO} (h : H p = Option.none) : Same H (upd H p o) := fun b u e => by
  rw [upd_ne (ne_of_none e h)]
  exact e
theorem sl64 {n : Nat} (h : n ≤ 100000) : n ≤ sizeLine := by rw [sizeLine_eq]; omega
theorem ok_filled {f : Addr} {fd : FuncData} (F : Fun K "filled" "filled" sFilled f fd) (T : Txt K mg R C) : FnOk P w K mg base CX0 1 f fd ["row"] spFilled := by
  refine F.ok scFilled (fun vs H Q E h => ?_) (fun cdv A outer s H vs Q E hr h => ?_)
  · obtain ⟨a, c, rfl, _⟩ := h
    rfl
  · obtain ⟨a, c, rfl, hS, hc, k⟩ := h
    refine ⟨_, pss_one (ps_ret (pe_op op_cat (pv 0) (pe_op op_rep (pe_lst (pa_cons pe_int pa_nil)) (pe_op op_sub (pe_gint rfl T.gCOUNTERS) (pe_callB call_len_seq (by rfl) T.len PySem.boot_len (pa_cons (pv 0) pa_nil)))))), ?_⟩
    refine ⟨_, rfl, (by show 1 ≤ sizeLine; decide), fun p hp => ?_⟩
    have hS1 := upd_new (o := .lst [V.int 0]) hp _ _ hS
    refine ⟨_, rfl, a, _, rfl, .inl (SqL.of hS1), _, _, rfl, rfl, p, _, _, rfl, rfl, upd_same, ?_, ?_, ?_, fun p2 hp2 => ?_⟩
    · rw [vsN_length]; omega
    · rw [vsN_length]; omega
    · rw [vsN_length]
      exact sl64 (by show 1 * _ ≤ _; omega)
    have hS2 := upd_new (o := .lst (List.replicate (40 - ((vsN c).length : Int)).toNat [V.int 0]).flatten) hp2 _ _ hS1
    refine ⟨a, p2, _, _, rfl, rfl, hS2, upd_same, ?_, fun p3 hp3 => ?_⟩
    · rw [rep_one, List.length_replicate, vsN_length]
      exact sl64 (by omega)
    · have n1 : H p3 = Option.none := by
        have h1 : p3 ≠ p2 := fun q => by rw [q, upd_same] at hp3; cases hp3
        rw [upd_ne h1] at hp3
        have h2 : p3 ≠ p := fun q => by rw [q, upd_same] at hp3; cases hp3
        rw [upd_ne h2] at hp3
        exact hp3
      refine k _ p3 (((upd_new hp).trans (upd_new hp2)).trans (upd_new hp3)) n1 ?_
      rw [upd_same, rep_one, fill, vsN_append, vsN_zeros, vsN_length]
      congr 4
      omega

/-! ### amounts_of -/
def amtStep (f : List Nat) (c : Nat) : List Nat := f.set c (f.getD c 0 + 1)
def amts (l : List Nat) : List Nat := l.foldl amtStep (List.replicate 40 0)
theorem amtStep_length (f : List Nat) (c : Nat) : (amtStep f c).length = f.length := by unfold amtStep; simp
theorem amtTo_length : ∀ (l : List Nat) (f : List Nat), (l.foldl amtStep f).length = f.length
  | [], _ => rfl
  | x :: l, f => by rw [List.foldl_cons, amtTo_length l, amtStep_length]
def spAmts (K : PySem.W.Frag) : Sp := fun vs H Q _ => ∃ (a : Addr) (l : List Nat), vs = [.ref a] ∧ SqL K H a (vsN l) ∧ (∀ x ∈ l, x < 40) ∧ ∀ H' p, Same H H' → H p = Option.none → H' p = some (.lst (vsN (amts l))) → Q (.ref p) H'
abbrev nAmts : List Str := ["counters", "found", "counter"]
theorem scAmts : FnScope nAmts ["counters"] (defScope sAmts) := ⟨rfl, rfl, rfl, by decide +kernel, rfl, by decide +kernel, by decide +kernel⟩
theorem ok_amts {f : Addr} {fd : FuncData} (F : Fun K "amounts_of" "amounts_of" sAmts f fd) (T : Txt K mg R C) : FnOk P w K mg base CX0 1 f fd ["counters"] (spAmts K) := by
  refine F.ok scAmts (fun vs H Q E h => ?_) (fun cdv A outer s H vs Q E hr h => ?_)
  · obtain ⟨a, c, rfl, _⟩ := h
    rfl
  · obtain ⟨a, l, rfl, hS, hl, k⟩ := h
    refine ⟨_, pss_cons (ps_set (i := 1) scAmts.nd rfl (Or.inl rfl) (pe_op op_rep (pe_lst (pa_cons pe_int pa_nil)) (pe_gint rfl T.gCOUNTERS)))
      (pss_cons (ps_for PassesOwn.never rfl (pi_list (pv 0)) (pg_name (i := 2) scAmts.nd rfl (.inl rfl))
        (pss_one (ps_augS (pv 1) (pv 2) pget_list pe_int ip_add set_list)))
      (pss_one (ps_ret (pv 1)))), ?_⟩
    refine ⟨(by show 1 ≤ sizeLine; decide), fun p hp => ?_⟩
    refine ⟨p, _, _, rfl, rfl, upd_same, (by decide), (by decide), (by show 1 * 40 ≤ sizeLine; decide), fun p2 hp2 => ?_⟩
    have hS1 : Same H (upd (upd H p (.lst [V.int 0])) p2 (.lst (List.replicate (40 : Int).toNat [V.int 0]).flatten)) := (upd_new hp).trans (upd_new hp2)
    have hn2 : H p2 = Option.none := (upd_new (o := .lst [V.int 0]) hp).free hp2
    refine ⟨_, rfl, a, rfl, ⟨_, hS1.seq hS⟩, for_list (K := K) (a := a) (xs := vsN l) (fun i σ H' => ∃ v : Option V, σ = [some (V.ref a), some (V.ref p2), v] ∧ Same H H' ∧ H' p2 = some (.lst (vsN ((l.take i).foldl amtStep (List.replicate 40 0)))))
      ⟨_, rfl, hS1, ?_⟩ (fun i σ H' _ ⟨_, _, s1, _⟩ => s1.seq hS) ?_ ?_⟩
    · rw [upd_same, rep_one]
      show _ = some (HO.lst (vsN (List.replicate 40 0)))
      rw [vsN_zeros]
      rfl
    · rintro i x σ H1 hi ⟨v, rfl, s1, h2⟩
      obtain ⟨n, hn, rfl⟩ := vsN_at hi
      have hn40 := hl n (List.mem_of_getElem? hn)
      have len : ((l.take i).foldl amtStep (List.replicate 40 0)).length = 40 := by rw [amtTo_length, List.length_replicate]
      refine ⟨_, rfl, _, rfl, p2, _, n, _, rfl, rfl, SqL.of h2, vsN_getD (by rw [len]; exact hn40), _, _, rfl, rfl, p2, _, _, n, rfl, rfl, h2, ?_, ?_⟩
      · rw [vsN_length, len]
        unfold ixN
        rw [if_pos (Int.natCast_nonneg _), if_pos (by omega)]
        rfl
      · refine ⟨_, rfl, fun b o e => ?_, ?_⟩
        · rw [upd_ne (ne_of_none e hn2)]
          exact s1 b o e
        · rw [upd_same, take_more hn, List.foldl_append]
          show some (HO.lst ((vsN _).set n (V.int ((_ : Nat) + 1 : Int)))) = some (HO.lst (vsN (amtStep _ n)))
          rw [show (((List.foldl amtStep (List.replicate 40 0) (List.take i l)).getD n 0 : Nat) : Int) + 1 = (((List.foldl amtStep (List.replicate 40 0) (List.take i l)).getD n 0 + 1 : Nat) : Int) by omega, vsN_set]
          rfl
    · rintro σ H1 ⟨v, rfl, s1, h2⟩
      refine ⟨_, rfl, ?_⟩
      rw [vsN_length, List.take_length] at h2
      exact k H1 p2 s1 hn2 h2

/-! ### is_counter, is_count -/
def spIsCounter : Sp := fun vs H Q _ => ∃ i : Int, vs = [.int i] ∧ Q (.bl (decide (0 ≤ i ∧ i < 40))) H
theorem scIsCounter : FnScope ["number"] ["number"] (defScope sIsCounter) := ⟨rfl, rfl, rfl, by decide +kernel, rfl, by decide +kernel, by decide +kernel⟩
theorem ok_isCounter {f : Addr} {fd : FuncData} (F : Fun K "is_counter" "is_counter" sIsCounter f fd) (T : Txt K mg R C) : FnOk P w K mg base CX0 1 f fd ["number"] spIsCounter := by
  refine F.ok scIsCounter (fun vs H Q E h => ?_) (fun cdv A outer s H vs Q E hr h => ?_)
  · obtain ⟨i, rfl, _⟩ := h
    rfl
  · obtain ⟨i, rfl, k⟩ := h
    refine ⟨_, pss_one (ps_ret (pe_and (pe_cmpR op_le pe_int (pv 0) (nomark _)) (pe_one (pe_cmpR op_lt (pv 0) (pe_gint rfl T.gCOUNTERS) (nomark _))))), ?_⟩
    refine ⟨_, rfl, _, _, rfl, rfl, _, rfl, ite_dec (fun h0 => ?_) (fun h0 => ?_)⟩
    · refine ⟨_, rfl, _, _, rfl, rfl, ?_⟩
      rw [show decide (0 ≤ i ∧ i < 40) = decide (i < 40) by simp [h0]] at k
      exact k
    · rw [show decide (0 ≤ i ∧ i < 40) = false by simp [h0]] at k
      exact k
def spIsCount : Sp := fun vs H Q _ => ∃ i : Int, vs = [.int i] ∧ Q (.bl (decide (0 ≤ i ∧ i ≤ 1000000000))) H
theorem scIsCount : FnScope ["number"] ["number"] (defScope sIsCount) := ⟨rfl, rfl, rfl, by decide +kernel, rfl, by decide +kernel, by decide +kernel⟩
theorem ok_isCount {f : Addr} {fd : FuncData} (F : Fun K "is_count" "is_count" sIsCount f fd) (T : Txt K mg R C) : FnOk P w K mg base CX0 1 f fd ["number"] spIsCount := by
  refine F.ok scIsCount (fun vs H Q E h => ?_) (fun cdv A outer s H vs Q E hr h => ?_)
  · obtain ⟨i, rfl, _⟩ := h
    rfl
  · obtain ⟨i, rfl, k⟩ := h
    refine ⟨_, pss_one (ps_ret (pe_and (pe_cmpR op_le pe_int (pv 0) (nomark _)) (pe_one (pe_cmpR op_le (pv 0) (pe_gint rfl T.gMOST_STEPS) (nomark _))))), ?_⟩
    refine ⟨_, rfl, _, _, rfl, rfl, _, rfl, ite_dec (fun h0 => ?_) (fun h0 => ?_)⟩
    · refine ⟨_, rfl, _, _, rfl, rfl, ?_⟩
      rw [show decide (0 ≤ i ∧ i ≤ 1000000000) = decide (i ≤ 1000000000) by simp [h0]] at k
      exact k
    · rw [show decide (0 ≤ i ∧ i ≤ 1000000000) = false by simp [h0]] at k
      exact k
end
end Fc
/-! D2: Rule: __init__, fits, is_beyond, change; rule_by. -/
namespace Fc
open PySem PySem.Spec PyProof.Rows L2
open Rc87 (Rule Row Abs Ins)
theorem out_here {Hb H : Hp} {b : Addr} {o : HO} (h : Hb b = Option.none) (e : H b = some o) : out Hb H b = some o := by rw [out_of h]; exact e
theorem TwosAt.keep {Hb H1 H2 : Hp} {a x C dx : Addr} {fs : List (Str × V)} {ps : List (Int × Int)} (h : TwosAt (out Hb H1) a ps) (k : ∀ b o, H1 b = some o → b ≠ x → H2 b = some o) (hx : H1 x = some (.ins C dx fs)) : TwosAt (out Hb H2) a ps := by
  obtain ⟨ts, e, p⟩ := h
  obtain ⟨e1, e2⟩ := out_in e
  refine ⟨ts, out_here e1 (k _ _ e2 (ne_of e2 hx (by intro q; cases q))), pr_map p fun t q z => ?_⟩
  obtain ⟨z1, z2⟩ := out_in z
  exact out_here z1 (k _ _ z2 (ne_of z2 hx (by intro q; cases q)))
/-- the list that is made grows by a new pair -/
theorem twos_grow {Hb Hs H1 : Hp} {D t : Addr} {ts : List Addr} {ps : List (Int × Int)} {i j : Int} (sB : Same Hb Hs) (s1 : Same Hs H1) (hD : H1 D = some (.lst (ts.map V.ref))) (p : Paired (TwoAt (out Hb H1)) ts ps) (ht : H1 t = Option.none) (hDs : Hs D = Option.none) :
    Same Hs (upd (upd H1 t (.tup [V.int i, V.int j])) D (.lst (ts.map V.ref ++ [V.ref t]))) ∧ (upd (upd H1 t (.tup [V.int i, V.int j])) D (.lst (ts.map V.ref ++ [V.ref t]))) D = some (.lst ((ts ++ [t]).map V.ref)) ∧
      Paired (TwoAt (out Hb (upd (upd H1 t (.tup [V.int i, V.int j])) D (.lst (ts.map V.ref ++ [V.ref t]))))) (ts ++ [t]) (ps ++ [(i, j)]) := by
  have ntD : t ≠ D := fun q => by rw [q, hD] at ht; cases ht
  refine ⟨fun b o e => ?_, by rw [upd_same, List.map_append]; rfl, pr_snoc (pr_map p fun u q z => ?_) ?_⟩
  · rw [upd_ne (ne_of_none e hDs), upd_ne (ne_of_none (s1 b o e) ht)]
    exact s1 b o e
  · obtain ⟨z1, z2⟩ := out_in z
    refine out_here z1 ?_
    rw [upd_ne (ne_of z2 hD (by intro q; cases q)), upd_ne (ne_of_none z2 ht)]
    exact z2
  · refine out_here ((sB.trans s1).free ht) ?_
    rw [upd_ne ntD, upd_same]
theorem ints_get {l : List Int} {i : Nat} (h : i < l.length) : (l.map V.int)[i]? = some (V.int (l.getD i 0)) := by
  rw [List.getElem?_map, List.getD_eq_getElem?_getD, List.getElem?_eq_getElem h]
  rfl
theorem ite_neI {i j : Int} {A B : Prop} (h1 : i ≠ j → A) (h2 : i = j → B) : if (!decide (V.int i = V.int j)) = true then A else B := by
  by_cases e : i = j
  · rw [decide_eq_true (congrArg V.int e)]
    exact iteF (h2 e)
  · rw [decide_eq_false (fun q => e (V.int.inj q))]
    exact iteT (h1 e)
theorem ixN_nat {n j : Nat} (h : j < n) : ixN n (j : Int) = some j := by
  unfold ixN
  rw [if_pos (Int.natCast_nonneg _), if_pos (by omega)]
  rfl
section
variable {P : Program} {w : World} {K : PySem.W.Frag} {mg : Str → Option Value} {base : Heap} {R C : Addr}

/-! ### Rule.__init__ -/
def spRInit (R : Addr) : Sp := fun vs H Q _ => ∃ (Hb : Hp) (x dx t g : Addr) (r : Rule), vs = [.ref x, .ref t, .ref g] ∧ Same Hb H ∧ Hb x = Option.none ∧ Hb t = Option.none ∧ Hb g = Option.none ∧ H x = some (.ins R dx []) ∧ H t = some (.lst (vsN r.take)) ∧ H g = some (.lst (vsN r.give)) ∧ GoodR r ∧
  ∀ H', (∀ b o, H b = some o → b ≠ x → H' b = some o) → RuleAt R (out Hb H') x r → Q .non H'
abbrev nRInit : List Str := ["self", "takes", "gives", "at", "many"]
theorem scRInit : FnScope nRInit ["self", "takes", "gives"] (defScope sRInit) := ⟨rfl, rfl, rfl, by decide +kernel, rfl, by decide +kernel, by decide +kernel⟩
theorem ok_rInit {f : Addr} {fd : FuncData} (F : Fun K "__init__" "Rule.__init__" sRInit f fd) (T : Txt K mg R C) : FnOk P w K mg base CX0 1 f fd ["self", "takes", "gives"] (spRInit R) := by
  refine F.ok scRInit (fun vs H Q E h => ?_) (fun cdv A outer s H vs Q E hr h => ?_)
  · obtain ⟨Hb, x, dx, t, g, r, rfl, _⟩ := h
    rfl
  · obtain ⟨Hb, x, dx, t, g, r, rfl, sB, Bx, Bt, Bg, hx, ht, hg, G, k⟩ := h
    refine ⟨_, pss_cons (ps_fld (pv 0) (pv 1) rfl) (pss_cons (ps_fld (pv 0) (pv 2) rfl)
      (pss_cons (ps_fld (pv 0) (pe_lc (own := [("at", 3), ("many", 4)]) (g := gTup K 2 (gCons (gName 3) (gCons (gName 4) gNil))) rfl scRInit.nd (pi_enum (by rfl) T.enumerate (pa_cons (pv 1) pa_nil))
          (blkOk_by (own := [("at", 3), ("many", 4)]) (N := nRInit) (sc := defScope sRInit) (by decide +kernel))
          (fun _ _ _ _ _ => pg_tup rfl (pgs_cons (pg_name (i := 3) scRInit.nd rfl (.inl rfl)) (pgs_cons (pg_name (i := 4) scRInit.nd rfl (.inl rfl)) pgs_nil)))
          (fun _ _ _ _ _ => pts_one (pt_cmpR op_gt (pv 4) pe_int (nomark _)))
          (fun _ _ _ _ _ => pe_tup (pa_cons (pv 3) (pa_cons (pv 4) pa_nil)))) rfl)
      (pss_one (ps_fld (pv 0) (pe_lc (own := [("at", 3)]) (g := gName 3) rfl scRInit.nd (pi_range1 (by rfl) T.range (pa_cons (pe_callB call_len_seq (by rfl) T.len PySem.boot_len (pa_cons (pv 1) pa_nil)) pa_nil))
          (blkOk_by (own := [("at", 3)]) (N := nRInit) (sc := defScope sRInit) (by decide +kernel))
          (fun _ _ _ _ _ => pg_name (i := 3) scRInit.nd rfl (.inl rfl))
          (fun _ _ _ _ _ => pts_one (pt_cmpR op_ne (pe_ix (r := rIxL K) ix_list (pv 2) (pv 3) (fun _ _ => rfl)) (pe_ix (r := rIxL K) ix_list (pv 1) (pv 3) (fun _ _ => rfl)) (nomark _)))
          (fun _ _ _ _ _ => pe_tup (pa_cons (pv 3) (pa_cons (pe_op op_sub (pe_ix (r := rIxL K) ix_list (pv 2) (pv 3) (fun _ _ => rfl)) (pe_ix (r := rIxL K) ix_list (pv 1) (pv 3) (fun _ _ => rfl))) pa_nil)))) rfl)))), ?_⟩
    have nxt : x ≠ t := fun q => by rw [q, ht] at hx; cases hx
    have nxg : x ≠ g := fun q => by rw [q, hg] at hx; cases hx
    refine ⟨_, rfl, _, rfl, x, R, dx, [], rfl, hx, T.clR, T.nTakes, (by show 0 < 1000; decide), ?_⟩
    refine ⟨_, rfl, _, rfl, x, R, dx, _, rfl, upd_same, T.clR, T.nGives, (by show 1 < 1000; decide), ?_⟩
    generalize hc : upd (upd H x (.ins R dx (putF "takes" (.ref t) []))) x (.ins R dx (putF "gives" (.ref g) (putF "takes" (.ref t) []))) = Hc
    have cx : Hc x = some (.ins R dx (putF "gives" (.ref g) (putF "takes" (.ref t) []))) := by rw [← hc]; exact upd_same
    have kc : ∀ b o, H b = some o → b ≠ x → Hc b = some o := fun b o e ne => by
      rw [← hc, upd_ne ne, upd_ne ne]
      exact e
    have sBc : Same Hb Hc := fun b o e => kc b o (sB b o e) (ne_of_none e Bx)
    have ct := kc _ _ ht nxt.symm
    have cg := kc _ _ hg nxg.symm
    refine ⟨_, rfl, t, _, rfl, SqL.of ct, fun D hD => ?_⟩
    refine lc_it (walk_enum (K := K) (a := t) (xs := vsN r.take)) (fun i H' => ∃ ts : List Addr, Same Hc H' ∧ H' D = some (.lst (ts.map V.ref)) ∧ Paired (TwoAt (out Hb H')) ts ((takeTo r.take i).map natI) ∧ ts.length ≤ i)
      ⟨[], upd_new hD, upd_same, .nil, Nat.le_refl _⟩ (fun i H' _ ⟨_, s1, _⟩ => SqL.of (s1 _ _ ct)) ?_ ?_
    · rintro i v H1 H2 hi ⟨ts, s1, h1, p1, l1⟩ ⟨q, y, z, rfl, hq, rfl, hy, hz⟩
      have ey : y = V.int (i : Nat) := (Option.some.inj hy).symm
      subst ey
      obtain ⟨m, hm, rfl⟩ := vsN_at hz
      rw [vsN_length, G.tl] at hi
      refine ⟨q, _, rfl, SqT.of upd_same, rfl, _, _, rfl, _, _, rfl, rfl, rfl, _, rfl, _, _, rfl, rfl, _, rfl, ?_⟩
      have s2 : Same Hc (upd H1 q (.tup [V.int (i : Nat), V.int (m : Int)])) := s1.trans (upd_new hq)
      have h2 : upd H1 q (.tup [V.int (i : Nat), V.int (m : Int)]) D = some (.lst (ts.map V.ref)) := upd_new hq _ _ h1
      have p2 : Paired (TwoAt (out Hb (upd H1 q (.tup [V.int (i : Nat), V.int (m : Int)])))) ts ((takeTo r.take i).map natI) := pr_map p1 fun u w z => by
        obtain ⟨z1, z2⟩ := out_in z
        exact out_here z1 (upd_new hq _ _ z2)
      have em : r.take.getD i 0 = m := getD_of hm
      refine ite_dec (fun h0 => ?_) (fun h0 => ?_)
      · refine ⟨_, rfl, _, rfl, (by show 2 ≤ sizeLine; decide), fun q2 hq2 => ?_⟩
        obtain ⟨a1, a2, a3⟩ := twos_grow (i := (i : Nat)) (j := (m : Int)) sBc s2 h2 p2 hq2 hD
        refine ⟨ts.map V.ref, upd_new hq2 _ _ h2, small1000 (by rw [List.length_map]; omega), ts ++ [q2], a1, a2, ?_, ?_⟩
        · rw [takeTo_succ, em, if_pos (by omega), List.map_append]
          exact a3
        · rw [List.length_append, List.length_singleton]
          omega
      · refine ⟨ts, s2, h2, ?_, by omega⟩
        rw [takeTo_succ, em, if_neg (by omega), List.append_nil]
        exact p2
    rintro H1 ⟨ts, s1, h1, p1, -⟩
    rw [vsN_length, G.tl] at p1
    have TW : TwosAt (out Hb H1) D ((takingL r).map natI) := ⟨ts, out_here (sBc.free hD) h1, p1⟩
    have hx1 := s1 _ _ cx
    refine ⟨_, rfl, x, R, dx, _, rfl, hx1, T.clR, T.nTaking, (by show 2 < 1000; decide), ?_⟩
    generalize hc2 : upd H1 x (.ins R dx (putF "taking" (.ref D) (putF "gives" (.ref g) (putF "takes" (.ref t) [])))) = Hd
    have dxx : Hd x = some (.ins R dx (putF "taking" (.ref D) (putF "gives" (.ref g) (putF "takes" (.ref t) [])))) := by rw [← hc2]; exact upd_same
    have kd : ∀ b o, H1 b = some o → b ≠ x → Hd b = some o := fun b o e ne => by
      rw [← hc2, upd_ne ne]
      exact e
    have sBd : Same Hb Hd := fun b o e => kd b o (s1 b o (sBc b o e)) (ne_of_none e Bx)
    have dt := kd _ _ (s1 _ _ ct) nxt.symm
    have dg := kd _ _ (s1 _ _ cg) nxg.symm
    refine ⟨_, rfl, t, _, rfl, .inl (SqL.of dt), ?_⟩
    refine ⟨_, rfl, ?_, ?_, fun D2 hD2 => ?_⟩
    · rw [vsN_length, G.tl]; decide
    · rw [vsN_length, G.tl]; decide
    rw [vsN_length, G.tl]
    refine lc_range (lo := 0) (n := 40) (fun i H' => ∃ ts : List Addr, Same Hd H' ∧ H' D2 = some (.lst (ts.map V.ref)) ∧ Paired (TwoAt (out Hb H')) ts ((chgTo r.take r.give i).map intI) ∧ ts.length ≤ i)
      ⟨[], upd_new hD2, upd_same, .nil, Nat.le_refl _⟩ ?_ ?_
    · rintro i H2 hi ⟨ts2, s2, h2, p2, l2⟩
      rw [Int.zero_add]
      have gt : (vsN r.take)[i]? = some (V.int ((r.take.getD i 0 : Nat) : Int)) := vsN_getD (by rw [G.tl]; exact hi)
      have gg : (vsN r.give)[i]? = some (V.int ((r.give.getD i 0 : Nat) : Int)) := vsN_getD (by rw [G.gl]; exact hi)
      have rt := SqL.of (K := K) (s2 _ _ dt)
      have rg := SqL.of (K := K) (s2 _ _ dg)
      refine ⟨rfl, _, rfl, _, rfl, g, _, _, _, rfl, rfl, rg, atI_nat gg, _, rfl, _, rfl, t, _, _, _, rfl, rfl, rt, atI_nat gt, rfl, _, rfl, ?_⟩
      refine ite_neI (fun e => ?_) (fun e => ?_)
      · have e : r.give.getD i 0 ≠ r.take.getD i 0 := fun q => e (congrArg Int.ofNat q)
        refine ⟨_, rfl, _, rfl, _, rfl, g, _, _, _, rfl, rfl, rg, atI_nat gg, _, rfl, _, rfl, t, _, _, _, rfl, rfl, rt, atI_nat gt, _, _, rfl, rfl, (by show 2 ≤ sizeLine; decide), fun q2 hq2 => ?_⟩
        obtain ⟨a1, a2, a3⟩ := twos_grow (i := (i : Nat)) (j := ((r.give.getD i 0 : Nat) : Int) - ((r.take.getD i 0 : Nat) : Int)) sBd s2 h2 p2 hq2 hD2
        refine ⟨ts2.map V.ref, upd_new hq2 _ _ h2, small1000 (by rw [List.length_map]; omega), ts2 ++ [q2], a1, a2, ?_, ?_⟩
        · rw [chgTo_succ, if_pos e, List.map_append]
          exact a3
        · rw [List.length_append, List.length_singleton]
          omega
      · have e : r.give.getD i 0 = r.take.getD i 0 := Int.ofNat.inj e
        refine ⟨ts2, s2, h2, ?_, by omega⟩
        rw [chgTo_succ, if_neg (fun q => q e), List.append_nil]
        exact p2
    · rintro H2 ⟨ts2, s2, h2, p2, -⟩
      have TW2 : TwosAt (out Hb H2) D2 ((changesL r).map intI) := ⟨ts2, out_here (sBd.free hD2) h2, p2⟩
      have hx2 := s2 _ _ dxx
      refine ⟨_, rfl, x, R, dx, _, rfl, hx2, T.clR, T.nChanges, (by show 3 < 1000; decide), ?_⟩
      have kf : ∀ b o, H2 b = some o → b ≠ x → upd H2 x (.ins R dx (putF "changes" (.ref D2) (putF "taking" (.ref D) (putF "gives" (.ref g) (putF "takes" (.ref t) []))))) b = some o := fun b o e ne => by
        rw [upd_ne ne]
        exact e
      refine k _ (fun b o e ne => kf b o (s2 b o (kd b o (s1 b o (kc b o e ne)) ne)) ne) ⟨dx, t, g, D, D2, ?_, ?_, ?_, ?_, ?_⟩
      · refine out_here Bx ?_
        rw [upd_same, rF_new]
      · exact out_here Bt (kf _ _ (s2 _ _ dt) nxt.symm)
      · exact out_here Bg (kf _ _ (s2 _ _ dg) nxg.symm)
      · exact TW.keep (fun b o e ne => kf b o (s2 b o (kd b o e ne)) ne) hx1
      · exact TW2.keep kf hx2

/-! ### Rule.fits -/
def spFits (R : Addr) : Sp := fun vs H Q _ => ∃ (a c : Addr) (r : Rule) (cs : List Nat), vs = [.ref a, .ref c] ∧ RuleAt R H a r ∧ GoodR r ∧ H c = some (.lst (vsN cs)) ∧ cs.length = 40 ∧ Q (.bl (Rc87.fits r cs)) H
abbrev nFits : List Str := ["self", "counters", "at", "many"]
theorem scFits : FnScope nFits ["self", "counters"] (defScope sFits) := ⟨rfl, rfl, rfl, by decide +kernel, rfl, by decide +kernel, by decide +kernel⟩
theorem mem_take {α : Type} {l : List α} {i : Nat} {x : α} (h : l[i]? = some x) : x ∈ l := List.mem_of_getElem? h
theorem pairs_at {ps : List (Nat × Nat)} {i : Nat} {p : Int × Int} (h : (ps.map natI)[i]? = some p) : ∃ q, ps[i]? = some q ∧ p = natI q := by
  rw [List.getElem?_map] at h
  cases e : ps[i]? with
  | none => rw [e] at h; cases h
  | some q => rw [e] at h; exact ⟨q, rfl, (Option.some.inj h).symm⟩
theorem pairs_at2 {ps : List (Nat × Int)} {i : Nat} {p : Int × Int} (h : (ps.map intI)[i]? = some p) : ∃ q, ps[i]? = some q ∧ p = intI q := by
  rw [List.getElem?_map] at h
  cases e : ps[i]? with
  | none => rw [e] at h; cases h
  | some q => rw [e] at h; exact ⟨q, rfl, (Option.some.inj h).symm⟩
theorem ok_fits {f : Addr} {fd : FuncData} (F : Fun K "fits" "Rule.fits" sFits f fd) (T : Txt K mg R C) : FnOk P w K mg base CX0 1 f fd ["self", "counters"] (spFits R) := by
  refine F.ok scFits (fun vs H Q E h => ?_) (fun cdv A outer s H vs Q E hr h => ?_)
  · obtain ⟨a, c, r, cs, rfl, _⟩ := h
    rfl
  · obtain ⟨a, c, r, cs, rfl, RA, G, hc, hl, k⟩ := h
    refine ⟨_, pss_cons (ps_for PassesOwn.never rfl (pi_list (pe_fld (pv 0) rfl)) (pg_tup rfl (pgs_cons (pg_name (i := 2) scFits.nd rfl (.inl rfl)) (pgs_cons (pg_name (i := 3) scFits.nd rfl (.inl rfl)) pgs_nil)))
        (pss_one (ps_if (pt_cmpR op_lt (pe_ix ix_list (pv 1) (pv 2) (fun _ _ => rfl)) (pv 3) (nomark _)) (pss_one (ps_ret pe_bl)) pss_nil)))
      (pss_one (ps_ret pe_bl)), ?_⟩
    obtain ⟨dx, t, g, u, d, h1, h2, h3, ⟨ts, h4, p4⟩, _⟩ := RA.ex
    refine ⟨_, rfl, a, R, dx, _, _, rfl, h1, T.clR, T.nTaking, rF_taking _ _ _ _, u, rfl, ⟨_, SqL.of h4⟩, for_list (K := K) (a := u) (xs := ts.map V.ref) (fun i σ H' => ∃ v1 v2 : Option V, σ = [some (V.ref a), some (V.ref c), v1, v2] ∧ H' = H ∧ ∀ p ∈ (takingL r).take i, p.2 ≤ cs.getD p.1 0)
      ⟨_, _, rfl, rfl, by simp⟩ (fun i σ H' _ ⟨_, _, _, e, _⟩ => by rw [e]; exact SqL.of h4) ?_ ?_⟩
    · rintro i x σ H' hi ⟨v1, v2, rfl, rfl, hp⟩
      obtain ⟨b, hb, rfl⟩ := refs_get hi
      obtain ⟨p, hpp, hbt⟩ := pr_get p4 hb
      obtain ⟨q, hq, rfl⟩ := pairs_at hpp
      have q40 := (mem_taking.mp (mem_take hq)).1
      refine ⟨b, _, rfl, SqT.of hbt, rfl, _, _, rfl, _, _, rfl, rfl, ?_⟩
      refine ⟨_, rfl, _, rfl, c, _, _, _, rfl, rfl, SqL.of hc, atI_nat (vsN_getD (by rw [hl]; exact q40)), _, rfl, _, _, rfl, rfl, _, rfl, ite_dec (fun h0 => ?_) (fun h0 => ?_)⟩
      · have e : Rc87.fits r cs = false := by
          cases ef : Rc87.fits r cs with
          | false => rfl
          | true =>
            have := (fits_taking G hl).mp ef q (mem_take hq)
            have h0 : ((cs.getD q.1 0 : Nat) : Int) < (q.2 : Int) := h0
            omega
        rw [e] at k
        exact k
      · refine ⟨some (V.int (q.1 : Int)), some (V.int (q.2 : Int)), rfl, rfl, fun p hp' => ?_⟩
        rw [take_more hq, List.mem_append, List.mem_singleton] at hp'
        rcases hp' with z | z
        · exact hp p z
        · rw [z]
          have h0 : ¬ ((cs.getD q.1 0 : Nat) : Int) < (q.2 : Int) := h0
          omega
    · rintro σ H' ⟨v1, v2, rfl, rfl, hp⟩
      have e : Rc87.fits r cs = true := by
        rw [fits_taking G hl]
        rw [List.length_map, pr_len p4, List.length_map, List.take_length] at hp
        exact hp
      rw [e] at k
      exact k

/-! ### Rule.is_beyond -/
def spBeyond (R : Addr) : Sp := fun vs H Q _ => ∃ (a c : Addr) (r : Rule) (cs : List Nat), vs = [.ref a, .ref c] ∧ RuleAt R H a r ∧ GoodR r ∧ H c = some (.lst (vsN cs)) ∧ cs.length = 40 ∧ Rc87.small cs = true ∧ Rc87.fits r cs = true ∧ Q (.bl (!Rc87.small (Rc87.applied r cs))) H
abbrev nBeyond : List Str := ["self", "counters", "at", "more"]
theorem scBeyond : FnScope nBeyond ["self", "counters"] (defScope sBeyond) := ⟨rfl, rfl, rfl, by decide +kernel, rfl, by decide +kernel, by decide +kernel⟩
theorem ok_beyond {f : Addr} {fd : FuncData} (F : Fun K "is_beyond" "Rule.is_beyond" sBeyond f fd) (T : Txt K mg R C) : FnOk P w K mg base CX0 1 f fd ["self", "counters"] (spBeyond R) := by
  refine F.ok scBeyond (fun vs H Q E h => ?_) (fun cdv A outer s H vs Q E hr h => ?_)
  · obtain ⟨a, c, r, cs, rfl, _⟩ := h
    rfl
  · obtain ⟨a, c, r, cs, rfl, RA, G, hc, hl, hs, hf, k⟩ := h
    refine ⟨_, pss_cons (ps_for PassesOwn.never rfl (pi_list (pe_fld (pv 0) rfl)) (pg_tup rfl (pgs_cons (pg_name (i := 2) scBeyond.nd rfl (.inl rfl)) (pgs_cons (pg_name (i := 3) scBeyond.nd rfl (.inl rfl)) pgs_nil)))
        (pss_one (ps_if (pt_cmpR op_gt (pe_op op_add (pe_ix ix_list (pv 1) (pv 2) (fun _ _ => rfl)) (pv 3)) (pe_gint rfl T.gMOST) (nomark _)) (pss_one (ps_ret pe_bl)) pss_nil)))
      (pss_one (ps_ret pe_bl)), ?_⟩
    obtain ⟨dx, t, g, u, d, h1, h2, h3, _, ts, h4, p4⟩ := RA.ex
    refine ⟨_, rfl, a, R, dx, _, _, rfl, h1, T.clR, T.nChanges, rF_changes _ _ _ _, d, rfl, ⟨_, SqL.of h4⟩, for_list (K := K) (a := d) (xs := ts.map V.ref) (fun i σ H' => ∃ v1 v2 : Option V, σ = [some (V.ref a), some (V.ref c), v1, v2] ∧ H' = H ∧ ∀ p ∈ (changesL r).take i, (cs.getD p.1 0 : Int) + p.2 ≤ 2147483647)
      ⟨_, _, rfl, rfl, by simp⟩ (fun i σ H' _ ⟨_, _, _, e, _⟩ => by rw [e]; exact SqL.of h4) ?_ ?_⟩
    · rintro i x σ H' hi ⟨v1, v2, rfl, rfl, hp⟩
      obtain ⟨b, hb, rfl⟩ := refs_get hi
      obtain ⟨p, hpp, hbt⟩ := pr_get p4 hb
      obtain ⟨q, hq, rfl⟩ := pairs_at2 hpp
      have q40 := (mem_changes.mp (mem_take hq)).1
      refine ⟨b, _, rfl, SqT.of hbt, rfl, _, _, rfl, _, _, rfl, rfl, ?_⟩
      refine ⟨_, rfl, _, rfl, c, _, _, _, rfl, rfl, SqL.of hc, atI_nat (vsN_getD (by rw [hl]; exact q40)), _, rfl, _, _, rfl, rfl, _, _, rfl, rfl, _, rfl, ite_dec (fun h0 => ?_) (fun h0 => ?_)⟩
      · have e : Rc87.small (Rc87.applied r cs) = false := by
          cases ef : Rc87.small (Rc87.applied r cs) with
          | false => rfl
          | true =>
            have := (small_changes G hl hs hf).mp ef q (mem_take hq)
            have h0 : 2147483647 < ((cs.getD q.1 0 : Nat) : Int) + q.2 := h0
            omega
        rw [e] at k
        exact k
      · refine ⟨some (V.int (q.1 : Int)), some (V.int q.2), rfl, rfl, fun p hp' => ?_⟩
        rw [take_more hq, List.mem_append, List.mem_singleton] at hp'
        rcases hp' with z | z
        · exact hp p z
        · rw [z]
          have h0 : ¬ 2147483647 < ((cs.getD q.1 0 : Nat) : Int) + q.2 := h0
          omega
    · rintro σ H' ⟨v1, v2, rfl, rfl, hp⟩
      have e : Rc87.small (Rc87.applied r cs) = true := by
        rw [small_changes G hl hs hf]
        rw [List.length_map, pr_len p4, List.length_map, List.take_length] at hp
        exact hp
      rw [e] at k
      exact k

/-! ### Rule.change -/
def spChange (R : Addr) : Sp := fun vs H Q _ => ∃ (a c : Addr) (r : Rule) (cs : List Nat), vs = [.ref a, .ref c] ∧ RuleAt R H a r ∧ GoodR r ∧ H c = some (.lst (vsN cs)) ∧ cs.length = 40 ∧ Rc87.fits r cs = true ∧
  ∀ H' : Hp, (∀ b, b ≠ c → H' b = H b) → H' c = some (.lst (vsN (Rc87.applied r cs))) → Q .non H'
abbrev nChange : List Str := ["self", "counters", "at", "more"]
theorem scChange : FnScope nChange ["self", "counters"] (defScope sChange) := ⟨rfl, rfl, rfl, by decide +kernel, rfl, by decide +kernel, by decide +kernel⟩
theorem ok_change {f : Addr} {fd : FuncData} (F : Fun K "change" "Rule.change" sChange f fd) (T : Txt K mg R C) : FnOk P w K mg base CX0 1 f fd ["self", "counters"] (spChange R) := by
  refine F.ok scChange (fun vs H Q E h => ?_) (fun cdv A outer s H vs Q E hr h => ?_)
  · obtain ⟨a, c, r, cs, rfl, _⟩ := h
    rfl
  · obtain ⟨a, c, r, cs, rfl, RA, G, hc, hl, hf, k⟩ := h
    refine ⟨_, pss_one (ps_for PassesOwn.never rfl (pi_list (pe_fld (pv 0) rfl)) (pg_tup rfl (pgs_cons (pg_name (i := 2) scChange.nd rfl (.inl rfl)) (pgs_cons (pg_name (i := 3) scChange.nd rfl (.inl rfl)) pgs_nil)))
        (pss_one (ps_augS (pv 1) (pv 2) pget_list (pv 3) ip_add set_list))), ?_⟩
    obtain ⟨dx, t, g, u, d, h1, h2, h3, _, ts, h4, p4⟩ := RA.ex
    have nc : ∀ (m : List Addr) (b : Addr), H b = some (.lst (m.map V.ref)) → b ≠ c := fun m b e q => by
      rw [q, hc] at e
      exact ints_refs (l := cs.map nI) (by rw [List.length_map, hl]; decide) (Option.some.inj e)
    have tc : ∀ (b : Addr) xs, H b = some (.tup xs) → b ≠ c := fun b xs e q => by
      rw [q, hc] at e
      cases e
    refine ⟨_, rfl, a, R, dx, _, _, rfl, h1, T.clR, T.nChanges, rF_changes _ _ _ _, d, rfl, ⟨_, SqL.of h4⟩, for_list (K := K) (a := d) (xs := ts.map V.ref) (fun i σ H' => ∃ v1 v2 : Option V, σ = [some (V.ref a), some (V.ref c), v1, v2] ∧ (∀ b, b ≠ c → H' b = H b) ∧ H' c = some (.lst ((((changesL r).take i).foldl chg (cs.map nI)).map V.int)))
      ⟨_, _, rfl, fun _ _ => rfl, hc⟩ (fun i σ H' _ ⟨_, _, _, e, _⟩ => SqL.of ((e _ (nc _ _ h4)).trans h4)) ?_ ?_⟩
    · rintro i x σ H' hi ⟨v1, v2, rfl, hb', hc'⟩
      obtain ⟨b, hb, rfl⟩ := refs_get hi
      obtain ⟨p, hpp, hbt⟩ := pr_get p4 hb
      obtain ⟨q, hq, rfl⟩ := pairs_at2 hpp
      have q40 := (mem_changes.mp (mem_take hq)).1
      have hlen : (((changesL r).take i).foldl chg (cs.map nI)).length = 40 := by rw [chgs_length, List.length_map, hl]
      refine ⟨b, _, rfl, SqT.of ((hb' _ (tc _ _ hbt)).trans hbt), rfl, _, _, rfl, _, _, rfl, rfl, ?_⟩
      refine ⟨_, rfl, _, rfl, c, _, q.1, _, rfl, rfl, SqL.of hc', ints_get (by rw [hlen]; exact q40), _, rfl, _, _, rfl, rfl, c, _, _, q.1, rfl, rfl, hc', ixN_nat (by rw [List.length_map, hlen]; exact q40), ?_⟩
      refine ⟨some (V.int (q.1 : Int)), some (V.int q.2), rfl, fun b hb2 => (upd_ne hb2).trans (hb' b hb2), ?_⟩
      rw [upd_same, take_more hq, List.foldl_append, ← List.map_set]
      rfl
    · rintro σ H' ⟨v1, v2, rfl, hb', hc'⟩
      rw [List.length_map, pr_len p4, List.length_map, List.take_length, chg_all G hl hf] at hc'
      exact k H' hb' hc'

/-! ### rule_by -/
def spRuleBy (R : Addr) (K : PySem.W.Frag) : Sp := fun vs H Q _ => ∃ (a b : Addr) (l m : List Nat), vs = [.ref a, .ref b] ∧ SqL K H a (vsN l) ∧ SqL K H b (vsN m) ∧ (∀ x ∈ l, x < 40) ∧ (∀ x ∈ m, x < 40) ∧ GoodR ⟨amts l, amts m⟩ ∧
  ∀ (H' : Hp) (r : Addr), Same H H' → H r = Option.none → RuleAt R (out H H') r ⟨amts l, amts m⟩ → Q (.ref r) H'
theorem scRuleBy : FnScope ["takes", "gives"] ["takes", "gives"] (defScope sRuleBy) := ⟨rfl, rfl, rfl, by decide +kernel, rfl, by decide +kernel, by decide +kernel⟩
theorem ok_ruleBy {f : Addr} {fd : FuncData} (F : Fun K "rule_by" "rule_by" sRuleBy f fd) (T : Txt K mg R C) (GA : FnC P w K mg base "amounts_of" 1 ["counters"] (spAmts K)) (GI : MkC P w K mg base "Rule" R 1 ["self", "takes", "gives"] (spRInit R)) :
    FnOk P w K mg base CX0 3 f fd ["takes", "gives"] (spRuleBy R K) := by
  obtain ⟨fa, fda, GA, mA, kA, bA⟩ := GA
  obtain ⟨fi, fdi, MI, GI, mI, bI⟩ := GI
  refine F.ok scRuleBy (fun vs H Q E h => ?_) (fun cdv A outer s H vs Q E hr h => ?_)
  · obtain ⟨a, b, l, m, rfl, _⟩ := h
    rfl
  · obtain ⟨a, b, l, m, rfl, ha, hb, hl, hm, G, k⟩ := h
    have hr1 : Room 1 _ := hr.mono (by decide)
    refine ⟨_, pss_one (ps_ret (pe_make MI GI hr rfl mI bI .nil pass0 (pa_cons (pe_call GA hr1 rfl mA kA bA .nil pass0 (pa_cons (pv 0) pa_nil)) (pa_cons (pe_call GA hr1 rfl mA kA bA .nil pass0 (pa_cons (pv 1) pa_nil)) pa_nil)))), ?_⟩
    refine ⟨_, rfl, a, l, rfl, ha, hl, fun H1 p1 s1 n1 e1 => ?_⟩
    refine ⟨_, rfl, b, m, rfl, s1.seq hb, hm, fun H2 p2 s2 n2 e2 => ?_⟩
    intro x dx nx ndx nex
    have sx : Same H2 (upd (upd H2 dx (.own x)) x (.ins R dx [])) := fun b o e => by
      rw [upd_ne (ne_of_none e nx), upd_ne (ne_of_none e ndx)]
      exact e
    have s12 := s1.trans s2
    refine ⟨H, x, dx, p1, p2, ⟨amts l, amts m⟩, rfl, s12.trans sx, s12.free nx, n1, s1.free n2, upd_same, sx _ _ (s2 _ _ e1), sx _ _ e2, G, fun H3 k3 RA => ⟨rfl, ?_⟩⟩
    exact k H3 x (fun b o e => k3 b o (sx b o (s12 b o e)) (ne_of_none (s12 b o e) nx)) (s12.free nx) RA
end
end Fc
/-! P2: the plain law, part 2: codes, their rules. -/
namespace Fc
open Rc87 (Rule Row Abs Ins)

/-! ### rows of four -/
def quad (l : List Nat) (i : Nat) : List Nat := (l.drop (4 * i)).take 4
def quads (l : List Nat) : List (List Nat) := (List.range (l.length / 4)).map (quad l)
theorem quads_length (l : List Nat) : (quads l).length = l.length / 4 := by unfold quads; simp
theorem quads_get {l : List Nat} {i : Nat} (h : i < l.length / 4) : (quads l)[i]? = some (quad l i) := by
  unfold quads
  rw [List.getElem?_map, List.getElem?_range h]
  rfl
theorem quad_length {l : List Nat} {i : Nat} (h : i < l.length / 4) : (quad l i).length = 4 := by
  unfold quad
  rw [List.length_take, List.length_drop]
  omega
theorem quad_getD {l : List Nat} {i k : Nat} (hk : k < 4) : (quad l i).getD k 0 = l.getD (4 * i + k) 0 := by
  unfold quad
  rw [List.getD_eq_getElem?_getD, List.getD_eq_getElem?_getD, List.getElem?_take_of_lt hk, List.getElem?_drop]
theorem quads_four {l q : List Nat} (h : q ∈ quads l) : q.length = 4 := by
  unfold quads at h
  rw [List.mem_map] at h
  obtain ⟨i, hi, rfl⟩ := h
  exact quad_length (List.mem_range.mp hi)

/-! ### is it an instruction -/
def isIns (q : List Nat) (n : Nat) : Bool :=
  decide (q.getD 0 0 = 0) || (!(decide (2 < q.getD 0 0) || (decide (8 ≤ q.getD 1 0) || decide (n ≤ q.getD 2 0))) && (decide (q.getD 0 0 = 1) || decide (q.getD 3 0 < n)))
theorem isIns_eq (l : List Nat) (i n : Nat) : isIns (quad l i) n = (decide (l.getD (4 * i) 0 = 0) || (!(decide (2 < l.getD (4 * i) 0) || (decide (8 ≤ l.getD (4 * i + 1) 0) || decide (n ≤ l.getD (4 * i + 2) 0))) && (decide (l.getD (4 * i) 0 = 1) || decide (l.getD (4 * i + 3) 0 < n)))) := by
  unfold isIns
  rw [quad_getD (k := 0) (by decide), quad_getD (k := 1) (by decide), quad_getD (k := 2) (by decide), quad_getD (k := 3) (by decide)]
  rfl
theorem insOf_eq (l : List Nat) (i : Nat) : Rc87.insOf l i = if l.getD (4 * i) 0 = 0 then some .halt_ else if 8 ≤ l.getD (4 * i + 1) 0 ∨ l.length / 4 ≤ l.getD (4 * i + 2) 0 then none else
    if l.getD (4 * i) 0 = 1 then some (.more (l.getD (4 * i + 1) 0) (l.getD (4 * i + 2) 0)) else if l.getD (4 * i) 0 = 2 ∧ l.getD (4 * i + 3) 0 < l.length / 4 then some (.less (l.getD (4 * i + 1) 0) (l.getD (4 * i + 2) 0) (l.getD (4 * i + 3) 0)) else none := rfl
theorem insOf_some {l : List Nat} {i : Nat} (hi : i < l.length / 4) (h : isIns (quad l i) (l.length / 4) = true) : ∃ x, Rc87.insOf l i = some x ∧ InsIs (quad l i) x ∧ GoodI (l.length / 4) x := by
  rw [isIns_eq] at h
  rw [insOf_eq]
  have e0 : (quad l i).getD 0 0 = l.getD (4 * i) 0 := quad_getD (by decide)
  have e1 : (quad l i).getD 1 0 = l.getD (4 * i + 1) 0 := quad_getD (by decide)
  have e2 : (quad l i).getD 2 0 = l.getD (4 * i + 2) 0 := quad_getD (by decide)
  have e3 : (quad l i).getD 3 0 = l.getD (4 * i + 3) 0 := quad_getD (by decide)
  have e4 := quad_length hi
  generalize l.getD (4 * i) 0 = a at *
  generalize l.getD (4 * i + 1) 0 = r at *
  generalize l.getD (4 * i + 2) 0 = j at *
  generalize l.getD (4 * i + 3) 0 = k at *
  generalize l.length / 4 = n at *
  simp only [Bool.or_eq_true, Bool.and_eq_true, Bool.not_eq_true', Bool.or_eq_false_iff, decide_eq_true_eq, decide_eq_false_iff_not] at h
  by_cases h0 : a = 0
  · exact ⟨.halt_, by rw [if_pos h0], ⟨e4, e0.trans h0⟩, trivial⟩
  · rcases h with h | ⟨⟨h2, h3, h4⟩, h5⟩
    · exact absurd h h0
    · rw [if_neg h0, if_neg (by omega)]
      by_cases h1 : a = 1
      · exact ⟨.more r j, by rw [if_pos h1], ⟨e4, e0.trans h1, e1, e2⟩, by omega, by omega⟩
      · have h5 : k < n := by
          rcases h5 with z | z
          · exact absurd z h1
          · exact z
        exact ⟨.less r j k, by rw [if_neg h1, if_pos ⟨by omega, h5⟩], ⟨e4, e0.trans (by omega), e1, e2, e3⟩, by omega, by omega, h5⟩
theorem insOf_none {l : List Nat} {i : Nat} (h : isIns (quad l i) (l.length / 4) = false) : Rc87.insOf l i = none := by
  rw [isIns_eq] at h
  rw [insOf_eq]
  generalize l.getD (4 * i) 0 = a at *
  generalize l.getD (4 * i + 1) 0 = r at *
  generalize l.getD (4 * i + 2) 0 = j at *
  generalize l.getD (4 * i + 3) 0 = k at *
  generalize l.length / 4 = n at *
  simp only [Bool.or_eq_false_iff, Bool.and_eq_false_iff, Bool.not_eq_false', Bool.or_eq_true, decide_eq_true_eq, decide_eq_false_iff_not] at h
  obtain ⟨h0, h⟩ := h
  rw [if_neg h0]
  by_cases hr : 8 ≤ r ∨ n ≤ j
  · rw [if_pos hr]
  · rw [if_neg hr, if_neg (by omega), if_neg (by omega)]

/-! ### the code of a row -/
theorem mapM_all {f : Nat → Option Ins} {F : Nat → Ins → Prop} : ∀ l : List Nat, (∀ i ∈ l, ∃ x, f i = some x ∧ F i x) → ∃ p, l.mapM f = some p ∧ PySem.Paired F l p
  | [], _ => ⟨[], rfl, .nil⟩
  | i :: l, h => by
    obtain ⟨x, hx, hf⟩ := h i List.mem_cons_self
    obtain ⟨p, hp, pp⟩ := mapM_all l fun j hj => h j (List.mem_cons_of_mem _ hj)
    refine ⟨x :: p, ?_, .cons hf pp⟩
    rw [List.mapM_cons, hx, hp]
    rfl
theorem mapM_some {f : Nat → Option Ins} : ∀ l : List Nat, (∃ i ∈ l, f i = none) → l.mapM f = none
  | [], h => by
    obtain ⟨i, hi, _⟩ := h
    cases hi
  | i :: l, h => by
    rw [List.mapM_cons]
    cases e : f i with
    | none => rfl
    | some x =>
      obtain ⟨j, hj, hn⟩ := h
      rcases List.mem_cons.mp hj with z | z
      · rw [z, e] at hn
        cases hn
      · rw [mapM_some l ⟨j, z, hn⟩]
        rfl
theorem pr_mapL {α β γ : Type} {F : γ → β → Prop} {g : α → γ} : ∀ {l : List α} {m : List β}, PySem.Paired (fun a b => F (g a) b) l m → PySem.Paired F (l.map g) m
  | _, _, .nil => .nil
  | _, _, .cons r t => .cons r (pr_mapL t)
theorem pr_memR {α β : Type} {F : α → β → Prop} {Gd : β → Prop} : ∀ {l : List α} {m : List β}, PySem.Paired F l m → (∀ a b, F a b → Gd b) → ∀ b ∈ m, Gd b
  | _, _, .nil, _, b, h => by cases h
  | _, _, .cons r t, g, b, h => by
    rcases List.mem_cons.mp h with z | z
    · rw [z]
      exact g _ _ r
    · exact pr_memR t g b z
theorem codeOf_all {l : List Nat} (h : (quads l).all (fun q => isIns q (l.length / 4)) = true) : ∃ p, Rc87.codeOf l = some p ∧ PySem.Paired InsIs (quads l) p ∧ (∀ i ∈ p, GoodI (l.length / 4) i) ∧ p.length = l.length / 4 := by
  rw [List.all_eq_true] at h
  obtain ⟨p, hp, pp⟩ := mapM_all (f := Rc87.insOf l) (F := fun i x => InsIs (quad l i) x ∧ GoodI (l.length / 4) x) (List.range (l.length / 4)) fun i hi => by
    have hi := List.mem_range.mp hi
    exact insOf_some hi (h _ (List.mem_of_getElem? (quads_get hi)))
  refine ⟨p, hp, pr_mapL (pr_map pp fun a b z => z.1), pr_memR pp fun a b z => z.2, ?_⟩
  rw [← pr_len pp, List.length_range]
theorem codeOf_none {l : List Nat} (h : (quads l).all (fun q => isIns q (l.length / 4)) = false) : Rc87.codeOf l = none := by
  rw [List.all_eq_false] at h
  obtain ⟨q, hq, hn⟩ := h
  unfold quads at hq
  rw [List.mem_map] at hq
  obtain ⟨i, hi, rfl⟩ := hq
  exact mapM_some _ ⟨i, hi, insOf_none (by simpa using hn)⟩

/-! ### the rules of a code -/
theorem amts_one : ∀ i, i < 40 → amts [i] = Rc87.one i := by decide +kernel
theorem amts_two : ∀ i, i < 8 → ∀ k, k < 40 → 8 ≤ k → amts [i, k] = Rc87.two i k := by decide +kernel
theorem one_length (i : Nat) : (Rc87.one i).length = 40 := by unfold Rc87.one; simp [Rc87.COUNTERS]
theorem two_length (i k : Nat) : (Rc87.two i k).length = 40 := by unfold Rc87.two; simp [Rc87.COUNTERS]
theorem one_le {i x : Nat} (h : x ∈ Rc87.one i) : x ≤ 255 := by
  unfold Rc87.one at h
  rw [List.mem_map] at h
  obtain ⟨j, _, rfl⟩ := h
  split <;> omega
theorem two_le {i k x : Nat} (h : x ∈ Rc87.two i k) : x ≤ 255 := by
  unfold Rc87.two at h
  rw [List.mem_map] at h
  obtain ⟨j, _, rfl⟩ := h
  split <;> omega
theorem good_11 (i k : Nat) : GoodR ⟨Rc87.one i, Rc87.one k⟩ := ⟨one_length i, one_length k, fun _ => one_le, fun _ => one_le⟩
theorem good_12 (i j k : Nat) : GoodR ⟨Rc87.one i, Rc87.two j k⟩ := ⟨one_length i, two_length j k, fun _ => one_le, fun _ => two_le⟩
theorem good_21 (i j k : Nat) : GoodR ⟨Rc87.two i j, Rc87.one k⟩ := ⟨two_length i j, one_length k, fun _ => two_le, fun _ => one_le⟩
def insRules (x : Ins × Nat) : List Rule := match x.1 with
  | .halt_ => []
  | .more r j => [⟨Rc87.one (8 + x.2), Rc87.two r (24 + j)⟩]
  | .less r j k => [⟨Rc87.two r (8 + x.2), Rc87.one (24 + j)⟩, ⟨Rc87.one (8 + x.2), Rc87.one (24 + k)⟩]
def backRule (i : Nat) : Rule := ⟨Rc87.one (24 + i), Rc87.one (8 + i)⟩
theorem ruled_eq (p : List Ins) : Rc87.ruled p = p.zipIdx.flatMap insRules ++ (List.range p.length).map backRule := rfl
theorem insRules_length (x : Ins × Nat) : (insRules x).length ≤ 2 := by
  obtain ⟨i, n⟩ := x
  cases i <;> simp [insRules]
theorem flat_length : ∀ l : List (Ins × Nat), (l.flatMap insRules).length ≤ 2 * l.length
  | [] => Nat.le_refl _
  | x :: l => by
    rw [List.flatMap_cons, List.length_append, List.length_cons]
    have := insRules_length x
    have := flat_length l
    omega
theorem ruled_length (p : List Ins) : (Rc87.ruled p).length ≤ 3 * p.length := by
  rw [ruled_eq, List.length_append, List.length_map, List.length_range]
  have := flat_length p.zipIdx
  rw [List.length_zipIdx] at this
  omega
theorem ruled_good {p : List Ins} {r : Rule} (h : r ∈ Rc87.ruled p) : GoodR r := by
  rw [ruled_eq, List.mem_append] at h
  rcases h with h | h
  · rw [List.mem_flatMap] at h
    obtain ⟨⟨i, n⟩, _, h⟩ := h
    cases i with
    | halt_ => cases h
    | more r j =>
      simp only [insRules, List.mem_singleton] at h
      rw [h]
      exact good_12 _ _ _
    | less r j k =>
      simp only [insRules, List.mem_cons, List.not_mem_nil, or_false] at h
      rcases h with h | h
      · rw [h]
        exact good_21 _ _ _
      · rw [h]
        exact good_11 _ _
  · rw [List.mem_map] at h
    obtain ⟨i, _, rfl⟩ := h
    exact good_11 _ _
end Fc
/-! D3: code_of, is_instruction, is_code, rules_of. -/
namespace Fc
open PySem PySem.Spec PyProof.Rows L2
open Rc87 (Rule Row Abs Ins)
def rTupOf (K : PySem.W.Frag) : List V → Hp → VK → Prop := fun xs H Q => ∃ p ys, xs = [.ref p] ∧ ((SqL K H p ys ∧ ∀ l, H l = Option.none → Q (.ref l) (upd H l (.tup ys))) ∨ (SqT K H p ys ∧ Q (.ref p) H))
theorem call_tupOf {X : Cx} : CallR X (.type "tuple") (rTupOf X.K) := call_tuple_of
theorem rg4 : ∀ n : Nat, n ≤ 64 → n % 4 = 0 → Builtin.Range.small 0 (n : Int) 4 = true ∧ Builtin.Range.rangeSize 0 (n : Int) 4 = ((n / 4 : Nat) : Int) := by decide +kernel
theorem cut_quad {l : List Nat} {i : Nat} (h : i < l.length / 4) : cutV (vsN l) (some ((4 * i : Nat) : Int)) (some ((4 * i + 4 : Nat) : Int)) = vsN (quad l i) := by
  unfold cutV quad
  rw [HT.sIx_nat, HT.sIx_nat, vsN_length, Nat.min_eq_left (by omega), Nat.min_eq_left (by omega), show 4 * i + 4 - 4 * i = 4 by omega]
  unfold vsN
  rw [List.map_take, List.map_drop, List.map_take, List.map_drop]
theorem yes_of {σ : L2.St} {H : Hp} {A B : Hp → Prop} (h : A H) : tYes σ H (fun b H3 => if b = true then A H3 else B H3) := iteT (A := A H) (B := B H) h
theorem len4 {q : List Nat} (h : q.length = 4) : ∃ a b c d, q = [a, b, c, d] := by
  match q, h with
  | [a, b, c, d], _ => exact ⟨a, b, c, d, rfl⟩
section
variable {P : Program} {w : World} {K : PySem.W.Frag} {mg : Str → Option Value} {base : Heap} {R C : Addr}

/-! ### code_of -/
def spCodeOf (K : PySem.W.Frag) : Sp := fun vs H Q _ => ∃ (a : Addr) (l : List Nat), vs = [.ref a] ∧ SqL K H a (vsN l) ∧ l.length % 4 = 0 ∧ l.length ≤ 64 ∧ ∀ (H' : Hp) (p : Addr), Same H H' → H p = Option.none → QuadsAt (out H H') p (quads l) → Q (.ref p) H'
abbrev nCodeOf : List Str := ["row", "at"]
theorem scCodeOf : FnScope nCodeOf ["row"] (defScope sCodeOf) := ⟨rfl, rfl, rfl, by decide +kernel, rfl, by decide +kernel, by decide +kernel⟩
theorem ok_codeOf {f : Addr} {fd : FuncData} (F : Fun K "code_of" "code_of" sCodeOf f fd) (T : Txt K mg R C) : FnOk P w K mg base CX0 1 f fd ["row"] (spCodeOf K) := by
  refine F.ok scCodeOf (fun vs H Q E h => ?_) (fun cdv A outer s H vs Q E hr h => ?_)
  · obtain ⟨a, l, rfl, _⟩ := h
    rfl
  · obtain ⟨a, l, rfl, ha, h4, h64, k⟩ := h
    refine ⟨_, pss_one (ps_ret (pe_lc (own := [("at", 1)]) (g := gName 1) rfl scCodeOf.nd (pi_range3 (by rfl) T.range (pa_cons pe_int (pa_cons (pe_callB call_len_seq (by rfl) T.len PySem.boot_len (pa_cons (pv 0) pa_nil)) (pa_cons (pe_gint rfl T.gPARTS) pa_nil))))
          (blkOk_by (own := [("at", 1)]) (N := nCodeOf) (sc := defScope sCodeOf) (by decide +kernel))
          (fun _ _ _ _ _ => pg_name (i := 1) scCodeOf.nd rfl (.inl rfl))
          (fun _ _ _ _ _ => pts_nil)
          (fun _ _ _ _ _ => pe_callTy (r := rTupOf K) call_tupOf (by rfl) T.tuple (by decide +kernel) (pa_cons (pe_slice (r := rSlL K) sl_list (pv 0) (po_some (pv 1)) (po_some (pe_op op_add (pv 1) (pe_gint rfl T.gPARTS)))) pa_nil)))), ?_⟩
    obtain ⟨g1, g2⟩ := rg4 l.length h64 h4
    refine ⟨_, rfl, a, _, rfl, .inl ha, 0, _, 4, l.length / 4, rfl, ⟨by decide, by decide, by rw [vsN_length]; exact g1, by rw [vsN_length]; exact g2⟩, fun D hD => ?_⟩
    refine lc_it walk_rangeC (fun i H' => ∃ ks : List Addr, Same H H' ∧ H' D = some (.lst (ks.map V.ref)) ∧ Paired (fun k q => out H H' k = some (.tup (vsN q))) ks ((quads l).take i) ∧ ks.length ≤ i)
      ⟨[], upd_new hD, upd_same, .nil, Nat.le_refl _⟩ (fun _ _ _ _ => trivial) ?_ ?_
    · rintro i v H2 H1 hi ⟨ks, s1, h1, p1, l1⟩ ⟨rfl, ev⟩
      have ev : v = V.int ((4 * i : Nat) : Int) := ev.trans (congrArg V.int (show (0 : Int) + (i : Int) * 4 = ((4 * i : Nat) : Int) by omega))
      subst ev
      refine ⟨rfl, ?_⟩
      refine yes_of ?_
      refine ⟨_, rfl, _, rfl, _, rfl, _, rfl, _, _, rfl, rfl, _, rfl, a, _, rfl, s1.seq ha, fun p hp => ?_⟩
      have e2 : ((4 * i : Nat) : Int) + 4 = ((4 * i + 4 : Nat) : Int) := by omega
      rw [e2, cut_quad hi]
      refine ⟨p, _, rfl, .inl ⟨SqL.of upd_same, fun t ht => ?_⟩⟩
      have hp0 : H1 t = Option.none := (upd_new (o := .lst (vsN (quad l i))) hp).free ht
      have npD : p ≠ D := fun q => by rw [q, h1] at hp; cases hp
      have ntD : t ≠ D := fun q => by rw [q, h1] at hp0; cases hp0
      have s2 : Same H1 (upd (upd H1 p (.lst (vsN (quad l i)))) t (.tup (vsN (quad l i)))) := (upd_new hp).trans (upd_new ht)
      refine ⟨ks.map V.ref, s2 _ _ h1, small1000 (by rw [List.length_map]; omega), ks ++ [t], fun b o e => ?_, ?_, ?_, ?_⟩
      · rw [upd_ne (ne_of_none e hD)]
        exact s2 _ _ (s1 b o e)
      · rw [upd_same, List.map_append]
        rfl
      · rw [take_more (quads_get hi)]
        refine pr_snoc (pr_map p1 fun u q z => ?_) ?_
        · obtain ⟨z1, z2⟩ := out_in z
          refine out_here z1 ?_
          rw [upd_ne (ne_of z2 h1 (by intro q; cases q))]
          exact s2 _ _ z2
        · refine out_here (s1.free hp0) ?_
          rw [upd_ne ntD, upd_same]
      · rw [List.length_append, List.length_singleton]
        omega
    · rintro H1 ⟨ks, s1, h1, p1, l1⟩
      rw [List.take_of_length_le (by rw [quads_length]; exact Nat.le_refl _)] at p1
      exact k H1 D s1 hD ⟨ks, out_here hD h1, p1⟩

/-! ### is_instruction -/
def spIsIns (K : PySem.W.Frag) : Sp := fun vs H Q _ => ∃ (a : Addr) (q : List Nat) (n : Nat), vs = [.ref a, .int (n : Int)] ∧ SqT K H a (vsN q) ∧ q.length = 4 ∧ Q (.bl (isIns q n)) H
abbrev nIsIns : List Str := ["instruction", "many", "deed", "counter", "there", "other"]
theorem scIsIns : FnScope nIsIns ["instruction", "many"] (defScope sIsIns) := ⟨rfl, rfl, rfl, by decide +kernel, rfl, by decide +kernel, by decide +kernel⟩
theorem ok_isIns {f : Addr} {fd : FuncData} (F : Fun K "is_instruction" "is_instruction" sIsIns f fd) (T : Txt K mg R C) : FnOk P w K mg base CX0 1 f fd ["instruction", "many"] (spIsIns K) := by
  refine F.ok scIsIns (fun vs H Q E h => ?_) (fun cdv A outer s H vs Q E hr h => ?_)
  · obtain ⟨a, q, n, rfl, _⟩ := h
    rfl
  · obtain ⟨a, q, n, rfl, ha, hl, k⟩ := h
    obtain ⟨d, c, t, o, rfl⟩ := len4 hl
    refine ⟨_, pss_cons (ps_asg (pv 0) (pg_tup rfl (pgs_cons (pg_name (i := 2) scIsIns.nd rfl (.inl rfl)) (pgs_cons (pg_name (i := 3) scIsIns.nd rfl (.inl rfl)) (pgs_cons (pg_name (i := 4) scIsIns.nd rfl (.inl rfl)) (pgs_cons (pg_name (i := 5) scIsIns.nd rfl (.inl rfl)) pgs_nil))))))
      (pss_cons (ps_if (pt_cmpR op_eq (pv 2) (pe_gint rfl T.gSTOP) (nomark _)) (pss_one (ps_ret pe_bl)) pss_nil)
      (pss_cons (ps_if (PW.pt (pw_or (pt_cmpR op_gt (pv 2) (pe_gint rfl T.gLESS) (nomark _)) (pw_or (pt_cmpR op_ge (pv 3) (pe_gint rfl T.gREGISTERS) (nomark _)) (pw_or1 (pt_cmpR op_ge (pv 4) (pv 1) (nomark _)))))) (pss_one (ps_ret pe_bl)) pss_nil)
      (pss_one (ps_ret (pe_or (pe_cmpR op_eq (pv 2) (pe_gint rfl T.gMORE) (nomark _)) (pe_one (pe_cmpR op_lt (pv 5) (pv 1) (nomark _)))))))), ?_⟩
    have ha : SqT K H a [V.int (d : Int), V.int (c : Int), V.int (t : Int), V.int (o : Int)] := ha
    have kk : ∀ b : Bool, isIns [d, c, t, o] n = b → Q (.bl b) H := fun b e => by rw [← e]; exact k
    have ei : isIns [d, c, t, o] n = (decide (d = 0) || (!(decide (2 < d) || (decide (8 ≤ c) || decide (n ≤ t))) && (decide (d = 1) || decide (o < n)))) := rfl
    refine ⟨_, rfl, a, _, rfl, ha, rfl, _, _, rfl, _, _, rfl, _, _, rfl, _, _, rfl, rfl, ?_⟩
    refine ⟨_, rfl, rfl, _, rfl, ite_eqI (fun h0 => ?_) (fun h0 => ?_)⟩
    · exact kk true (by rw [ei, decide_eq_true (by omega)]; rfl)
    have f0 : ¬ d = 0 := by omega
    refine ⟨_, rfl, _, _, rfl, rfl, _, rfl, ite_dec (fun h1 => ?_) (fun h1 => ?_)⟩
    · exact iteT (kk false (by rw [ei, decide_eq_false f0, decide_eq_true (show 2 < d by omega)]; rfl))
    have f1 : ¬ 2 < d := by omega
    refine ⟨_, rfl, _, _, rfl, rfl, _, rfl, ite_dec (fun h2 => ?_) (fun h2 => ?_)⟩
    · exact iteT (kk false (by rw [ei, decide_eq_false f0, decide_eq_false f1, decide_eq_true (show 8 ≤ c by omega)]; rfl))
    have f2 : ¬ 8 ≤ c := by omega
    refine ⟨_, rfl, _, rfl, _, _, rfl, rfl, _, rfl, ?_⟩
    refine ite_dec (fun h3 => ?_) (fun h3 => ?_)
    · exact kk false (by rw [ei, decide_eq_false f0, decide_eq_false f1, decide_eq_false f2, decide_eq_true (show n ≤ t by omega)]; rfl)
    have f3 : ¬ n ≤ t := by omega
    refine ⟨_, rfl, rfl, _, rfl, ite_eqI (fun h4 => ?_) (fun h4 => ?_)⟩
    · exact kk true (by rw [ei, decide_eq_false f0, decide_eq_false f1, decide_eq_false f2, decide_eq_false f3, decide_eq_true (show d = 1 by omega)]; rfl)
    · refine ⟨_, rfl, _, rfl, _, _, rfl, rfl, ?_⟩
      refine kk (decide ((o : Int) < (n : Int))) ?_
      rw [ei, decide_eq_false f0, decide_eq_false f1, decide_eq_false f2, decide_eq_false f3, decide_eq_false (show ¬ d = 1 by omega)]
      show decide (o < n) = decide ((o : Int) < (n : Int))
      exact decide_eq_decide.mpr (by omega)

/-! ### is_code -/
def spIsCode (K : PySem.W.Frag) : Sp := fun vs H Q _ => ∃ (p : Addr) (qs : List (List Nat)), vs = [.ref p] ∧ QuadsAt H p qs ∧ (∀ q ∈ qs, q.length = 4) ∧ Q (.bl (qs.all fun q => isIns q qs.length)) H
abbrev nIsCode : List Str := ["code", "instruction"]
theorem scIsCode : FnScope nIsCode ["code"] (defScope sIsCode) := ⟨rfl, rfl, rfl, by decide +kernel, rfl, by decide +kernel, by decide +kernel⟩
theorem ok_isCode {f : Addr} {fd : FuncData} (F : Fun K "is_code" "is_code" sIsCode f fd) (T : Txt K mg R C) (GI : FnC P w K mg base "is_instruction" 1 ["instruction", "many"] (spIsIns K)) : FnOk P w K mg base CX0 2 f fd ["code"] (spIsCode K) := by
  obtain ⟨fi, fdi, GI, mI, kI, bI⟩ := GI
  refine F.ok scIsCode (fun vs H Q E h => ?_) (fun cdv A outer s H vs Q E hr h => ?_)
  · obtain ⟨p, qs, rfl, _⟩ := h
    rfl
  · obtain ⟨p, qs, rfl, ⟨ks, h1, p1⟩, h4, k⟩ := h
    refine ⟨_, pss_cons (ps_for PassesOwn.never rfl (pi_list (pv 0)) (pg_name (i := 1) scIsCode.nd rfl (.inl rfl))
        (pss_one (ps_if (pt_not (pt_val (pe_call GI hr rfl mI kI bI .nil pass0 (pa_cons (pv 1) (pa_cons (pe_callB call_len_seq (by rfl) T.len PySem.boot_len (pa_cons (pv 0) pa_nil)) pa_nil))))) (pss_one (ps_ret pe_bl)) pss_nil)))
      (pss_one (ps_ret pe_bl)), ?_⟩
    have hlk : ks.length = qs.length := pr_len p1
    refine ⟨_, rfl, p, rfl, ⟨_, SqL.of h1⟩, for_list (K := K) (a := p) (xs := ks.map V.ref) (fun i σ H' => ∃ v : Option V, σ = [some (V.ref p), v] ∧ H' = H ∧ ∀ q ∈ qs.take i, isIns q qs.length = true)
      ⟨_, rfl, rfl, by simp⟩ (fun i σ H' _ ⟨_, _, e, _⟩ => by rw [e]; exact SqL.of h1) ?_ ?_⟩
    · rintro i x σ H' hi ⟨v, rfl, rfl, hp⟩
      obtain ⟨b, hb, rfl⟩ := refs_get hi
      obtain ⟨q, hq, hbt⟩ := pr_get p1 hb
      refine ⟨_, rfl, _, rfl, p, _, rfl, .inl (SqL.of h1), b, q, qs.length, ?_, SqT.of hbt, h4 q (mem_take hq), _, rfl, ?_⟩
      · rw [List.length_map, hlk]
        rfl
      · cases e : isIns q qs.length with
        | false =>
          refine iteT ?_
          rw [show (qs.all fun q => isIns q qs.length) = false by
            rw [List.all_eq_false]
            exact ⟨q, mem_take hq, by rw [e]; decide⟩] at k
          exact k
        | true =>
          refine iteF ⟨_, rfl, rfl, fun q' hq' => ?_⟩
          rw [take_more hq, List.mem_append, List.mem_singleton] at hq'
          rcases hq' with z | z
          · exact hp q' z
          · rw [z]
            exact e
    · rintro σ H' ⟨v, rfl, rfl, hp⟩
      rw [List.length_map, hlk, List.take_length] at hp
      rw [show (qs.all fun q => isIns q qs.length) = true by
        rw [List.all_eq_true]
        exact hp] at k
      exact k

/-! ### rules_of -/
def RulesIn (R : Addr) (Hb H : Hp) (p : Addr) (rs : List Addr) (rules : List Rule) : Prop :=
  H p = some (.lst (rs.map V.ref)) ∧ ∃ O : Hp, Same O H ∧ O p = Option.none ∧ (∀ b o, O b = some o → Hb b = Option.none) ∧ Paired (RuleAt R O) rs rules
theorem RulesIn.mono {R p : Addr} {Hb H H' : Hp} {rs : List Addr} {rules : List Rule} (h : RulesIn R Hb H p rs rules) (s : Same H H') : RulesIn R Hb H' p rs rules := by
  obtain ⟨h1, O, h2, h3, h4, h5⟩ := h
  exact ⟨s _ _ h1, O, h2.trans s, h3, h4, h5⟩
theorem RulesIn.grow {R p r : Addr} {Hb H H1 : Hp} {rs : List Addr} {rules : List Rule} {rule : Rule} (h : RulesIn R Hb H p rs rules) (sB : Same Hb H) (s : Same H H1) (RA : RuleAt R (out H H1) r rule) : RulesIn R Hb (upd H1 p (.lst (rs.map V.ref ++ [V.ref r]))) p (rs ++ [r]) (rules ++ [rule]) := by
  obtain ⟨h1, O, h2, h3, h4, h5⟩ := h
  refine ⟨by rw [upd_same, List.map_append]; rfl, uni O (out H H1), fun b o e => ?_, ?_, fun b o e => ?_, ?_⟩
  · rcases uni_in e with z | z
    · rw [upd_ne (fun q => by rw [q, h3] at z; cases z)]
      exact s _ _ (h2 _ _ z)
    · obtain ⟨z1, z2⟩ := out_in z
      rw [upd_ne (fun q => by rw [q, h1] at z1; cases z1)]
      exact z2
  · refine uni_none h3 ?_
    unfold out
    rw [h1]
  · rcases uni_in e with z | z
    · exact h4 _ _ z
    · exact sB.free (out_in z).1
  · refine pr_snoc (pr_map h5 fun a b z => z.mono uni_left) (RA.mono (uni_right fun b o e => .inr ?_))
    unfold out
    rw [h2 _ _ e]
theorem read_rule {D : Ends} {σ : L2.St} {H Hb : Hp} {q : Addr} {rs : List Addr} {rules : List Rule} {t1 t2 : TE} {l m : List Nat} {a b : List Nat} (hσ : σ[1]? = some (some (V.ref q)))
    (h1 : ∀ H Q, (∀ p, H p = Option.none → Q (.ref p) (upd H p (.lst (vsN l)))) → t1 σ H Q) (h2 : ∀ H Q, (∀ p, H p = Option.none → Q (.ref p) (upd H p (.lst (vsN m)))) → t2 σ H Q)
    (RI : RulesIn R Hb H q rs rules) (sB : Same Hb H) (hl : ∀ x ∈ l, x < 40) (hm : ∀ x ∈ m, x < 40) (ea : amts l = a) (eb : amts m = b) (G : GoodR ⟨a, b⟩) (len : rs.length ≤ 100)
    (k : ∀ (H' : Hp) (r : Addr), (∀ b o, H b = some o → b ≠ q → H' b = some o) → RulesIn R Hb H' q (rs ++ [r]) (rules ++ [⟨a, b⟩]) → D.nx σ H') :
    tDrop (tBM K "list" rAppend (tVar 1) (tCons (tCall (spRuleBy R K) [] E0 (tCons t1 (tCons t2 tNil))) tNil)) D σ H := by
  subst ea
  subst eb
  refine ⟨_, hσ, .inl ⟨rfl, _, SqL.of RI.1⟩, ?_⟩
  refine h1 _ _ fun p1 n1 => h2 _ _ fun p2 n2 => ?_
  have s1 : Same H (upd H p1 (.lst (vsN l))) := upd_new n1
  have s2 : Same (upd H p1 (.lst (vsN l))) (upd (upd H p1 (.lst (vsN l))) p2 (.lst (vsN m))) := upd_new n2
  refine ⟨p1, p2, l, m, rfl, SqL.of (s2 _ _ upd_same), SqL.of upd_same, hl, hm, G, fun H' r s3 n3 RA => ?_⟩
  have s12 := s1.trans s2
  have RI2 := RI.mono s12
  refine ⟨q, _, V.ref r, rfl, rfl, s3 _ _ RI2.1, small1000 (by rw [List.length_map]; omega), ?_⟩
  refine k _ r (fun b o e ne => ?_) (RI2.grow (sB.trans s12) s3 RA)
  rw [upd_ne ne]
  exact s3 _ _ (s12 _ _ e)
def spRulesOf (R : Addr) : Sp := fun vs H Q _ => ∃ (p : Addr) (qs : List (List Nat)) (code : List Ins), vs = [.ref p] ∧ QuadsAt H p qs ∧ Paired InsIs qs code ∧ (∀ i ∈ code, GoodI code.length i) ∧ code.length ≤ 16 ∧
  ∀ (H' : Hp) (p' : Addr) (rs : List Addr), Same H H' → H p' = Option.none → RulesIn R H H' p' rs (Rc87.ruled code) → Q (.ref p') H'
abbrev nRulesOf : List Str := ["code", "found", "at", "deed", "counter", "there", "other"]
theorem scRulesOf : FnScope nRulesOf ["code"] (defScope sRulesOf) := ⟨rfl, rfl, rfl, by decide +kernel, rfl, by decide +kernel, by decide +kernel⟩
theorem one_new {σ : L2.St} {te : TE} {x : Nat} (h : ∀ H Q, Q (V.int (x : Int)) H → te σ H Q) : ∀ H Q, (∀ p, H p = Option.none → Q (.ref p) (upd H p (.lst (vsN [x])))) → tLst (tCons te tNil) σ H Q := fun H Q k =>
  h H _ ⟨(show 1 ≤ sizeLine by decide), k⟩
theorem two_new {σ : L2.St} {te tf : TE} {x y : Nat} (h : ∀ H Q, Q (V.int (x : Int)) H → te σ H Q) (h' : ∀ H Q, Q (V.int (y : Int)) H → tf σ H Q) : ∀ H Q, (∀ p, H p = Option.none → Q (.ref p) (upd H p (.lst (vsN [x, y])))) → tLst (tCons te (tCons tf tNil)) σ H Q := fun H Q k =>
  h H _ (h' H _ ⟨(show 2 ≤ sizeLine by decide), k⟩)
theorem sum_nat {σ : L2.St} {i : Nat} {c x : Nat} {z : Nat} (e : σ[i]? = some (some (V.int (x : Int)))) (ez : c + x = z) : ∀ H Q, Q (V.int (z : Int)) H → tOp (rI0 fun i j => .int (i + j)) (tC (.int (c : Int))) (tVar i) σ H Q := fun H Q k =>
  ⟨_, e, _, _, rfl, rfl, by
    show Q (V.int ((c : Int) + (x : Int))) H
    rw [show (c : Int) + (x : Int) = (z : Int) by omega]
    exact k⟩
theorem var_nat {σ : L2.St} {i : Nat} {x : Nat} (e : σ[i]? = some (some (V.int (x : Int)))) : ∀ H Q, Q (V.int (x : Int)) H → tVar i σ H Q := fun H Q k => ⟨_, e, k⟩
theorem ok_rulesOf {f : Addr} {fd : FuncData} (F : Fun K "rules_of" "rules_of" sRulesOf f fd) (T : Txt K mg R C) (GB : FnC P w K mg base "rule_by" 3 ["takes", "gives"] (spRuleBy R K)) : FnOk P w K mg base CX0 4 f fd ["code"] (spRulesOf R) := by
  obtain ⟨fb, fdb, GB, mB, kB, bB⟩ := GB
  refine F.ok scRulesOf (fun vs H Q E h => ?_) (fun cdv A outer s H vs Q E hr h => ?_)
  · obtain ⟨p, qs, code, rfl, _⟩ := h
    rfl
  · obtain ⟨p, qs, code, rfl, ⟨ks, h1, p1⟩, pc, gc, l16, k⟩ := h
    refine ⟨_, pss_cons (ps_set (i := 1) scRulesOf.nd rfl (Or.inl rfl) (pe_lst pa_nil))
      (pss_cons (ps_for PassesOwn.never rfl (pi_enum (by rfl) T.enumerate (pa_cons (pv 0) pa_nil))
        (pg_tup rfl (pgs_cons (pg_name (i := 2) scRulesOf.nd rfl (.inl rfl)) (pgs_cons (pg_tup rfl (pgs_cons (pg_name (i := 3) scRulesOf.nd rfl (.inl rfl)) (pgs_cons (pg_name (i := 4) scRulesOf.nd rfl (.inl rfl)) (pgs_cons (pg_name (i := 5) scRulesOf.nd rfl (.inl rfl)) (pgs_cons (pg_name (i := 6) scRulesOf.nd rfl (.inl rfl)) pgs_nil))))) pgs_nil)))
        (pss_cons (ps_if (pt_cmpR op_eq (pv 3) (pe_gint rfl T.gMORE) (nomark _))
            (pss_one (ps_expr (pe_bm PySem.F.plainAttrs_list PySem.F.slot_list_append PySem.F.type_list_append mt_append (pv 1) (pa_cons (pe_call GB hr rfl mB kB bB .nil pass0 (pa_cons (pe_lst (pa_cons (pe_op op_add (pe_gint rfl T.gNOW) (pv 2)) pa_nil)) (pa_cons (pe_lst (pa_cons (pv 4) (pa_cons (pe_op op_add (pe_gint rfl T.gNEXT) (pv 5)) pa_nil))) pa_nil))) pa_nil)))) pss_nil)
          (pss_one (ps_if (pt_cmpR op_eq (pv 3) (pe_gint rfl T.gLESS) (nomark _))
            (pss_cons (ps_expr (pe_bm PySem.F.plainAttrs_list PySem.F.slot_list_append PySem.F.type_list_append mt_append (pv 1) (pa_cons (pe_call GB hr rfl mB kB bB .nil pass0 (pa_cons (pe_lst (pa_cons (pv 4) (pa_cons (pe_op op_add (pe_gint rfl T.gNOW) (pv 2)) pa_nil))) (pa_cons (pe_lst (pa_cons (pe_op op_add (pe_gint rfl T.gNEXT) (pv 5)) pa_nil)) pa_nil))) pa_nil)))
              (pss_one (ps_expr (pe_bm PySem.F.plainAttrs_list PySem.F.slot_list_append PySem.F.type_list_append mt_append (pv 1) (pa_cons (pe_call GB hr rfl mB kB bB .nil pass0 (pa_cons (pe_lst (pa_cons (pe_op op_add (pe_gint rfl T.gNOW) (pv 2)) pa_nil)) (pa_cons (pe_lst (pa_cons (pe_op op_add (pe_gint rfl T.gNEXT) (pv 6)) pa_nil)) pa_nil))) pa_nil))))) pss_nil))))
      (pss_cons (ps_for PassesOwn.never rfl (pi_range1 (by rfl) T.range (pa_cons (pe_callB call_len_seq (by rfl) T.len PySem.boot_len (pa_cons (pv 0) pa_nil)) pa_nil)) (pg_name (i := 2) scRulesOf.nd rfl (.inl rfl))
        (pss_one (ps_expr (pe_bm PySem.F.plainAttrs_list PySem.F.slot_list_append PySem.F.type_list_append mt_append (pv 1) (pa_cons (pe_call GB hr rfl mB kB bB .nil pass0 (pa_cons (pe_lst (pa_cons (pe_op op_add (pe_gint rfl T.gNEXT) (pv 2)) pa_nil)) (pa_cons (pe_lst (pa_cons (pe_op op_add (pe_gint rfl T.gNOW) (pv 2)) pa_nil)) pa_nil))) pa_nil)))))
      (pss_one (ps_ret (pv 1))))), ?_⟩
    refine ⟨Nat.zero_le _, fun q hq => ?_⟩
    have hlk : ks.length = code.length := (pr_len p1).trans (pr_len pc)
    have s0 : Same H (upd H q (.lst [])) := upd_new hq
    refine ⟨_, rfl, p, _, rfl, SqL.of (s0 _ _ h1), ?_⟩
    refine for_it (walk_enum (K := K) (a := p) (xs := ks.map V.ref)) (fun i σ H' => ∃ (rs : List Addr) (v2 v3 v4 v5 v6 : Option V), σ = [some (V.ref p), some (V.ref q), v2, v3, v4, v5, v6] ∧ Same H H' ∧ RulesIn R H H' q rs ((code.zipIdx.take i).flatMap insRules) ∧ rs.length ≤ 2 * i)
      ⟨[], _, _, _, _, _, rfl, s0, ⟨upd_same, fun _ => Option.none, fun b o e => (by cases e), rfl, fun b o e => (by cases e), .nil⟩, Nat.le_refl _⟩ (fun i σ H' _ ⟨_, _, _, _, _, _, _, s1, _⟩ => SqL.of (s1 _ _ h1)) ?_ ?_
    · rintro i v σ H1 H2 hi ⟨rs, v2, v3, v4, v5, v6, rfl, s1, RI, lr⟩ ⟨t, x, y, rfl, ht, rfl, hx, hy⟩
      have ex : x = V.int (i : Nat) := (Option.some.inj hx).symm
      subst ex
      obtain ⟨b, hb, rfl⟩ := refs_get hy
      obtain ⟨u, hu, hbt⟩ := pr_get p1 hb
      obtain ⟨ins, hins, hI⟩ := pr_get pc hu
      have hic : i < code.length := (List.getElem?_eq_some_iff.mp hins).1
      obtain ⟨d, c, tt, o, rfl⟩ := len4 hI.1
      have hz : code.zipIdx[i]? = some (ins, i) := by
        rw [List.getElem?_zipIdx, hins]
        simp
      have s2 : Same H1 (upd H1 t (.tup [V.int (i : Nat), V.ref b])) := upd_new ht
      have s12 := s1.trans s2
      have RI2 := RI.mono s2
      have gi := gc ins (mem_take hins)
      have hbt' : H b = some (.tup [V.int (d : Int), V.int (c : Int), V.int (tt : Int), V.int (o : Int)]) := hbt
      rw [take_more hz, List.flatMap_append]
      refine ⟨t, _, rfl, SqT.of upd_same, rfl, _, _, rfl, _, _, rfl, ⟨b, _, rfl, SqT.of (s12 _ _ hbt'), rfl, _, _, rfl, _, _, rfl, _, _, rfl, _, _, rfl, rfl, ?_⟩⟩
      refine ⟨rfl, ?_⟩
      have same : ∀ {H' : Hp}, (∀ b' o', upd H1 t (.tup [V.int (i : Nat), V.ref b]) b' = some o' → b' ≠ q → H' b' = some o') → Same H H' := fun kp b' o' e => kp b' o' (s12 b' o' e) (ne_of_none e hq)
      have m1 : ∀ x : Nat, x < 40 → ∀ y ∈ [x], y < 40 := fun x h y hy => by
        rw [List.mem_singleton.mp hy]
        exact h
      have m2 : ∀ x z : Nat, x < 40 → z < 40 → ∀ y ∈ [x, z], y < 40 := fun x z h h' y hy => by
        rcases List.mem_cons.mp hy with e | e
        · rw [e]
          exact h
        · rw [List.mem_singleton.mp e]
          exact h'
      refine ⟨_, rfl, rfl, _, rfl, ite_eqI (fun h0 => ?_) (fun h0 => ?_)⟩
      · cases ins with
        | halt_ =>
          have z : d = 0 := hI.2
          omega
        | less r j k' =>
          have z : d = 2 := hI.2.1
          omega
        | more r j =>
          obtain ⟨-, z1, z2, z3⟩ := hI
          have z2 : c = r := z2
          have z3 : tt = j := z3
          subst z2
          subst z3
          have g1 : c < 8 := gi.1
          have g2 : tt < code.length := gi.2
          refine read_rule (l := [8 + i]) (m := [c, 24 + tt]) rfl (one_new (sum_nat rfl rfl)) (two_new (var_nat rfl) (sum_nat rfl rfl)) RI2 s12 (m1 _ (by omega)) (m2 _ _ (by omega) (by omega)) (amts_one _ (by omega)) (amts_two _ g1 _ (by omega) (by omega)) (good_12 _ _ _) (by omega) fun H' r' kp RI' => ?_
          refine ⟨_, rfl, rfl, _, rfl, ite_eqI (fun h => by omega) (fun _ => ?_)⟩
          exact ⟨rs ++ [r'], _, _, _, _, _, rfl, same kp, RI', by rw [List.length_append, List.length_singleton]; omega⟩
      · refine ⟨_, rfl, rfl, _, rfl, ite_eqI (fun h1 => ?_) (fun h1 => ?_)⟩
        · cases ins with
          | halt_ =>
            have z : d = 0 := hI.2
            omega
          | more r j =>
            have z : d = 1 := hI.2.1
            omega
          | less r j k' =>
            obtain ⟨-, z1, z2, z3, z4⟩ := hI
            have z2 : c = r := z2
            have z3 : tt = j := z3
            have z4 : o = k' := z4
            subst z2
            subst z3
            subst z4
            have g1 : c < 8 := gi.1
            have g2 : tt < code.length := gi.2.1
            have g3 : o < code.length := gi.2.2
            refine read_rule (l := [c, 8 + i]) (m := [24 + tt]) rfl (two_new (var_nat rfl) (sum_nat rfl rfl)) (one_new (sum_nat rfl rfl)) RI2 s12 (m2 _ _ (by omega) (by omega)) (m1 _ (by omega)) (amts_two _ g1 _ (by omega) (by omega)) (amts_one _ (by omega)) (good_21 _ _ _) (by omega) fun H' r' kp RI' => ?_
            refine read_rule (l := [8 + i]) (m := [24 + o]) rfl (one_new (sum_nat rfl rfl)) (one_new (sum_nat rfl rfl)) RI' (same kp) (m1 _ (by omega)) (m1 _ (by omega)) (amts_one _ (by omega)) (amts_one _ (by omega)) (good_11 _ _) (by rw [List.length_append, List.length_singleton]; omega) fun H'' r'' kp' RI'' => ?_
            refine ⟨rs ++ [r'] ++ [r''], _, _, _, _, _, rfl, fun b' o' e => kp' b' o' (same kp b' o' e) (ne_of_none e hq), ?_, by rw [List.length_append, List.length_append, List.length_singleton, List.length_singleton]; omega⟩
            rw [List.append_assoc ((code.zipIdx.take i).flatMap insRules) [(⟨Rc87.two c (8 + i), Rc87.one (24 + tt)⟩ : Rule)] [⟨Rc87.one (8 + i), Rc87.one (24 + o)⟩]] at RI''
            exact RI''
        · cases ins with
          | halt_ =>
            refine ⟨rs, _, _, _, _, _, rfl, s12, ?_, by omega⟩
            show RulesIn R H _ q rs (_ ++ [])
            rw [List.append_nil]
            exact RI2
          | more r j =>
            have z : d = 1 := hI.2.1
            omega
          | less r j k' =>
            have z : d = 2 := hI.2.1
            omega
    · rintro σ H1 ⟨rs, v2, v3, v4, v5, v6, rfl, s1, RI, lr⟩
      rw [List.length_map, hlk, List.take_of_length_le (by rw [List.length_zipIdx]; exact Nat.le_refl _)] at RI
      rw [List.length_map, hlk] at lr
      refine ⟨_, rfl, p, _, rfl, .inl (SqL.of (s1 _ _ h1)), ?_⟩
      refine ⟨_, rfl, by rw [List.length_map, hlk]; omega, by rw [List.length_map, hlk]; omega, ?_⟩
      rw [List.length_map, hlk]
      refine for_range (lo := 0) (n := code.length) (fun i σ H' => ∃ (rs : List Addr) (v2 : Option V), σ = [some (V.ref p), some (V.ref q), v2, v3, v4, v5, v6] ∧ Same H H' ∧ RulesIn R H H' q rs (code.zipIdx.flatMap insRules ++ (List.range i).map backRule) ∧ rs.length ≤ 2 * code.length + i)
        ⟨rs, _, rfl, s1, by simpa using RI, by omega⟩ ?_ ?_
      · rintro i σ H2 hi ⟨rs, w2, rfl, s2, RI, lr⟩
        rw [Int.zero_add]
        have m1 : ∀ x : Nat, x < 40 → ∀ y ∈ [x], y < 40 := fun x h y hy => by
          rw [List.mem_singleton.mp hy]
          exact h
        refine read_rule (l := [24 + i]) (m := [8 + i]) rfl (one_new (sum_nat rfl rfl)) (one_new (sum_nat rfl rfl)) RI s2 (m1 _ (by omega)) (m1 _ (by omega)) (amts_one _ (by omega)) (amts_one _ (by omega)) (good_11 _ _) (by omega) fun H' r' kp RI' => ?_
        refine ⟨rs ++ [r'], _, rfl, fun b' o' e => kp b' o' (s2 b' o' e) (ne_of_none e hq), ?_, by rw [List.length_append, List.length_singleton]; omega⟩
        rw [List.range_succ, List.map_append, ← List.append_assoc]
        exact RI'
      · rintro σ H2 ⟨rs, w2, rfl, s2, RI, lr⟩
        refine ⟨_, rfl, ?_⟩
        rw [← ruled_eq] at RI
        exact k H2 q rs s2 hq RI
end
end Fc
/-! P3: the plain law, part 3: what each call answers and makes of the state. -/
namespace Fc
open Rc87 (Rule Row Abs Ins Ans)
def ans (a : Ans) : List Int := a.value :: a.numbers.map fun (b : Nat) => (b : Int)

/-! ### rule -/
theorem fill_length {c : List Nat} (h : c.length ≤ 40) : (fill c).length = 40 := by
  unfold fill
  rw [List.length_append, List.length_replicate]
  omega
theorem fill_get {c : List Nat} {i : Nat} (h : i < 40) : (fill c)[i]? = some (if i < c.length then c.getD i 0 else 0) := by
  unfold fill
  by_cases hi : i < c.length
  · rw [List.getElem?_append_left hi, if_pos hi, get_of hi]
  · rw [List.getElem?_append_right (by omega), if_neg hi, List.getElem?_replicate_of_lt (by omega)]
theorem fill_le {c : List Nat} (h : ∀ x ∈ c, x ≤ 255) : ∀ x ∈ fill c, x ≤ 255 := fun x hx => by
  unfold fill at hx
  rcases List.mem_append.mp hx with z | z
  · exact h x z
  · rw [(List.mem_replicate.mp z).2]
    omega
theorem halves_eq {l : List Nat} (h2 : l.length % 2 = 0) (h80 : l.length ≤ 80) : Rc87.halves l = ⟨fill (l.take (l.length / 2)), fill (l.drop (l.length / 2))⟩ := by
  unfold Rc87.halves
  rw [show Rc87.COUNTERS = 40 from rfl]
  congr 1
  · refine List.ext_getElem? fun i => ?_
    by_cases hi : i < 40
    · rw [List.getElem?_map, List.getElem?_range hi, fill_get hi, List.length_take]
      show some (if 2 * i < l.length then l.getD i 0 else 0) = _
      by_cases h : 2 * i < l.length
      · rw [if_pos h, if_pos (by omega), List.getD_eq_getElem?_getD, List.getD_eq_getElem?_getD, List.getElem?_take_of_lt (by omega)]
      · rw [if_neg h, if_neg (by omega)]
    · rw [List.getElem?_eq_none (by simp; omega), List.getElem?_eq_none (by rw [fill_length (by rw [List.length_take]; omega)]; omega)]
  · refine List.ext_getElem? fun i => ?_
    by_cases hi : i < 40
    · rw [List.getElem?_map, List.getElem?_range hi, fill_get hi, List.length_drop]
      show some (if 2 * i < l.length then l.getD (l.length / 2 + i) 0 else 0) = _
      by_cases h : 2 * i < l.length
      · rw [if_pos h, if_pos (by omega), List.getD_eq_getElem?_getD, List.getD_eq_getElem?_getD, List.getElem?_drop]
      · rw [if_neg h, if_neg (by omega)]
    · rw [List.getElem?_eq_none (by simp; omega), List.getElem?_eq_none (by rw [fill_length (by rw [List.length_drop]; omega)]; omega)]
theorem halves_good {l : List Nat} (h2 : l.length % 2 = 0) (h80 : l.length ≤ 80) (h : ∀ x ∈ l, x ≤ 255) : GoodR (Rc87.halves l) := by
  rw [halves_eq h2 h80]
  exact ⟨fill_length (by rw [List.length_take]; omega), fill_length (by rw [List.length_drop]; omega), fill_le fun x hx => h x (List.mem_of_mem_take hx), fill_le fun x hx => h x (List.mem_of_mem_drop hx)⟩
theorem rule_test {l : List Nat} (h80 : l.length ≤ 80) : (Rc87.between (l.length : Int) 0 (2 * Rc87.COUNTERS) && (((l.length : Int)).toNat % 2 == 0 && l.length == ((l.length : Int)).toNat)) = decide (l.length % 2 = 0) := by
  have e1 : Rc87.between (l.length : Int) 0 (2 * Rc87.COUNTERS) = true := by
    unfold Rc87.between Rc87.COUNTERS
    rw [decide_eq_true (by omega), decide_eq_true (by omega)]
    rfl
  rw [e1, Int.toNat_natCast]
  simp [BEq.beq]
theorem does_rule_odd {s : Abs} {l : List Nat} (h80 : l.length ≤ 80) (h2 : ¬ l.length % 2 = 0) : Rc87.does s (.rule l (l.length : Int)) = (s, { value := -1 }) := by
  show (if _ = false then _ else _) = _
  rw [rule_test h80, decide_eq_false h2, if_pos rfl]
  rfl
theorem does_rule_full {s : Abs} {l : List Nat} (h80 : l.length ≤ 80) (h2 : l.length % 2 = 0) (hr : 64 ≤ s.rules.length) : Rc87.does s (.rule l (l.length : Int)) = (s, { value := -2 }) := by
  show (if _ = false then _ else _) = _
  rw [rule_test h80, decide_eq_true h2, if_neg (by decide), if_pos (show Rc87.RULES ≤ s.rules.length from hr)]
theorem does_rule_ok {s : Abs} {l : List Nat} (h80 : l.length ≤ 80) (h2 : l.length % 2 = 0) (hr : ¬ 64 ≤ s.rules.length) : Rc87.does s (.rule l (l.length : Int)) = ({ s with rules := s.rules ++ [Rc87.halves l] }, { value := ((s.rules.length + 1 : Nat) : Int) }) := by
  show (if _ = false then _ else _) = _
  rw [rule_test h80, decide_eq_true h2, if_neg (by decide), if_neg (show ¬ Rc87.RULES ≤ s.rules.length from hr)]

/-! ### put, get -/
theorem does_put_no {s : Abs} {i v : Int} (h : ¬ (0 ≤ i ∧ i < 40) ∨ v < 0) : Rc87.does s (.put i v) = (s, { value := -1 }) := by
  show (if (Rc87.below i Rc87.COUNTERS && Rc87.between v 0 Rc87.HIGH) = false then _ else _) = _
  rw [if_pos]
  · rfl
  · unfold Rc87.below Rc87.between Rc87.COUNTERS
    simp only [Bool.and_eq_false_iff, decide_eq_false_iff_not]
    omega
theorem does_put_ok {s : Abs} {i v : Int} (h : 0 ≤ i ∧ i < 40) (hv : 0 ≤ v) (hv' : v ≤ 2147483647) : Rc87.does s (.put i v) = ({ s with counters := s.counters.set i.toNat v.toNat }, { value := 0 }) := by
  show (if (Rc87.below i Rc87.COUNTERS && Rc87.between v 0 Rc87.HIGH) = false then _ else _) = _
  rw [if_neg]
  · rfl
  · unfold Rc87.below Rc87.between Rc87.COUNTERS Rc87.HIGH
    simp only [Bool.and_eq_false_iff, decide_eq_false_iff_not]
    omega
theorem does_get_no {s : Abs} {i : Int} (h : ¬ (0 ≤ i ∧ i < 40)) : Rc87.does s (.get i) = (s, { value := -1 }) := by
  show (if Rc87.below i Rc87.COUNTERS = false then _ else _) = _
  rw [if_pos]
  · rfl
  · unfold Rc87.below Rc87.COUNTERS
    simp only [Bool.and_eq_false_iff, decide_eq_false_iff_not]
    omega
theorem does_get_ok {s : Abs} {i : Int} (h : 0 ≤ i ∧ i < 40) : Rc87.does s (.get i) = (s, { value := ((s.counters.getD i.toNat 0 : Nat) : Int) }) := by
  show (if Rc87.below i Rc87.COUNTERS = false then _ else _) = _
  rw [if_neg]
  · rfl
  · unfold Rc87.below Rc87.COUNTERS
    simp only [Bool.and_eq_false_iff, decide_eq_false_iff_not]
    omega

/-! ### step, run, alone -/
theorem does_step_none {s : Abs} (h : Rc87.next s.rules s.counters = none) : Rc87.does s .step = (s, { value := -2 }) := by
  show (match Rc87.next s.rules s.counters, Rc87.step s.rules s.counters with
    | some i, some d => _
    | _, _ => _) = _
  rw [h]
theorem does_step_big {s : Abs} {i : Nat} {d : Row} (h : Rc87.next s.rules s.counters = some i) (hd : Rc87.step s.rules s.counters = some d) (hs : Rc87.small d = false) : Rc87.does s .step = (s, { value := -3 }) := by
  show (match Rc87.next s.rules s.counters, Rc87.step s.rules s.counters with
    | some i, some d => if Rc87.small d = false then _ else _
    | _, _ => _) = _
  rw [h, hd]
  show (if Rc87.small d = false then _ else _) = _
  rw [if_pos hs]
theorem does_step_ok {s : Abs} {i : Nat} {d : Row} (h : Rc87.next s.rules s.counters = some i) (hd : Rc87.step s.rules s.counters = some d) (hs : Rc87.small d = true) : Rc87.does s .step = ({ s with counters := d }, { value := (i : Int) }) := by
  show (match Rc87.next s.rules s.counters, Rc87.step s.rules s.counters with
    | some i, some d => if Rc87.small d = false then _ else _
    | _, _ => _) = _
  rw [h, hd]
  show (if Rc87.small d = false then _ else _) = _
  rw [if_neg (by rw [hs]; decide)]
/-- run and alone in one: al is the counter that may be told -/
def isAl (al : Option Nat) (d : Row) : Bool := match al with
  | none => false
  | some i => Rc87.others d i
def runG (l : List Rule) (al : Option Nat) : Nat → Row → Nat × Nat × Row
  | 0, c => (0, 0, c)
  | k + 1, c => match Rc87.step l c with
    | none => (1, 0, c)
    | some d => if Rc87.small d = false then (2, 0, c) else if isAl al d = true then (3, 1, d) else ((runG l al k d).1, (runG l al k d).2.1 + 1, (runG l al k d).2.2)
theorem runG_none (l : List Rule) : ∀ k c, runG l none k c = Rc87.runs l k c
  | 0, _ => rfl
  | k + 1, c => by
    unfold runG Rc87.runs
    cases Rc87.step l c with
    | none => rfl
    | some d =>
      show (if Rc87.small d = false then _ else if isAl none d = true then _ else _) = (if Rc87.small d = false then _ else _)
      rw [runG_none l k d]
      rfl
theorem runG_some (l : List Rule) (i : Nat) : ∀ k c, runG l (some i) k c = Rc87.till l i k c
  | 0, _ => rfl
  | k + 1, c => by
    unfold runG Rc87.till
    cases Rc87.step l c with
    | none => rfl
    | some d =>
      show (if Rc87.small d = false then _ else if isAl (some i) d = true then _ else _) = (if Rc87.small d = false then _ else if Rc87.others d i = true then _ else _)
      rw [runG_some l i k d]
      rfl
theorem runG_stop {l : List Rule} {al : Option Nat} {k : Nat} {c : Row} (h : Rc87.step l c = none) : runG l al (k + 1) c = (1, 0, c) := by
  unfold runG
  rw [h]
theorem runG_big {l : List Rule} {al : Option Nat} {k : Nat} {c d : Row} (h : Rc87.step l c = some d) (hs : Rc87.small d = false) : runG l al (k + 1) c = (2, 0, c) := by
  unfold runG
  rw [h]
  show (if Rc87.small d = false then _ else _) = _
  rw [if_pos hs]
theorem runG_al {l : List Rule} {al : Option Nat} {k : Nat} {c d : Row} (h : Rc87.step l c = some d) (hs : Rc87.small d = true) (ha : isAl al d = true) : runG l al (k + 1) c = (3, 1, d) := by
  unfold runG
  rw [h]
  show (if Rc87.small d = false then _ else if isAl al d = true then _ else _) = _
  rw [if_neg (by rw [hs]; decide), if_pos ha]
theorem runG_go {l : List Rule} {al : Option Nat} {k : Nat} {c d : Row} (h : Rc87.step l c = some d) (hs : Rc87.small d = true) (ha : isAl al d = false) : runG l al (k + 1) c = ((runG l al k d).1, (runG l al k d).2.1 + 1, (runG l al k d).2.2) := by
  conv => lhs; unfold runG
  rw [h]
  show (if Rc87.small d = false then _ else if isAl al d = true then _ else _) = _
  rw [if_neg (by rw [hs]; decide), if_neg (by rw [ha]; decide)]
theorem long_test {k : Int} : Rc87.between k 0 Rc87.LONG = decide (0 ≤ k ∧ k ≤ 1000000000) := by
  unfold Rc87.between Rc87.LONG
  rw [← Bool.decide_and]
  rfl
theorem below_test {i : Int} : Rc87.below i Rc87.COUNTERS = decide (0 ≤ i ∧ i < 40) := by
  unfold Rc87.below Rc87.COUNTERS
  rw [← Bool.decide_and]
  rfl
theorem does_run_no {s : Abs} {k : Int} (h : ¬ (0 ≤ k ∧ k ≤ 1000000000)) : Rc87.does s (.run k) = (s, { value := -1 }) := by
  show (if Rc87.between k 0 Rc87.LONG = false then _ else _) = _
  rw [long_test, decide_eq_false h, if_pos rfl]
  rfl
theorem does_run_ok {s : Abs} {k : Int} (h : 0 ≤ k ∧ k ≤ 1000000000) : Rc87.does s (.run k) = ({ s with counters := (runG s.rules none k.toNat s.counters).2.2 }, { value := ((runG s.rules none k.toNat s.counters).1 : Nat), numbers := [(runG s.rules none k.toNat s.counters).2.1] }) := by
  show (if Rc87.between k 0 Rc87.LONG = false then _ else _) = _
  rw [long_test, decide_eq_true h, if_neg (by decide), runG_none]
theorem does_alone_no {s : Abs} {i k : Int} (h : ¬ (0 ≤ i ∧ i < 40) ∨ ¬ (0 ≤ k ∧ k ≤ 1000000000)) : Rc87.does s (.alone i k) = (s, { value := -1 }) := by
  show (if (Rc87.below i Rc87.COUNTERS && Rc87.between k 0 Rc87.LONG) = false then _ else _) = _
  rw [long_test, below_test, if_pos]
  · rfl
  · simp only [Bool.and_eq_false_iff, decide_eq_false_iff_not]
    exact h
theorem does_alone_ok {s : Abs} {i k : Int} (hi : 0 ≤ i ∧ i < 40) (h : 0 ≤ k ∧ k ≤ 1000000000) : Rc87.does s (.alone i k) = ({ s with counters := (runG s.rules (some i.toNat) k.toNat s.counters).2.2 }, { value := ((runG s.rules (some i.toNat) k.toNat s.counters).1 : Nat), numbers := [(runG s.rules (some i.toNat) k.toNat s.counters).2.1] }) := by
  show (if (Rc87.below i Rc87.COUNTERS && Rc87.between k 0 Rc87.LONG) = false then _ else _) = _
  rw [long_test, below_test, decide_eq_true h, decide_eq_true hi, if_neg (by decide), runG_some]

/-! ### number, ratio -/
theorem number_lt {c : List Nat} (h : c.length = 40) : Rc87.number c < W64 := by
  rw [← numTo_all h]
  exact numTo_lt c 40
theorem does_number {s : Abs} (h : s.counters.length = 40) : Rc87.does s .number = (s, { value := 0, numbers := [Rc87.number s.counters] }) := by
  show (s, ({ value := 0, numbers := [Rc87.number s.counters % Rc87.BIG] } : Ans)) = _
  rw [big_eq, Nat.mod_eq_of_lt (number_lt h)]
theorem does_ratio_no {s : Abs} {i : Int} (h : i < 0 ∨ (s.rules.length : Int) ≤ i) : Rc87.does s (.ratio i) = (s, { value := -1 }) := by
  show (match s.rules[i.toNat]? with
    | some r => if i < 0 then (s, Rc87.refused) else Rc87.tells s [Rc87.number r.give, Rc87.number r.take]
    | none => (s, Rc87.refused)) = _
  cases e : s.rules[i.toNat]? with
  | none => rfl
  | some r =>
    have hl := (List.getElem?_eq_some_iff.mp e).1
    show (if i < 0 then _ else _) = _
    rw [if_pos (by omega)]
    rfl
theorem does_ratio_ok {s : Abs} {i : Int} {r : Rule} (h : 0 ≤ i) (hr : s.rules[i.toNat]? = some r) (G : GoodR r) : Rc87.does s (.ratio i) = (s, { value := 0, numbers := [Rc87.number r.give, Rc87.number r.take] }) := by
  show (match s.rules[i.toNat]? with
    | some r => if i < 0 then (s, Rc87.refused) else Rc87.tells s [Rc87.number r.give, Rc87.number r.take]
    | none => (s, Rc87.refused)) = _
  rw [hr]
  show (if i < 0 then _ else (s, ({ value := 0, numbers := [Rc87.number r.give % Rc87.BIG, Rc87.number r.take % Rc87.BIG] } : Ans))) = _
  rw [if_neg (by omega), big_eq, Nat.mod_eq_of_lt (number_lt G.gl), Nat.mod_eq_of_lt (number_lt G.tl)]

/-! ### code, made -/
theorem code_test {l : List Nat} (h64 : l.length ≤ 64) : (Rc87.between (l.length : Int) 0 (4 * Rc87.CODE) && (((l.length : Int)).toNat % 4 == 0 && l.length == ((l.length : Int)).toNat)) = decide (l.length % 4 = 0) := by
  have e1 : Rc87.between (l.length : Int) 0 (4 * Rc87.CODE) = true := by
    unfold Rc87.between Rc87.CODE
    rw [decide_eq_true (by omega), decide_eq_true (by omega)]
    rfl
  rw [e1, Int.toNat_natCast]
  simp [BEq.beq]
theorem does_code_odd {s : Abs} {l : List Nat} (h64 : l.length ≤ 64) (h4 : ¬ l.length % 4 = 0) : Rc87.does s (.code l (l.length : Int)) = (s, { value := -1 }) := by
  show (if _ = false then _ else _) = _
  rw [code_test h64, decide_eq_false h4, if_pos rfl]
  rfl
theorem does_code_no {s : Abs} {l : List Nat} (h64 : l.length ≤ 64) (h4 : l.length % 4 = 0) (h : Rc87.codeOf l = none) : Rc87.does s (.code l (l.length : Int)) = (s, { value := -2 }) := by
  show (if _ = false then _ else match Rc87.codeOf l with
    | some p => _
    | none => _) = _
  rw [code_test h64, decide_eq_true h4, if_neg (by decide), h]
theorem does_code_ok {s : Abs} {l : List Nat} {p : List Ins} (h64 : l.length ≤ 64) (h4 : l.length % 4 = 0) (h : Rc87.codeOf l = some p) : Rc87.does s (.code l (l.length : Int)) = ({ s with code := p, at_ := 0 }, { value := (p.length : Nat) }) := by
  show (if _ = false then _ else match Rc87.codeOf l with
    | some p => _
    | none => _) = _
  rw [code_test h64, decide_eq_true h4, if_neg (by decide), h]
def madeS (s : Abs) : Abs := { s with rules := Rc87.ruled s.code, counters := Rc87.shown (s.at_, s.counters) }
theorem does_made {s : Abs} : Rc87.does s .made = (madeS s, { value := ((Rc87.ruled s.code).length : Nat) }) := rfl
/-- counters from 8 to 8 + i - 1 are 0 -/
def zeros (c : List Nat) (i : Nat) : List Nat := (List.range 40).map fun j => if 8 ≤ j ∧ j < 8 + i then 0 else c.getD j 0
theorem zeros_length (c : List Nat) (i : Nat) : (zeros c i).length = 40 := by unfold zeros; simp
theorem zeros_zero {c : List Nat} (h : c.length = 40) : zeros c 0 = c := by
  refine List.ext_getElem? fun i => ?_
  unfold zeros
  by_cases hi : i < 40
  · rw [List.getElem?_map, List.getElem?_range hi, get_of (by omega)]
    show some (if 8 ≤ i ∧ i < 8 then _ else _) = _
    rw [if_neg (by omega)]
  · rw [List.getElem?_eq_none (by simp; omega), List.getElem?_eq_none (by omega)]
theorem zeros_succ (c : List Nat) {i : Nat} (h : i < 32) : (zeros c i).set (8 + i) 0 = zeros c (i + 1) := by
  refine List.ext_getElem? fun j => ?_
  by_cases hj : j < 40
  · unfold zeros
    by_cases e : 8 + i = j
    · subst e
      rw [List.getElem?_set_self (by simp; omega), List.getElem?_map, List.getElem?_range hj]
      show _ = some (if 8 ≤ 8 + i ∧ 8 + i < 8 + (i + 1) then _ else _)
      rw [if_pos (by omega)]
    · rw [List.getElem?_set_ne e, List.getElem?_map, List.getElem?_map, List.getElem?_range hj]
      show some (if 8 ≤ j ∧ j < 8 + i then _ else _) = some (if 8 ≤ j ∧ j < 8 + (i + 1) then _ else _)
      by_cases h2 : 8 ≤ j ∧ j < 8 + i
      · rw [if_pos h2, if_pos (by omega)]
      · rw [if_neg h2, if_neg (by omega)]
  · rw [List.getElem?_eq_none (by rw [List.length_set, zeros_length]; omega), List.getElem?_eq_none (by rw [zeros_length]; omega)]
theorem zeros_all (c : List Nat) {n : Nat} (h : n < 16) : (zeros c 32).set (8 + n) 1 = Rc87.shown (n, c) := by
  refine List.ext_getElem? fun j => ?_
  unfold Rc87.shown
  rw [show Rc87.COUNTERS = 40 from rfl]
  by_cases hj : j < 40
  · unfold zeros
    by_cases e : 8 + n = j
    · subst e
      rw [List.getElem?_set_self (by simp; omega), List.getElem?_map, List.getElem?_range hj]
      show _ = some (if 8 + n < 8 then _ else if 8 + n = 8 + n then 1 else 0)
      rw [if_neg (by omega), if_pos rfl]
    · rw [List.getElem?_set_ne e, List.getElem?_map, List.getElem?_map, List.getElem?_range hj]
      show some (if 8 ≤ j ∧ j < 8 + 32 then 0 else c.getD j 0) = some (if j < 8 then c.getD j 0 else if j = 8 + n then 1 else 0)
      by_cases h2 : j < 8
      · rw [if_pos h2, if_neg (by omega)]
      · rw [if_neg h2, if_pos (by omega), if_neg (by omega)]
  · rw [List.getElem?_eq_none (by rw [List.length_set, zeros_length]; omega), List.getElem?_eq_none (by simp; omega)]

/-! ### go -/
theorem does_go_no {s : Abs} {k : Int} (h : ¬ (0 ≤ k ∧ k ≤ 1000000000)) : Rc87.does s (.go k) = (s, { value := -1 }) := by
  show (if Rc87.between k 0 Rc87.LONG = false then _ else _) = _
  rw [long_test, decide_eq_false h, if_pos rfl]
  rfl
theorem does_go_ok {s : Abs} {k : Int} (h : 0 ≤ k ∧ k ≤ 1000000000) : Rc87.does s (.go k) = ({ s with at_ := (Rc87.gone s.code k.toNat (s.at_, s.counters)).2.2.1, counters := (Rc87.gone s.code k.toNat (s.at_, s.counters)).2.2.2 },
    { value := ((Rc87.gone s.code k.toNat (s.at_, s.counters)).1 : Nat), numbers := [(Rc87.gone s.code k.toNat (s.at_, s.counters)).2.1] }) := by
  show (if Rc87.between k 0 Rc87.LONG = false then _ else _) = _
  rw [long_test, decide_eq_true h, if_neg (by decide)]
/-- one instruction: why none is done, or 0; and where it is then -/
def insDone (s : Abs) : Nat × Abs := match Rc87.does1 s.code (s.at_, s.counters) with
  | none => (1, s)
  | some y => if Rc87.small y.2 = false then (2, s) else (0, { s with at_ := y.1, counters := y.2 })
theorem insDone_code (s : Abs) : (insDone s).2.code = s.code := by
  unfold insDone
  split
  · rfl
  · split <;> rfl
theorem gone_stop {s : Abs} {k : Nat} (h : (insDone s).1 ≠ 0) : Rc87.gone s.code (k + 1) (s.at_, s.counters) = ((insDone s).1, 0, (s.at_, s.counters)) ∧ (insDone s).2 = s := by
  conv => lhs; lhs; unfold Rc87.gone
  unfold insDone at *
  cases e : Rc87.does1 s.code (s.at_, s.counters) with
  | none => exact ⟨rfl, rfl⟩
  | some y =>
    rw [e] at h
    simp only at h ⊢
    by_cases hs : Rc87.small y.2 = false
    · simp only [if_pos hs]
      exact ⟨trivial, trivial⟩
    · rw [if_neg hs] at h
      exact absurd rfl h
theorem gone_more {s : Abs} {k : Nat} (h : (insDone s).1 = 0) : Rc87.gone s.code (k + 1) (s.at_, s.counters) =
    ((Rc87.gone s.code k ((insDone s).2.at_, (insDone s).2.counters)).1, (Rc87.gone s.code k ((insDone s).2.at_, (insDone s).2.counters)).2.1 + 1, (Rc87.gone s.code k ((insDone s).2.at_, (insDone s).2.counters)).2.2) := by
  conv => lhs; unfold Rc87.gone
  unfold insDone at *
  cases e : Rc87.does1 s.code (s.at_, s.counters) with
  | none =>
    rw [e] at h
    cases h
  | some y =>
    rw [e] at h
    simp only at h ⊢
    by_cases hs : Rc87.small y.2 = false
    · rw [if_pos hs] at h
      cases h
    · simp only [if_neg hs]
end Fc
/-! P4: the state stays good; the state in the heap, seen and changed. -/
namespace Fc
open Rc87 (Rule Row Abs Ins Ans)
theorem good_new : Good {} := ⟨rfl, by decide, by decide, fun r h => (by cases h), by decide, fun i h => (by cases h), .inr ⟨rfl, rfl⟩⟩
theorem good_counters {s : Abs} (G : Good s) {d : List Nat} (h1 : d.length = 40) (h2 : Rc87.small d = true) : Good { s with counters := d } := ⟨h1, h2, G.rl, G.rs, G.kl, G.ks, G.at_⟩
theorem good_rule {s : Abs} (G : Good s) {r : Rule} (h : GoodR r) (hl : ¬ 64 ≤ s.rules.length) : Good { s with rules := s.rules ++ [r] } :=
  ⟨G.cl, G.cs, by show (s.rules ++ [r]).length ≤ 64
                  rw [List.length_append, List.length_singleton]; omega, fun r' hr => by
    rcases List.mem_append.mp hr with z | z
    · exact G.rs r' z
    · rw [List.mem_singleton.mp z]
      exact h, G.kl, G.ks, G.at_⟩
theorem small_set {c : List Nat} {i v : Nat} (h : Rc87.small c = true) (hv : v ≤ 2147483647) : Rc87.small (c.set i v) = true := by
  unfold Rc87.small at *
  rw [List.all_eq_true] at *
  intro x hx
  rcases List.mem_or_eq_of_mem_set hx with z | z
  · exact h x z
  · rw [z]
    exact decide_eq_true hv
theorem good_put {s : Abs} (G : Good s) {i v : Nat} (hv : v ≤ 2147483647) : Good { s with counters := s.counters.set i v } := good_counters G (by rw [List.length_set]; exact G.cl) (small_set G.cs hv)
theorem good_code {s : Abs} (G : Good s) {p : List Ins} (h : ∀ i ∈ p, GoodI p.length i) (hl : p.length ≤ 16) : Good { s with code := p, at_ := 0 } := by
  refine ⟨G.cl, G.cs, G.rl, G.rs, hl, h, ?_⟩
  cases p with
  | nil => exact .inr ⟨rfl, rfl⟩
  | cons a p => exact .inl (Nat.succ_pos _)
theorem at_lt {s : Abs} (G : Good s) : s.at_ < 16 := by
  have := G.kl
  rcases G.at_ with h | ⟨h, _⟩ <;> omega
theorem shown_length (x : Rc87.Config) : (Rc87.shown x).length = 40 := by unfold Rc87.shown; simp [Rc87.COUNTERS]
theorem shown_small {n : Nat} {c : List Nat} (h : Rc87.small c = true) (hc : c.length = 40) : Rc87.small (Rc87.shown (n, c)) = true := by
  unfold Rc87.small
  rw [List.all_eq_true]
  intro x hx
  unfold Rc87.shown at hx
  rw [List.mem_map] at hx
  obtain ⟨j, hj, rfl⟩ := hx
  have hj := List.mem_range.mp hj
  show decide ((if j < 8 then c.getD j 0 else if j = 8 + n then 1 else 0) ≤ 2147483647) = true
  have q := (small_iff hc).mp h j hj
  unfold Rc87.HIGH at q
  refine decide_eq_true ?_
  split
  · exact q
  · split <;> omega
theorem good_made {s : Abs} (G : Good s) : Good (madeS s) := by
  refine ⟨shown_length _, shown_small G.cs G.cl, ?_, fun r h => ruled_good h, G.kl, G.ks, G.at_⟩
  have := ruled_length s.code
  have := G.kl
  show (Rc87.ruled s.code).length ≤ 64
  omega
theorem runG_good {l : List Rule} {al : Option Nat} (hl : ∀ r ∈ l, GoodR r) : ∀ k (c : Row), c.length = 40 → Rc87.small c = true → (runG l al k c).2.2.length = 40 ∧ Rc87.small (runG l al k c).2.2 = true
  | 0, _, h, hs => ⟨h, hs⟩
  | k + 1, c, h, hs => by
    cases e : Rc87.step l c with
    | none =>
      rw [runG_stop e]
      exact ⟨h, hs⟩
    | some d =>
      have hd : d.length = 40 := by
        unfold Rc87.step at e
        rw [Option.map_eq_some_iff] at e
        obtain ⟨r, hr, rfl⟩ := e
        exact applied_length (hl r (List.mem_of_find?_eq_some hr)) h
      by_cases sd : Rc87.small d = true
      · by_cases ha : isAl al d = true
        · rw [runG_al e sd ha]
          exact ⟨hd, sd⟩
        · rw [runG_go e sd (by simpa using ha)]
          exact runG_good hl k d hd sd
      · rw [runG_big e (by simpa using sd)]
        exact ⟨h, hs⟩

/-! ### the state in the heap -/
open PySem PySem.Spec PyProof.Rows L2
/-- what a method wants: the state seen, and how it is changed -/
theorem St.view {R C : Addr} {B H : Hp} {x : Addr} {s : Abs} (h : St R C B H x s) : ∃ (dx lc lr lk : Addr) (rs : List Addr) (qs : List (List Nat)),
    H x = some (.ins C dx (cF lc lr lk s.at_)) ∧ H lc = some (.lst (vsN s.counters)) ∧ H lr = some (.lst (rs.map V.ref)) ∧ Paired (RuleAt R H) rs s.rules ∧ QuadsAt H lk qs ∧ Paired InsIs qs s.code ∧
    (∀ (H' : Hp) (d : List Nat), (∀ b, b ≠ lc → H' b = H b) → H' lc = some (.lst (vsN d)) → Good { s with counters := d } → St R C B H' x { s with counters := d }) ∧
    (∀ (H' : Hp) (n : Nat), (∀ b, b ≠ x → H' b = H b) → H' x = some (.ins C dx (cF lc lr lk n)) → Good { s with at_ := n } → St R C B H' x { s with at_ := n }) := by
  obtain ⟨O, dx, lc, lr, lk, rs, qs, h1, h2, h3, h4, h5, h6, h7, h8, h9, h10, h11, h12, h13⟩ := h.ex
  have nxc : x ≠ lc := ne_of h8 h9 (by intro q; cases q)
  have nxr : x ≠ lr := ne_of h8 h10 (by intro q; cases q)
  have nrc : lr ≠ lc := fun q => by
    rw [q, h9] at h10
    exact ints_refs (l := s.counters.map nI) (by rw [List.length_map, h.good.cl]; decide) (Option.some.inj h10)
  refine ⟨dx, lc, lr, lk, rs, qs, h8, h9, h10, pr_map h11 fun a b z => z.mono h1, h12.mono h1, h13, fun H' d k e G => ?_, fun H' n k e G => ?_⟩
  · have nO : ∀ {b o}, O b = some o → b ≠ lc := fun {b o} e q => by rw [q, h4] at e; cases e
    have nB : ∀ {b o}, B b = some o → b ≠ lc := fun {b o} e q => by rw [q, h6] at e; cases e
    exact ⟨G, fun b o e => (k b (nB e)).trans (h.sB b o e), h.Bx, O, dx, lc, lr, lk, rs, qs, fun b o e => (k b (nO e)).trans (h1 b o e), h2, h3, h4, h5, h6, h7, (k x nxc).trans h8, e, (k lr nrc).trans h10, h11, h12, h13⟩
  · have nO : ∀ {b o}, O b = some o → b ≠ x := fun {b o} e q => by rw [q, h3] at e; cases e
    have nB : ∀ {b o}, B b = some o → b ≠ x := fun {b o} e q => by rw [q, h.Bx] at e; cases e
    exact ⟨G, fun b o e => (k b (nB e)).trans (h.sB b o e), h.Bx, O, dx, lc, lr, lk, rs, qs, fun b o e => (k b (nO e)).trans (h1 b o e), h2, h3, h4, h5, h6, h7, e, (k lc nxc.symm).trans h9, (k lr nxr.symm).trans h10, h11, h12, h13⟩
/-- what a method of the machine is to hand back: the answer of the call -/
def Post (R C : Addr) (B : Hp) (x : Addr) (s : Abs) (c : Rc87.Call) (Q : VK) : Prop :=
  ∀ (H' : Hp) (p : Addr), St R C B H' x (Rc87.does s c).1 → B p = Option.none → H' p = some (.lst ((ans (Rc87.does s c).2).map V.int)) → Q (.ref p) H'
theorem Post.use {R C : Addr} {B : Hp} {x : Addr} {s s' : Abs} {c : Rc87.Call} {Q : VK} {a : Ans} (k : Post R C B x s c Q) (e : Rc87.does s c = (s', a)) {H : Hp} {p : Addr} (S : St R C B H x s') (hp : H p = Option.none) : Q (.ref p) (upd H p (.lst ((ans a).map V.int))) := by
  unfold Post at k
  rw [e] at k
  exact k _ p (S.mono (upd_new hp)) (S.sB.free hp) upd_same
end Fc
/-! D4: Counting: __init__, add_rule, put, get. -/
namespace Fc
open PySem PySem.Spec PyProof.Rows L2
open Rc87 (Rule Row Abs Ins)
section
variable {P : Program} {w : World} {K : PySem.W.Frag} {mg : Str → Option Value} {base : Heap} {R C : Addr}

/-! ### Counting.__init__ -/
def spCInit (R C : Addr) : Sp := fun vs H Q _ => ∃ (x dx : Addr), vs = [.ref x] ∧ H x = some (.ins C dx []) ∧ ∀ H' : Hp, (∀ b o, H b = some o → b ≠ x → H' b = some o) → (∀ B : Hp, Same B H → B x = Option.none → St R C B H' x {}) → Q .non H'
theorem scCInit : FnScope ["self"] ["self"] (defScope sCInit) := ⟨rfl, rfl, rfl, by decide +kernel, rfl, by decide +kernel, by decide +kernel⟩
theorem ok_cInit {f : Addr} {fd : FuncData} (F : Fun K "__init__" "Counting.__init__" sCInit f fd) (T : Txt K mg R C) : FnOk P w K mg base CX0 1 f fd ["self"] (spCInit R C) := by
  refine F.ok scCInit (fun vs H Q E h => ?_) (fun cdv A outer s H vs Q E hr h => ?_)
  · obtain ⟨x, dx, rfl, _⟩ := h
    rfl
  · obtain ⟨x, dx, rfl, hx, k⟩ := h
    refine ⟨_, pss_cons (ps_fld (pv 0) (pe_op op_rep (pe_lst (pa_cons pe_int pa_nil)) (pe_gint rfl T.gCOUNTERS)) rfl) (pss_cons (ps_fld (pv 0) (pe_lst pa_nil) rfl) (pss_cons (ps_fld (pv 0) (pe_lst pa_nil) rfl) (pss_one (ps_fld (pv 0) pe_int rfl)))), ?_⟩
    refine ⟨(by show 1 ≤ sizeLine; decide), fun p hp => ?_⟩
    refine ⟨p, _, _, rfl, rfl, upd_same, (by decide), (by decide), (by show 1 * 40 ≤ sizeLine; decide), fun lc hc => ?_⟩
    have s2 : Same H (upd (upd H p (.lst [V.int 0])) lc (.lst (List.replicate (40 : Int).toNat [V.int 0]).flatten)) := (upd_new hp).trans (upd_new hc)
    have c2 : upd (upd H p (.lst [V.int 0])) lc (.lst (List.replicate (40 : Int).toNat [V.int 0]).flatten) lc = some (.lst (vsN (List.replicate 40 0))) := by
      rw [upd_same, rep_one, vsN_zeros]
      rfl
    have hc0 : H lc = Option.none := (upd_new (o := .lst [V.int 0]) hp).free hc
    generalize upd (upd H p (.lst [V.int 0])) lc (.lst (List.replicate (40 : Int).toNat [V.int 0]).flatten) = H2 at s2 c2 ⊢
    refine ⟨_, rfl, x, C, dx, [], rfl, s2 _ _ hx, T.clC, T.nCounters, (by show 0 < 1000; decide), ?_⟩
    have nxc : x ≠ lc := ne_of_none hx hc0
    have s3 : ∀ b o, H b = some o → b ≠ x → upd H2 x (.ins C dx (putF "counters" (.ref lc) [])) b = some o := fun b o e ne => by
      rw [upd_ne ne]
      exact s2 b o e
    have c3 : upd H2 x (.ins C dx (putF "counters" (.ref lc) [])) lc = some (.lst (vsN (List.replicate 40 0))) := by
      rw [upd_ne nxc.symm]
      exact c2
    have x3 : upd H2 x (.ins C dx (putF "counters" (.ref lc) [])) x = some (.ins C dx (putF "counters" (.ref lc) [])) := upd_same
    generalize upd H2 x (.ins C dx (putF "counters" (.ref lc) [])) = H3 at s3 c3 x3 ⊢
    refine ⟨Nat.zero_le _, fun lr hlr => ?_⟩
    have nxr : x ≠ lr := ne_of_none x3 hlr
    have ncr : lc ≠ lr := ne_of_none c3 hlr
    refine ⟨_, rfl, x, C, dx, _, rfl, upd_new hlr _ _ x3, T.clC, T.nRules, (by show 1 < 1000; decide), ?_⟩
    have s4 : ∀ b o, H b = some o → b ≠ x → upd (upd H3 lr (.lst [])) x (.ins C dx (putF "rules" (.ref lr) (putF "counters" (.ref lc) []))) b = some o := fun b o e ne => by
      rw [upd_ne ne]
      exact upd_new hlr _ _ (s3 b o e ne)
    have c4 : upd (upd H3 lr (.lst [])) x (.ins C dx (putF "rules" (.ref lr) (putF "counters" (.ref lc) []))) lc = some (.lst (vsN (List.replicate 40 0))) := by
      rw [upd_ne nxc.symm]
      exact upd_new hlr _ _ c3
    have r4 : upd (upd H3 lr (.lst [])) x (.ins C dx (putF "rules" (.ref lr) (putF "counters" (.ref lc) []))) lr = some (.lst []) := by rw [upd_ne nxr.symm, upd_same]
    have x4 : upd (upd H3 lr (.lst [])) x (.ins C dx (putF "rules" (.ref lr) (putF "counters" (.ref lc) []))) x = some (.ins C dx (putF "rules" (.ref lr) (putF "counters" (.ref lc) []))) := upd_same
    have hr0 : H lr = Option.none := by
      cases e : H lr with
      | none => rfl
      | some o =>
        rw [s3 lr o e nxr.symm] at hlr
        cases hlr
    generalize upd (upd H3 lr (.lst [])) x (.ins C dx (putF "rules" (.ref lr) (putF "counters" (.ref lc) []))) = H4 at s4 c4 r4 x4 ⊢
    refine ⟨Nat.zero_le _, fun lk hlk => ?_⟩
    have nxk : x ≠ lk := ne_of_none x4 hlk
    have nck : lc ≠ lk := ne_of_none c4 hlk
    have nrk : lr ≠ lk := ne_of_none r4 hlk
    have hk0 : H lk = Option.none := by
      cases e : H lk with
      | none => rfl
      | some o =>
        rw [s4 lk o e nxk.symm] at hlk
        cases hlk
    refine ⟨_, rfl, x, C, dx, _, rfl, upd_new hlk _ _ x4, T.clC, T.nCode, (by show 2 < 1000; decide), ?_⟩
    refine ⟨_, rfl, x, C, dx, _, rfl, upd_same, T.clC, T.nAt, (by show 3 < 1000; decide), ?_⟩
    have st : ∀ b o, upd H4 lk (.lst []) b = some o → b ≠ x → upd (upd (upd H4 lk (.lst [])) x (.ins C dx (putF "code" (.ref lk) (putF "rules" (.ref lr) (putF "counters" (.ref lc) []))))) x (.ins C dx (putF "at" (.int 0) (putF "code" (.ref lk) (putF "rules" (.ref lr) (putF "counters" (.ref lc) []))))) b = some o := fun b o e ne => by
      rw [upd_ne ne, upd_ne ne]
      exact e
    refine k _ (fun b o e ne => st b o (upd_new hlk _ _ (s4 b o e ne)) ne) fun B sB Bx => ?_
    refine ⟨good_new, fun b o e => st b o (upd_new hlk _ _ (s4 b o (sB b o e) (ne_of_none e Bx))) (ne_of_none e Bx), Bx, upd (fun _ => Option.none) lk (.lst []), dx, lc, lr, lk, [], [], fun b o e => ?_, fun b o e => ?_, ?_, ?_, ?_, sB.free hc0, sB.free hr0, ?_, ?_, ?_, .nil, ⟨[], upd_same, .nil⟩, .nil⟩
    · by_cases hb : b = lk
      · subst hb
        rw [upd_same] at e
        cases e
        exact st _ _ upd_same nxk.symm
      · rw [upd_ne hb] at e
        cases e
    · by_cases hb : b = lk
      · subst hb
        exact sB.free hk0
      · rw [upd_ne hb] at e
        cases e
    · rw [upd_ne nxk]
    · rw [upd_ne nck]
    · rw [upd_ne nrk]
    · rw [upd_same]
      exact congrArg (fun q => some (HO.ins C dx q)) (cF_new lc lr lk 0)
    · exact st _ _ (upd_new hlk _ _ c4) nxc.symm
    · exact st _ _ (upd_new hlk _ _ r4) nxr.symm

/-! ### put, get -/
def spPut (R C : Addr) : Sp := fun vs H Q _ => ∃ (B : Hp) (x : Addr) (s : Abs) (i v : Int), vs = [.ref x, .int i, .int v] ∧ St R C B H x s ∧ v ≤ 2147483647 ∧ Post R C B x s (.put i v) Q
abbrev nPut : List Str := ["self", "number", "amount"]
theorem scPut : FnScope nPut nPut (defScope sPut) := ⟨rfl, rfl, rfl, by decide +kernel, rfl, by decide +kernel, by decide +kernel⟩
theorem ok_put {f : Addr} {fd : FuncData} (F : Fun K "put" "Counting.put" sPut f fd) (T : Txt K mg R C) (GI : FnC P w K mg base "is_counter" 1 ["number"] spIsCounter) : FnOk P w K mg base CX0 2 f fd nPut (spPut R C) := by
  obtain ⟨fi, fdi, GI, mI, kI, bI⟩ := GI
  refine F.ok scPut (fun vs H Q E h => ?_) (fun cdv A outer s H vs Q E hr h => ?_)
  · obtain ⟨B, x, s, i, v, rfl, _⟩ := h
    rfl
  · obtain ⟨B, x, s, i, v, rfl, S, hv, k⟩ := h
    refine ⟨_, pss_cons (ps_if (PW.pt (pw_or (pt_not (pt_val (pe_call GI hr rfl mI kI bI .nil pass0 (pa_cons (pv 1) pa_nil)))) (pw_or1 (pt_cmpR op_lt (pv 2) pe_int (nomark _))))) (pss_one (ps_ret (pe_lst (pa_cons (pe_gint rfl T.gWRONG) pa_nil)))) pss_nil)
      (pss_cons (ps_asg (pv 2) (pg_sub (pe_fld (pv 0) rfl) (pv 1) set_list)) (pss_one (ps_ret (pe_lst (pa_cons pe_int pa_nil))))), ?_⟩
    have no : (¬ (0 ≤ i ∧ i < 40) ∨ v < 0) → ∀ p, H p = Option.none → Q (.ref p) (upd H p (.lst [V.int (-1)])) := fun hn p hp => k.use (does_put_no hn) S hp
    refine ⟨_, rfl, i, rfl, _, rfl, ?_⟩
    by_cases hi : 0 ≤ i ∧ i < 40
    · rw [decide_eq_true hi]
      refine iteF ?_
      refine ⟨_, rfl, _, _, rfl, rfl, _, rfl, ite_dec (fun h0 => ?_) (fun h0 => ?_)⟩
      · exact ⟨(by show 1 ≤ sizeLine; decide), no (.inr h0)⟩
      · obtain ⟨dx, lc, lr, lk, rs, qs, e1, e2, e3, e4, e5, e6, setC, setA⟩ := S.view
        obtain ⟨i, rfl⟩ : ∃ j : Nat, i = (j : Int) := ⟨i.toNat, by omega⟩
        obtain ⟨v, rfl⟩ : ∃ j : Nat, v = (j : Int) := ⟨v.toNat, by omega⟩
        refine ⟨_, rfl, _, rfl, x, C, dx, _, _, rfl, e1, T.clC, T.nCounters, cF_counters _ _ _ _, _, rfl, lc, _, _, i, rfl, rfl, e2, ixN_nat (by rw [vsN_length, S.good.cl]; omega), ?_⟩
        have S2 := setC (upd H lc (.lst (vsN (s.counters.set i v)))) (s.counters.set i v) (fun b hb => upd_ne hb) upd_same (good_put S.good (by omega))
        rw [vsN_set]
        refine ⟨(by show 1 ≤ sizeLine; decide), fun p hp => ?_⟩
        exact k.use (does_put_ok hi (by omega) hv) S2 hp
    · rw [decide_eq_false hi]
      exact iteT ⟨(by show 1 ≤ sizeLine; decide), no (.inl hi)⟩
def spGet (R C : Addr) : Sp := fun vs H Q _ => ∃ (B : Hp) (x : Addr) (s : Abs) (i : Int), vs = [.ref x, .int i] ∧ St R C B H x s ∧ Post R C B x s (.get i) Q
abbrev nGet : List Str := ["self", "number"]
theorem scGet : FnScope nGet nGet (defScope sGet) := ⟨rfl, rfl, rfl, by decide +kernel, rfl, by decide +kernel, by decide +kernel⟩
theorem ok_get {f : Addr} {fd : FuncData} (F : Fun K "get" "Counting.get" sGet f fd) (T : Txt K mg R C) (GI : FnC P w K mg base "is_counter" 1 ["number"] spIsCounter) : FnOk P w K mg base CX0 2 f fd nGet (spGet R C) := by
  obtain ⟨fi, fdi, GI, mI, kI, bI⟩ := GI
  refine F.ok scGet (fun vs H Q E h => ?_) (fun cdv A outer s H vs Q E hr h => ?_)
  · obtain ⟨B, x, s, i, rfl, _⟩ := h
    rfl
  · obtain ⟨B, x, s, i, rfl, S, k⟩ := h
    refine ⟨_, pss_cons (ps_if (pt_not (pt_val (pe_call GI hr rfl mI kI bI .nil pass0 (pa_cons (pv 1) pa_nil)))) (pss_one (ps_ret (pe_lst (pa_cons (pe_gint rfl T.gWRONG) pa_nil)))) pss_nil)
      (pss_one (ps_ret (pe_lst (pa_cons (pe_ix ix_list (pe_fld (pv 0) rfl) (pv 1) (fun _ _ => rfl)) pa_nil)))), ?_⟩
    refine ⟨_, rfl, i, rfl, _, rfl, ?_⟩
    by_cases hi : 0 ≤ i ∧ i < 40
    · rw [decide_eq_true hi]
      refine iteF ?_
      obtain ⟨dx, lc, lr, lk, rs, qs, e1, e2, e3, e4, e5, e6, setC, setA⟩ := S.view
      obtain ⟨i, rfl⟩ : ∃ j : Nat, i = (j : Int) := ⟨i.toNat, by omega⟩
      refine ⟨_, rfl, x, C, dx, _, _, rfl, e1, T.clC, T.nCounters, cF_counters _ _ _ _, _, rfl, lc, _, _, _, rfl, rfl, SqL.of e2, atI_nat (vsN_getD (by rw [S.good.cl]; omega)), (by show 1 ≤ sizeLine; decide), fun p hp => ?_⟩
      exact k.use (does_get_ok hi) S hp
    · rw [decide_eq_false hi]
      exact iteT ⟨(by show 1 ≤ sizeLine; decide), fun p hp => k.use (does_get_no hi) S hp⟩
end
end Fc
/-! D5: Counting: add_rule, ratio, set_code, make_rules. -/
namespace Fc
open PySem PySem.Spec PyProof.Rows L2
open Rc87 (Rule Row Abs Ins)
theorem cut_lo {l : List Nat} {k : Nat} (h : k ≤ l.length) : cutV (vsN l) none (some (k : Int)) = vsN (l.take k) := by
  unfold cutV
  rw [HT.sIx_none, HT.sIx_nat, vsN_length, Nat.min_eq_left h, List.drop_zero, Nat.sub_zero]
  unfold vsN
  rw [List.map_take, List.map_take]
theorem cut_hi {l : List Nat} {k : Nat} (h : k ≤ l.length) : cutV (vsN l) (some (k : Int)) none = vsN (l.drop k) := by
  unfold cutV
  rw [HT.sIx_none, HT.sIx_nat, vsN_length, Nat.min_eq_left h, List.take_of_length_le (by rw [List.length_drop, vsN_length]; exact Nat.le_refl _)]
  unfold vsN
  rw [List.map_drop, List.map_drop]
/-- what is one's own and what is new, together -/
theorem own_same {O H H1 : Hp} (h : Same O H) (s : Same H H1) : Same (uni O (out H H1)) H1 := fun b o e => by
  rcases uni_in e with z | z
  · exact s _ _ (h _ _ z)
  · exact (out_in z).2
theorem own_right {O H H1 : Hp} (h : Same O H) : Same (out H H1) (uni O (out H H1)) := uni_right fun b o e => .inr (by unfold out; rw [h _ _ e])
theorem own_none {O H H1 : Hp} {z : Addr} {o : HO} (h : O z = Option.none) (hz : H z = some o) : uni O (out H H1) z = Option.none := uni_none h (by unfold out; rw [hz])
theorem own_dis {O B H H1 : Hp} (h : ∀ b o, O b = some o → B b = Option.none) (sB : Same B H) : ∀ b o, uni O (out H H1) b = some o → B b = Option.none := fun b o e => by
  rcases uni_in e with z | z
  · exact h _ _ z
  · exact sB.free (out_in z).1
section
variable {P : Program} {w : World} {K : PySem.W.Frag} {mg : Str → Option Value} {base : Heap} {R C : Addr}

/-! ### add_rule -/
def spAddRule (R C : Addr) (K : PySem.W.Frag) : Sp := fun vs H Q _ => ∃ (B : Hp) (x : Addr) (s : Abs) (a : Addr) (l : List Nat), vs = [.ref x, .ref a] ∧ St R C B H x s ∧ SqL K B a (vsN l) ∧ l.length ≤ 80 ∧ (∀ n ∈ l, n ≤ 255) ∧ Post R C B x s (.rule l (l.length : Int)) Q
abbrev nAddRule : List Str := ["self", "row", "half"]
theorem scAddRule : FnScope nAddRule ["self", "row"] (defScope sAddRule) := ⟨rfl, rfl, rfl, by decide +kernel, rfl, by decide +kernel, by decide +kernel⟩
theorem ok_addRule {f : Addr} {fd : FuncData} (F : Fun K "add_rule" "Counting.add_rule" sAddRule f fd) (T : Txt K mg R C) (GF : FnC P w K mg base "filled" 1 ["row"] spFilled) (GI : MkC P w K mg base "Rule" R 1 ["self", "takes", "gives"] (spRInit R)) :
    FnOk P w K mg base CX0 3 f fd ["self", "row"] (spAddRule R C K) := by
  obtain ⟨ff, fdf, GF, mF, kF, bF⟩ := GF
  obtain ⟨fi, fdi, MI, GI, mI, bI⟩ := GI
  refine F.ok scAddRule (fun vs H Q E h => ?_) (fun cdv A outer s H vs Q E hr h => ?_)
  · obtain ⟨B, x, s, a, l, rfl, _⟩ := h
    rfl
  · obtain ⟨B, x, s, a, l, rfl, S, hB, h80, h255, k⟩ := h
    have hr1 : Room 1 _ := hr.mono (by decide)
    have hS := S.sB.seq hB
    refine ⟨_, pss_cons (ps_if (pt_cmpR op_eq (pe_op op_mod (pe_callB call_len_seq (by rfl) T.len PySem.boot_len (pa_cons (pv 1) pa_nil)) pe_int) pe_int (nomark _)) (pss_one (ps_ret (pe_lst (pa_cons (pe_gint rfl T.gWRONG) pa_nil)))) pss_nil)
      (pss_cons (ps_if (pt_cmpR op_eq (pe_callB call_len_seq (by rfl) T.len PySem.boot_len (pa_cons (pe_fld (pv 0) rfl) pa_nil)) (pe_gint rfl T.gMOST_RULES) (nomark _)) (pss_one (ps_ret (pe_lst (pa_cons (pe_gint rfl T.gNONE) pa_nil)))) pss_nil)
      (pss_cons (ps_set (i := 2) scAddRule.nd rfl (Or.inl rfl) (pe_op op_fdiv (pe_callB call_len_seq (by rfl) T.len PySem.boot_len (pa_cons (pv 1) pa_nil)) pe_int))
      (pss_cons (ps_expr (pe_bm PySem.F.plainAttrs_list PySem.F.slot_list_append PySem.F.type_list_append mt_append (pe_fld (pv 0) rfl) (pa_cons (pe_make MI GI hr rfl mI bI .nil pass0
          (pa_cons (pe_call GF hr1 rfl mF kF bF .nil pass0 (pa_cons (pe_slice sl_list (pv 1) po_none (po_some (pv 2))) pa_nil)) (pa_cons (pe_call GF hr1 rfl mF kF bF .nil pass0 (pa_cons (pe_slice sl_list (pv 1) (po_some (pv 2)) po_none) pa_nil)) pa_nil))) pa_nil)))
      (pss_one (ps_ret (pe_lst (pa_cons (pe_callB call_len_seq (by rfl) T.len PySem.boot_len (pa_cons (pe_fld (pv 0) rfl) pa_nil)) pa_nil))))))), ?_⟩
    obtain ⟨O, dx, lc, lr, lk, rs, qs, h1, h2, h3, h4, h5, h6, h7, h8, h9, h10, h11, h12, h13⟩ := S.ex
    have hrl : rs.length = s.rules.length := pr_len h11
    refine ⟨_, rfl, a, _, rfl, .inl hS, _, _, rfl, rfl, (by show (0 : Int) < 2; decide), rfl, _, rfl, ite_eqI (fun e1 => ?_) (fun e1 => ?_)⟩
    · rw [vsN_length] at e1
      exact ⟨(by show 1 ≤ sizeLine; decide), fun p hp => k.use (does_rule_odd h80 (by omega)) S hp⟩
    rw [vsN_length] at e1
    have ev : l.length % 2 = 0 := by omega
    refine ⟨_, rfl, x, C, dx, _, _, rfl, h8, T.clC, T.nRules, cF_rules _ _ _ _, lr, _, rfl, .inl (SqL.of h10), rfl, _, rfl, ite_eqI (fun e2 => ?_) (fun e2 => ?_)⟩
    · rw [List.length_map, hrl] at e2
      exact ⟨(by show 1 ≤ sizeLine; decide), fun p hp => k.use (does_rule_full h80 ev (by omega)) S hp⟩
    rw [List.length_map, hrl] at e2
    have r64 : ¬ 64 ≤ s.rules.length := by
      have := S.good.rl
      omega
    refine ⟨_, rfl, a, _, rfl, .inl hS, _, _, rfl, rfl, (by constructor <;> decide), ?_⟩
    have eh : ((vsN l).length : Int) / 2 = ((l.length / 2 : Nat) : Int) := by
      rw [vsN_length]
      omega
    dsimp only
    rw [eh]
    refine ⟨_, rfl, x, C, dx, _, _, rfl, h8, T.clC, T.nRules, cF_rules _ _ _ _, .inl ⟨rfl, _, SqL.of h10⟩, ?_⟩
    refine ⟨_, rfl, _, rfl, _, rfl, a, _, rfl, hS, fun p1 n1 => ?_⟩
    rw [cut_lo (by omega)]
    have s1 : Same H (upd H p1 (.lst (vsN (l.take (l.length / 2))))) := upd_new n1
    refine ⟨p1, _, rfl, upd_same, by rw [List.length_take]; omega, fun H1 q1 t1 m1 g1 => ?_⟩
    have s1 := s1.trans t1
    refine ⟨_, rfl, _, rfl, _, rfl, a, _, rfl, s1.seq hS, fun p2 n2 => ?_⟩
    rw [cut_hi (by omega)]
    have s2 : Same H1 (upd H1 p2 (.lst (vsN (l.drop (l.length / 2))))) := upd_new n2
    refine ⟨p2, _, rfl, upd_same, by rw [List.length_drop]; omega, fun H2 q2 t2 m2 g2 => ?_⟩
    have s2 := s2.trans t2
    have q10 : H q1 = Option.none := (upd_new (o := .lst (vsN (l.take (l.length / 2)))) n1).free m1
    have q20 : H q2 = Option.none := s1.free ((upd_new (o := .lst (vsN (l.drop (l.length / 2)))) n2).free m2)
    intro r dr nr ndr ner
    have sr : Same H2 (upd (upd H2 dr (.own r)) r (.ins R dr [])) := fun b o e => by
      rw [upd_ne (ne_of_none e nr), upd_ne (ne_of_none e ndr)]
      exact e
    have s12 := s1.trans s2
    have G : GoodR (Rc87.halves l) := halves_good ev h80 h255
    have eH := halves_eq ev h80
    refine ⟨H, r, dr, q1, q2, Rc87.halves l, rfl, s12.trans sr, s12.free nr, q10, q20, upd_same, ?_, ?_, G, fun H3 k3 RA => ⟨rfl, ?_⟩⟩
    · rw [eH]
      exact sr _ _ (s2 _ _ g1)
    · rw [eH]
      exact sr _ _ g2
    have s3 : Same H H3 := fun b o e => k3 b o (sr b o (s12 b o e)) (ne_of_none (s12 b o e) nr)
    refine ⟨lr, _, V.ref r, rfl, rfl, s3 _ _ h10, small1000 (by rw [List.length_map, hrl]; omega), ?_⟩
    have nO : ∀ b o, uni O (out H H3) b = some o → b ≠ lr := fun b o e q => by
      rw [q, own_none h5 h10] at e
      cases e
    have nB : ∀ b o, B b = some o → b ≠ lr := fun b o e q => by
      rw [q, h7] at e
      cases e
    have S4 : St R C B (upd H3 lr (.lst (rs.map V.ref ++ [V.ref r]))) x { s with rules := s.rules ++ [Rc87.halves l] } := by
      refine ⟨good_rule S.good G r64, fun b o e => ?_, S.Bx, uni O (out H H3), dx, lc, lr, lk, rs ++ [r], qs, fun b o e => ?_, own_dis h2 S.sB, own_none h3 h8, own_none h4 h9, own_none h5 h10, h6, h7, ?_, ?_, ?_, ?_, h12.mono uni_left, h13⟩
      · rw [upd_ne (nB _ _ e)]
        exact s3 _ _ (S.sB _ _ e)
      · rw [upd_ne (nO _ _ e)]
        exact own_same h1 s3 _ _ e
      · rw [upd_ne (ne_of h8 h10 (by intro q; cases q))]
        exact s3 _ _ h8
      · rw [upd_ne (fun q => by
          rw [q, h10] at h9
          exact ints_refs (l := s.counters.map nI) (by rw [List.length_map, S.good.cl]; decide) (Option.some.inj h9).symm)]
        exact s3 _ _ h9
      · rw [upd_same, List.map_append]
        rfl
      · exact pr_snoc (pr_map h11 fun a b z => z.mono uni_left) (RA.mono (own_right h1))
    have hx4 : upd H3 lr (.lst (rs.map V.ref ++ [V.ref r])) x = some (.ins C dx (cF lc lr lk s.at_)) := by
      rw [upd_ne (ne_of h8 h10 (by intro q; cases q))]
      exact s3 _ _ h8
    refine ⟨_, rfl, x, C, dx, _, _, rfl, hx4, T.clC, T.nRules, cF_rules _ _ _ _, lr, _, rfl, .inl (SqL.of upd_same), (by show 1 ≤ sizeLine; decide), fun p hp => ?_⟩
    have q := k.use (does_rule_ok h80 ev r64) S4 hp
    rw [List.length_append, List.length_map, hrl]
    exact q

/-! ### ratio -/
def spRatio (R C : Addr) : Sp := fun vs H Q _ => ∃ (B : Hp) (x : Addr) (s : Abs) (i : Int), vs = [.ref x, .int i] ∧ St R C B H x s ∧ Post R C B x s (.ratio i) Q
abbrev nRatio : List Str := ["self", "number", "rule"]
theorem scRatio : FnScope nRatio ["self", "number"] (defScope sRatio) := ⟨rfl, rfl, rfl, by decide +kernel, rfl, by decide +kernel, by decide +kernel⟩
theorem lt64 {l : List Nat} (h : ∀ x ∈ l, x ≤ 255) : ∀ x ∈ l, x < 2 ^ 64 := fun x hx => Nat.lt_of_le_of_lt (h x hx) (by decide)
theorem ok_ratio {f : Addr} {fd : FuncData} (F : Fun K "ratio" "Counting.ratio" sRatio f fd) (T : Txt K mg R C) (GN : FnC P w K mg base "number_of" 2 ["amounts"] (spNumber K)) : FnOk P w K mg base CX0 3 f fd ["self", "number"] (spRatio R C) := by
  obtain ⟨fn, fdn, GN, mN, kN, bN⟩ := GN
  refine F.ok scRatio (fun vs H Q E h => ?_) (fun cdv A outer s H vs Q E hr h => ?_)
  · obtain ⟨B, x, s, i, rfl, _⟩ := h
    rfl
  · obtain ⟨B, x, s, i, rfl, S, k⟩ := h
    refine ⟨_, pss_cons (ps_if (PW.pt (pw_or (pt_cmpR op_lt (pv 1) pe_int (nomark _)) (pw_or1 (pt_cmpR op_ge (pv 1) (pe_callB call_len_seq (by rfl) T.len PySem.boot_len (pa_cons (pe_fld (pv 0) rfl) pa_nil)) (nomark _))))) (pss_one (ps_ret (pe_lst (pa_cons (pe_gint rfl T.gWRONG) pa_nil)))) pss_nil)
      (pss_cons (ps_set (i := 2) scRatio.nd rfl (Or.inl rfl) (pe_ix ix_list (pe_fld (pv 0) rfl) (pv 1) (fun _ _ => rfl)))
      (pss_one (ps_ret (pe_lst (pa_cons pe_int (pa_cons (pe_call GN hr rfl mN kN bN .nil pass0 (pa_cons (pe_fld (pv 2) rfl) pa_nil)) (pa_cons (pe_call GN hr rfl mN kN bN .nil pass0 (pa_cons (pe_fld (pv 2) rfl) pa_nil)) pa_nil))))))), ?_⟩
    obtain ⟨dx, lc, lr, lk, rs, qs, e1, e2, e3, e4, e5, e6, setC, setA⟩ := S.view
    have hrl : rs.length = s.rules.length := pr_len e4
    have no : (i < 0 ∨ (s.rules.length : Int) ≤ i) → ∀ p, H p = Option.none → Q (.ref p) (upd H p (.lst [V.int (-1)])) := fun hn p hp => k.use (does_ratio_no hn) S hp
    refine ⟨_, rfl, _, _, rfl, rfl, _, rfl, ite_dec (fun h0 => ?_) (fun h0 => ?_)⟩
    · exact iteT ⟨(by show 1 ≤ sizeLine; decide), no (.inl h0)⟩
    refine ⟨_, rfl, _, rfl, x, C, dx, _, _, rfl, e1, T.clC, T.nRules, cF_rules _ _ _ _, lr, _, rfl, .inl (SqL.of e3), _, _, rfl, rfl, _, rfl, ite_dec (fun h1 => ?_) (fun h1 => ?_)⟩
    · rw [List.length_map, hrl] at h1
      exact ⟨(by show 1 ≤ sizeLine; decide), no (.inr h1)⟩
    rw [List.length_map, hrl] at h1
    obtain ⟨i, rfl⟩ : ∃ j : Nat, i = (j : Int) := ⟨i.toNat, by omega⟩
    have hi : i < s.rules.length := by omega
    have hri : s.rules[i]? = some s.rules[i] := List.getElem?_eq_getElem hi
    obtain ⟨r, hr1, RA⟩ := pr_get' e4 hri
    have G := S.good.rs _ (mem_take hri)
    obtain ⟨dr, t, g, u, c, r1, r2, r3, r4, r5⟩ := RA.ex
    refine ⟨_, rfl, x, C, dx, _, _, rfl, e1, T.clC, T.nRules, cF_rules _ _ _ _, _, rfl, lr, _, _, _, rfl, rfl, SqL.of e3, atI_nat (refs_at hr1), ?_⟩
    refine ⟨_, rfl, r, R, dr, _, _, rfl, r1, T.clR, T.nGives, rF_gives _ _ _ _, g, _, rfl, SqL.of r3, G.gl, lt64 G.gs, fun H1 s1 => ?_⟩
    refine ⟨_, rfl, r, R, dr, _, _, rfl, s1 _ _ r1, T.clR, T.nTakes, rF_takes _ _ _ _, t, _, rfl, SqL.of (s1 _ _ r2), G.tl, lt64 G.ts, fun H2 s2 => ?_⟩
    refine ⟨(by show 3 ≤ sizeLine; decide), fun p hp => ?_⟩
    exact k.use (does_ratio_ok (Int.natCast_nonneg _) (by rw [Int.toNat_natCast]; exact hri) G) (S.mono (s1.trans s2)) hp

/-! ### set_code -/
def spSetCode (R C : Addr) (K : PySem.W.Frag) : Sp := fun vs H Q _ => ∃ (B : Hp) (x : Addr) (s : Abs) (a : Addr) (l : List Nat), vs = [.ref x, .ref a] ∧ St R C B H x s ∧ SqL K B a (vsN l) ∧ l.length ≤ 64 ∧ Post R C B x s (.code l (l.length : Int)) Q
abbrev nSetCode : List Str := ["self", "row", "code"]
theorem scSetCode : FnScope nSetCode ["self", "row"] (defScope sSetCode) := ⟨rfl, rfl, rfl, by decide +kernel, rfl, by decide +kernel, by decide +kernel⟩
theorem ok_setCode {f : Addr} {fd : FuncData} (F : Fun K "set_code" "Counting.set_code" sSetCode f fd) (T : Txt K mg R C) (GO : FnC P w K mg base "code_of" 1 ["row"] (spCodeOf K)) (GI : FnC P w K mg base "is_code" 2 ["code"] (spIsCode K)) : FnOk P w K mg base CX0 3 f fd ["self", "row"] (spSetCode R C K) := by
  obtain ⟨fo, fdo, GO, mO, kO, bO⟩ := GO
  obtain ⟨fi, fdi, GI, mI, kI, bI⟩ := GI
  refine F.ok scSetCode (fun vs H Q E h => ?_) (fun cdv A outer s H vs Q E hr h => ?_)
  · obtain ⟨B, x, s, a, l, rfl, _⟩ := h
    rfl
  · obtain ⟨B, x, s, a, l, rfl, S, hB, h64, k⟩ := h
    have hr1 : Room 1 _ := hr.mono (by decide)
    have hS := S.sB.seq hB
    refine ⟨_, pss_cons (ps_if (pt_cmpR op_ne (pe_op op_mod (pe_callB call_len_seq (by rfl) T.len PySem.boot_len (pa_cons (pv 1) pa_nil)) pe_int) pe_int (nomark _)) (pss_one (ps_ret (pe_lst (pa_cons (pe_gint rfl T.gWRONG) pa_nil)))) pss_nil)
      (pss_cons (ps_set (i := 2) scSetCode.nd rfl (Or.inl rfl) (pe_call GO hr1 rfl mO kO bO .nil pass0 (pa_cons (pv 1) pa_nil)))
      (pss_cons (ps_if (pt_not (pt_val (pe_call GI hr rfl mI kI bI .nil pass0 (pa_cons (pv 2) pa_nil)))) (pss_one (ps_ret (pe_lst (pa_cons (pe_gint rfl T.gNONE) pa_nil)))) pss_nil)
      (pss_cons (ps_fld (pv 0) (pv 2) rfl) (pss_cons (ps_fld (pv 0) pe_int rfl)
      (pss_one (ps_ret (pe_lst (pa_cons (pe_callB call_len_seq (by rfl) T.len PySem.boot_len (pa_cons (pv 2) pa_nil)) pa_nil)))))))), ?_⟩
    obtain ⟨O, dx, lc, lr, lk, rs, qs, h1, h2, h3, h4, h5, h6, h7, h8, h9, h10, h11, h12, h13⟩ := S.ex
    refine ⟨_, rfl, a, _, rfl, .inl hS, _, _, rfl, rfl, (by show (0 : Int) < 4; decide), rfl, _, rfl, ite_neI (fun e1 => ?_) (fun e1 => ?_)⟩
    · rw [vsN_length] at e1
      exact ⟨(by show 1 ≤ sizeLine; decide), fun p hp => k.use (does_code_odd h64 (by omega)) S hp⟩
    rw [vsN_length] at e1
    have e4 : l.length % 4 = 0 := by omega
    refine ⟨_, rfl, a, l, rfl, hS, e4, h64, fun H1 p s1 n1 QA => ?_⟩
    have QA1 := QA.mono out_same
    refine ⟨_, rfl, p, _, rfl, QA1, fun q hq => quads_four hq, _, rfl, ?_⟩
    rw [quads_length]
    cases ea : (quads l).all fun q => isIns q (l.length / 4) with
    | false =>
      refine iteT ⟨(by show 1 ≤ sizeLine; decide), fun p2 hp2 => ?_⟩
      exact k.use (does_code_no h64 e4 (codeOf_none ea)) (S.mono s1) hp2
    | true =>
      refine iteF ?_
      obtain ⟨code, ec, pc, gc, lc'⟩ := codeOf_all ea
      refine ⟨_, rfl, _, rfl, x, C, dx, _, rfl, s1 _ _ h8, T.clC, T.nCode, (by show 4 < 1000; decide), ?_⟩
      refine ⟨_, rfl, x, C, dx, _, rfl, upd_same, T.clC, T.nAt, (by rw [cF_putCode]; show 4 < 1000; decide), ?_⟩
      have e5 : putF "at" (.int 0) (putF "code" (.ref p) (cF lc lr lk s.at_)) = cF lc lr p 0 := by
        rw [cF_putCode]
        exact cF_putAt lc lr p s.at_ 0
      rw [e5]
      have kx : ∀ b o, H1 b = some o → b ≠ x → upd (upd H1 x (.ins C dx (putF "code" (.ref p) (cF lc lr lk s.at_)))) x (.ins C dx (cF lc lr p 0)) b = some o := fun b o e ne => by
        rw [upd_ne ne, upd_ne ne]
        exact e
      have nO : ∀ b o, uni O (out H H1) b = some o → b ≠ x := fun b o e q => by
        rw [q, own_none h3 h8] at e
        cases e
      have S4 : St R C B (upd (upd H1 x (.ins C dx (putF "code" (.ref p) (cF lc lr lk s.at_)))) x (.ins C dx (cF lc lr p 0))) x { s with code := code, at_ := 0 } := by
        refine ⟨good_code S.good (by rw [lc']; exact gc) (by rw [lc']; omega), fun b o e => kx _ _ (s1 _ _ (S.sB _ _ e)) (ne_of_none e S.Bx), S.Bx, uni O (out H H1), dx, lc, lr, p, rs, quads l, fun b o e => kx _ _ (own_same h1 s1 _ _ e) (nO _ _ e), own_dis h2 S.sB, own_none h3 h8, own_none h4 h9, own_none h5 h10, h6, h7, upd_same, ?_, ?_, ?_, QA.mono (own_right h1), pc⟩
        · exact kx _ _ (s1 _ _ h9) (ne_of h9 h8 (by intro q; cases q))
        · exact kx _ _ (s1 _ _ h10) (ne_of h10 h8 (by intro q; cases q))
        · exact pr_map h11 fun a b z => z.mono uni_left
      obtain ⟨ks, hk1, hk2⟩ := QA1
      refine ⟨_, rfl, p, _, rfl, .inl (SqL.of (kx _ _ hk1 (ne_of hk1 (s1 _ _ h8) (by intro q; cases q)))), (by show 1 ≤ sizeLine; decide), fun p2 hp2 => ?_⟩
      have q := k.use (does_code_ok h64 e4 ec) S4 hp2
      rw [List.length_map, pr_len hk2, quads_length, ← lc']
      exact q

/-! ### make_rules -/
def spMakeRules (R C : Addr) : Sp := fun vs H Q _ => ∃ (B : Hp) (x : Addr) (s : Abs), vs = [.ref x] ∧ St R C B H x s ∧ Post R C B x s .made Q
abbrev nMakeRules : List Str := ["self", "number"]
theorem scMakeRules : FnScope nMakeRules ["self"] (defScope sMakeRules) := ⟨rfl, rfl, rfl, by decide +kernel, rfl, by decide +kernel, by decide +kernel⟩
theorem ok_makeRules {f : Addr} {fd : FuncData} (F : Fun K "make_rules" "Counting.make_rules" sMakeRules f fd) (T : Txt K mg R C) (GR : FnC P w K mg base "rules_of" 4 ["code"] (spRulesOf R)) : FnOk P w K mg base CX0 5 f fd ["self"] (spMakeRules R C) := by
  obtain ⟨fr, fdr, GR, mR, kR, bR⟩ := GR
  refine F.ok scMakeRules (fun vs H Q E h => ?_) (fun cdv A outer s H vs Q E hr h => ?_)
  · obtain ⟨B, x, s, rfl, _⟩ := h
    rfl
  · obtain ⟨B, x, s, rfl, S, k⟩ := h
    refine ⟨_, pss_cons (ps_fld (pv 0) (pe_call GR hr rfl mR kR bR .nil pass0 (pa_cons (pe_fld (pv 0) rfl) pa_nil)) rfl)
      (pss_cons (ps_for PassesOwn.never rfl (pi_range2 (by rfl) T.range (pa_cons (pe_gint rfl T.gREGISTERS) (pa_cons (pe_gint rfl T.gCOUNTERS) pa_nil))) (pg_name (i := 1) scMakeRules.nd rfl (.inl rfl))
        (pss_one (ps_asg pe_int (pg_sub (pe_fld (pv 0) rfl) (pv 1) set_list))))
      (pss_cons (ps_asg pe_int (pg_sub (pe_fld (pv 0) rfl) (pe_op op_add (pe_gint rfl T.gNOW) (pe_fld (pv 0) rfl)) set_list))
      (pss_one (ps_ret (pe_lst (pa_cons (pe_callB call_len_seq (by rfl) T.len PySem.boot_len (pa_cons (pe_fld (pv 0) rfl) pa_nil)) pa_nil)))))), ?_⟩
    obtain ⟨O, dx, lc, lr, lk, rs, qs, h1, h2, h3, h4, h5, h6, h7, h8, h9, h10, h11, h12, h13⟩ := S.ex
    refine ⟨_, rfl, x, C, dx, _, _, rfl, h8, T.clC, T.nCode, cF_code _ _ _ _, lk, qs, s.code, rfl, h12.mono h1, h13, S.good.ks, S.good.kl, fun H1 p rs' s1 n1 RI => ?_⟩
    obtain ⟨g1, O2, g2, g3, g4, g5⟩ := RI
    refine ⟨_, rfl, x, C, dx, _, rfl, s1 _ _ h8, T.clC, T.nRules, (by show 4 < 1000; decide), ?_⟩
    rw [cF_putRules]
    have x2 : upd H1 x (.ins C dx (cF lc p lk s.at_)) x = some (.ins C dx (cF lc p lk s.at_)) := upd_same
    have k2 : ∀ b o, H1 b = some o → b ≠ x → upd H1 x (.ins C dx (cF lc p lk s.at_)) b = some o := fun b o e ne => by
      rw [upd_ne ne]
      exact e
    generalize upd H1 x (.ins C dx (cF lc p lk s.at_)) = H2 at x2 k2 ⊢
    have ncx : lc ≠ x := ne_of h9 h8 (by intro q; cases q)
    have npx : p ≠ x := (ne_of_none h8 n1).symm
    have npc : p ≠ lc := (ne_of_none h9 n1).symm
    have c2 := k2 _ _ (s1 _ _ h9) ncx
    refine ⟨_, _, rfl, ⟨by decide, by decide, by decide, by decide⟩, ?_⟩
    refine for_range (lo := 8) (n := 32) (fun i σ H' => ∃ v : Option V, σ = [some (V.ref x), v] ∧ (∀ b, b ≠ lc → H' b = H2 b) ∧ H' lc = some (.lst (vsN (zeros s.counters i))))
      ⟨_, rfl, fun _ _ => rfl, by rw [zeros_zero S.good.cl]; exact c2⟩ ?_ ?_
    · rintro i σ H' hi ⟨v, rfl, hb, hc⟩
      have e8 : (8 : Int) + (i : Int) = ((8 + i : Nat) : Int) := by omega
      rw [e8]
      refine ⟨_, rfl, x, C, dx, _, _, rfl, (hb x ncx.symm).trans x2, T.clC, T.nCounters, cF_counters _ _ _ _, _, rfl, lc, _, _, 8 + i, rfl, rfl, hc, ixN_nat (by rw [vsN_length, zeros_length]; omega), ?_⟩
      refine ⟨_, rfl, fun b nb => (upd_ne nb).trans (hb b nb), ?_⟩
      rw [upd_same]
      have e := vsN_set (zeros s.counters i) (8 + i) 0
      rw [zeros_succ _ hi] at e
      exact congrArg (fun q => some (HO.lst q)) e
    · rintro σ H3 ⟨v, rfl, hb, hc⟩
      have x3 := (hb x ncx.symm).trans x2
      have a16 := at_lt S.good
      refine ⟨_, rfl, x, C, dx, _, _, rfl, x3, T.clC, T.nCounters, cF_counters _ _ _ _, _, rfl, x, C, dx, _, _, rfl, x3, T.clC, T.nAt, cF_at _ _ _ _, ?_⟩
      refine ⟨_, _, rfl, rfl, lc, _, ((8 + s.at_ : Nat) : Int), 8 + s.at_, rfl, congrArg V.int (by omega), hc, ixN_nat (by rw [vsN_length, zeros_length]; omega), ?_⟩
      have e := vsN_set (zeros s.counters 32) (8 + s.at_) 1
      rw [zeros_all _ a16] at e
      have e : (vsN (zeros s.counters 32)).set (8 + s.at_) (V.int 1) = vsN (Rc87.shown (s.at_, s.counters)) := e
      rw [e]
      have k4 : ∀ b o, H1 b = some o → b ≠ x → b ≠ lc → upd H3 lc (.lst (vsN (Rc87.shown (s.at_, s.counters)))) b = some o := fun b o e n1 n2 => by
        rw [upd_ne n2, hb b n2]
        exact k2 b o e n1
      have x4 : upd H3 lc (.lst (vsN (Rc87.shown (s.at_, s.counters)))) x = some (.ins C dx (cF lc p lk s.at_)) := by
        rw [upd_ne ncx.symm]
        exact x3
      have p4 := k4 _ _ g1 npx npc
      have oN : ∀ z o, H z = some o → O z = Option.none → uni O O2 z = Option.none := fun z o hz e => uni_none e (by
        cases q : O2 z with
        | none => rfl
        | some u =>
          rw [g4 z u q] at hz
          cases hz)
      have S4 : St R C B (upd H3 lc (.lst (vsN (Rc87.shown (s.at_, s.counters))))) x (madeS s) := by
        have nB : ∀ b o, B b = some o → b ≠ lc := fun b o e q => by
          rw [q, h6] at e
          cases e
        refine ⟨good_made S.good, fun b o e => k4 _ _ (s1 _ _ (S.sB _ _ e)) (ne_of_none e S.Bx) (nB _ _ e), S.Bx, uni O O2, dx, lc, p, lk, rs', qs, fun b o e => ?_, fun b o e => ?_, oN _ _ h8 h3, oN _ _ h9 h4, uni_none (h1.free n1) g3, h6, S.sB.free n1, x4, upd_same, p4, ?_, h12.mono uni_left, h13⟩
        · have n1 : b ≠ x := fun q => by
            rw [q, oN _ _ h8 h3] at e
            cases e
          have n2 : b ≠ lc := fun q => by
            rw [q, oN _ _ h9 h4] at e
            cases e
          rcases uni_in e with z | z
          · exact k4 _ _ (s1 _ _ (h1 _ _ z)) n1 n2
          · exact k4 _ _ (g2 _ _ z) n1 n2
        · rcases uni_in e with z | z
          · exact h2 _ _ z
          · exact S.sB.free (g4 _ _ z)
        · exact pr_map g5 fun a b z => z.mono (uni_right fun b o e => by
            cases q : O2 b with
            | none => exact .inr rfl
            | some u =>
              have := g4 b u q
              rw [h1 _ _ e] at this
              cases this)
      refine ⟨_, rfl, x, C, dx, _, _, rfl, x4, T.clC, T.nRules, cF_rules _ _ _ _, p, _, rfl, .inl (SqL.of p4), (by show 1 ≤ sizeLine; decide), fun p2 hp2 => ?_⟩
      have q := k.use does_made S4 hp2
      rw [List.length_map, pr_len g5]
      exact q
end
end Fc
/-! D6: Counting: fitting, step, is_alone, run, run_steps, run_alone. -/
namespace Fc
open Rc87 (Rule Row Abs Ins)
theorem next_cases : ∀ (l : List Rule) (c : Row), (Rc87.next l c = none ∧ Rc87.step l c = none ∧ ∀ (j : Nat) (r : Rule), l[j]? = some r → Rc87.fits r c = false) ∨
    ∃ (i : Nat) (r : Rule), l[i]? = some r ∧ Rc87.fits r c = true ∧ (∀ (j : Nat) (r' : Rule), j < i → l[j]? = some r' → Rc87.fits r' c = false) ∧ Rc87.next l c = some i ∧ Rc87.step l c = some (Rc87.applied r c)
  | [], c => .inl ⟨rfl, rfl, fun j r h => by simp at h⟩
  | a :: l, c => by
    cases hf : Rc87.fits a c with
    | true =>
      have hb : ∀ (j : Nat) (r' : Rule), j < 0 → (a :: l)[j]? = some r' → Rc87.fits r' c = false := fun j r' h => absurd h (Nat.not_lt_zero _)
      obtain ⟨h1, h2⟩ := next_some (l := a :: l) (i := 0) rfl hf hb
      exact .inr ⟨0, a, rfl, hf, hb, h1, h2⟩
    | false =>
      rcases next_cases l c with ⟨_, _, h⟩ | ⟨i, r, hr, hfr, hb, _, _⟩
      · have hb : ∀ (j : Nat) (r' : Rule), (a :: l)[j]? = some r' → Rc87.fits r' c = false := fun j r' e => by
          cases j with
          | zero =>
            have e : a = r' := Option.some.inj e
            rw [← e]
            exact hf
          | succ j => exact h j r' e
        obtain ⟨h1, h2⟩ := next_none hb
        exact .inl ⟨h1, h2, hb⟩
      · have hb' : ∀ (j : Nat) (r' : Rule), j < i + 1 → (a :: l)[j]? = some r' → Rc87.fits r' c = false := fun j r' hj e => by
          cases j with
          | zero =>
            have e : a = r' := Option.some.inj e
            rw [← e]
            exact hf
          | succ j => exact hb j r' (by omega) e
        obtain ⟨h1, h2⟩ := next_some (l := a :: l) (i := i + 1) hr hfr hb'
        exact .inr ⟨i + 1, r, hr, hfr, hb', h1, h2⟩
theorem others_iff {c : Row} {i : Nat} : Rc87.others c i = true ↔ ∀ x ∈ c.take i ++ c.drop (i + 1), x = 0 := by
  unfold Rc87.others
  rw [List.all_eq_true]
  constructor
  · intro h x hx
    rcases List.mem_append.mp hx with z | z
    · obtain ⟨j, hj⟩ := List.getElem?_of_mem z
      have hji : j < i := by
        have := (List.getElem?_eq_some_iff.mp hj).1
        rw [List.length_take] at this
        omega
      rw [List.getElem?_take_of_lt hji] at hj
      have q := h x (List.mem_of_getElem? (i := j) (by rw [List.getElem?_set_ne (by omega)]; exact hj))
      simpa using q
    · obtain ⟨j, hj⟩ := List.getElem?_of_mem z
      rw [List.getElem?_drop] at hj
      have q := h x (List.mem_of_getElem? (i := i + 1 + j) (by rw [List.getElem?_set_ne (by omega)]; exact hj))
      simpa using q
  · intro h x hx
    obtain ⟨j, hj⟩ := List.getElem?_of_mem hx
    by_cases e : i = j
    · subst e
      have hl : i < c.length := by
        have := (List.getElem?_eq_some_iff.mp hj).1
        rw [List.length_set] at this
        exact this
      rw [List.getElem?_set_self hl] at hj
      have := Option.some.inj hj
      rw [← this]
      rfl
    · rw [List.getElem?_set_ne e] at hj
      have q : x = 0 := by
        refine h x (List.mem_append.mpr ?_)
        by_cases hji : j < i
        · exact .inl (List.mem_of_getElem? (i := j) (by rw [List.getElem?_take_of_lt hji]; exact hj))
        · exact .inr (List.mem_of_getElem? (i := j - (i + 1)) (by rw [List.getElem?_drop, show i + 1 + (j - (i + 1)) = j by omega]; exact hj))
      rw [q]
      rfl
open PySem PySem.Spec PyProof.Rows L2
section
variable {P : Program} {w : World} {K : PySem.W.Frag} {mg : Str → Option Value} {base : Heap} {R C : Addr}

/-! ### fitting -/
def nextV : Option Nat → V
  | none => .non
  | some i => .int (i : Int)
def spFitting (R C : Addr) : Sp := fun vs H Q _ => ∃ (B : Hp) (x : Addr) (s : Abs), vs = [.ref x] ∧ St R C B H x s ∧ ∀ H', Same H H' → Q (nextV (Rc87.next s.rules s.counters)) H'
abbrev nFitting : List Str := ["self", "number", "rule"]
theorem scFitting : FnScope nFitting ["self"] (defScope sFitting) := ⟨rfl, rfl, rfl, by decide +kernel, rfl, by decide +kernel, by decide +kernel⟩
theorem ok_fitting {f : Addr} {fd : FuncData} (F : Fun K "fitting" "Counting.fitting" sFitting f fd) (T : Txt K mg R C) (GF : MtC P w K mg base R "fits" 1 ["self", "counters"] (spFits R)) : FnOk P w K mg base CX0 2 f fd ["self"] (spFitting R C) := by
  obtain ⟨ff, fdf, GF, mF, bF⟩ := GF
  refine F.ok scFitting (fun vs H Q E h => ?_) (fun cdv A outer s H vs Q E hr h => ?_)
  · obtain ⟨B, x, s, rfl, _⟩ := h
    rfl
  · obtain ⟨B, x, s, rfl, S, k⟩ := h
    refine ⟨_, pss_cons (ps_for PassesOwn.never rfl (pi_enum (by rfl) T.enumerate (pa_cons (pe_fld (pv 0) rfl) pa_nil)) (pg_tup rfl (pgs_cons (pg_name (i := 1) scFitting.nd rfl (.inl rfl)) (pgs_cons (pg_name (i := 2) scFitting.nd rfl (.inl rfl)) pgs_nil)))
        (pss_one (ps_if (pt_val (pe_meth (pv 2) T.clR mF GF hr bF .nil pass0 (pa_cons (pe_fld (pv 0) rfl) pa_nil))) (pss_one (ps_ret (pv 1))) pss_nil)))
      (pss_one (ps_ret pe_non)), ?_⟩
    obtain ⟨dx, lc, lr, lk, rs, qs, e1, e2, e3, e4, e5, e6, setC, setA⟩ := S.view
    have hrl : rs.length = s.rules.length := pr_len e4
    refine ⟨_, rfl, x, C, dx, _, _, rfl, e1, T.clC, T.nRules, cF_rules _ _ _ _, lr, _, rfl, SqL.of e3, ?_⟩
    refine for_it (walk_enum (K := K) (a := lr) (xs := rs.map V.ref)) (fun i σ H' => ∃ v1 v2 : Option V, σ = [some (V.ref x), v1, v2] ∧ Same H H' ∧ ∀ (j : Nat) (r : Rule), j < i → s.rules[j]? = some r → Rc87.fits r s.counters = false)
      ⟨_, _, rfl, Same.refl H, fun j r h => absurd h (Nat.not_lt_zero _)⟩ (fun i σ H' _ ⟨_, _, _, s1, _⟩ => SqL.of (s1 _ _ e3)) ?_ ?_
    · rintro i v σ H1 H2 hi ⟨v1, v2, rfl, s1, hb⟩ ⟨t, y, z, rfl, ht, rfl, hy, hz⟩
      have ey : y = V.int (i : Nat) := (Option.some.inj hy).symm
      subst ey
      obtain ⟨r, hr1, rfl⟩ := refs_get hz
      obtain ⟨rule, hru, RA⟩ := pr_get e4 hr1
      have s2 : Same H (upd H1 t (.tup [V.int (i : Nat), V.ref r])) := s1.trans (upd_new ht)
      have RA2 := RA.mono s2
      obtain ⟨dr, tt, g, u, c, r1, _⟩ := RA2.ex
      refine ⟨t, _, rfl, SqT.of upd_same, rfl, _, _, rfl, _, _, rfl, rfl, ?_⟩
      refine ⟨_, rfl, r, dr, _, rfl, r1, rF_no _ _ _ _ (by decide +kernel) (by decide +kernel) (by decide +kernel) (by decide +kernel), _, rfl, x, C, dx, _, _, rfl, s2 _ _ e1, T.clC, T.nCounters, cF_counters _ _ _ _, r, lc, rule, s.counters, rfl, RA2, S.good.rs _ (mem_take hru), s2 _ _ e2, S.good.cl, _, rfl, ?_⟩
      cases ef : Rc87.fits rule s.counters with
      | true =>
        refine iteT ⟨_, rfl, ?_⟩
        have q := k _ s2
        rw [(next_some hru ef hb).1] at q
        exact q
      | false =>
        refine iteF ⟨some (V.int (i : Nat)), some (V.ref r), rfl, s2, fun j r' hj e => ?_⟩
        by_cases hji : j = i
        · subst hji
          rw [hru] at e
          cases e
          exact ef
        · exact hb j r' (by omega) e
    · rintro σ H1 ⟨v1, v2, rfl, s1, hb⟩
      rw [List.length_map, hrl] at hb
      have q := k _ s1
      rw [(next_none fun j r e => hb j r (List.getElem?_eq_some_iff.mp e).1 e).1] at q
      exact q

/-! ### step -/
def spStep (R C : Addr) : Sp := fun vs H Q _ => ∃ (B : Hp) (x : Addr) (s : Abs), vs = [.ref x] ∧ St R C B H x s ∧ Post R C B x s .step Q
abbrev nStep : List Str := ["self", "number", "rule"]
theorem scStep : FnScope nStep ["self"] (defScope sStep) := ⟨rfl, rfl, rfl, by decide +kernel, rfl, by decide +kernel, by decide +kernel⟩
theorem ok_step {f : Addr} {fd : FuncData} (F : Fun K "step" "Counting.step" sStep f fd) (T : Txt K mg R C) (GF : MtC P w K mg base C "fitting" 2 ["self"] (spFitting R C)) (GB : MtC P w K mg base R "is_beyond" 1 ["self", "counters"] (spBeyond R)) (GC : MtC P w K mg base R "change" 1 ["self", "counters"] (spChange R)) :
    FnOk P w K mg base CX0 3 f fd ["self"] (spStep R C) := by
  obtain ⟨ff, fdf, GF, mF, bF⟩ := GF
  obtain ⟨fb, fdb, GB, mB, bB⟩ := GB
  obtain ⟨fc, fdc, GC, mC, bC⟩ := GC
  refine F.ok scStep (fun vs H Q E h => ?_) (fun cdv A outer s H vs Q E hr h => ?_)
  · obtain ⟨B, x, s, rfl, _⟩ := h
    rfl
  · obtain ⟨B, x, s, rfl, S, k⟩ := h
    have hr1 : Room 1 _ := hr.mono (by decide)
    refine ⟨_, pss_cons (ps_set (i := 1) scStep.nd rfl (Or.inl rfl) (pe_meth0 (pv 0) T.clC mF GF hr bF .nil pass0))
      (pss_cons (ps_if (pt_cmpR op_isN (pv 1) pe_non (nomark _)) (pss_one (ps_ret (pe_lst (pa_cons (pe_gint rfl T.gNONE) pa_nil)))) pss_nil)
      (pss_cons (ps_set (i := 2) scStep.nd rfl (Or.inl rfl) (pe_ix ix_list (pe_fld (pv 0) rfl) (pv 1) (fun _ _ => rfl)))
      (pss_cons (ps_if (pt_val (pe_meth (pv 2) T.clR mB GB hr1 bB .nil pass0 (pa_cons (pe_fld (pv 0) rfl) pa_nil))) (pss_one (ps_ret (pe_lst (pa_cons (pe_gint rfl T.gBEYOND) pa_nil)))) pss_nil)
      (pss_cons (ps_expr (pe_meth (pv 2) T.clR mC GC hr1 bC .nil pass0 (pa_cons (pe_fld (pv 0) rfl) pa_nil)))
      (pss_one (ps_ret (pe_lst (pa_cons (pv 1) pa_nil)))))))), ?_⟩
    obtain ⟨dx, lc, lr, lk, rs, qs, e1, e2, e3, e4, e5, e6, setC, setA⟩ := S.view
    refine ⟨_, rfl, x, dx, _, rfl, e1, cF_no _ _ _ _ (by decide +kernel) (by decide +kernel) (by decide +kernel) (by decide +kernel), B, x, s, rfl, S, fun H1 s1 => ?_⟩
    have S1 := S.mono s1
    rcases next_cases s.rules s.counters with ⟨n1, n2, _⟩ | ⟨i, r, hr0, hf, _, n1, n2⟩
    · rw [n1]
      refine ⟨_, rfl, rfl, _, rfl, iteT ⟨(by show 1 ≤ sizeLine; decide), fun p hp => ?_⟩⟩
      exact k.use (does_step_none n1) S1 hp
    · rw [n1]
      obtain ⟨dx, lc, lr, lk, rs, qs, e1, e2, e3, e4, e5, e6, setC, setA⟩ := S1.view
      obtain ⟨ra, hra, RA⟩ := pr_get' e4 hr0
      have G := S.good.rs _ (mem_take hr0)
      obtain ⟨dr, tt, g, u, c, r1, _⟩ := RA.ex
      refine ⟨_, rfl, rfl, _, rfl, iteF ?_⟩
      refine ⟨_, rfl, x, C, dx, _, _, rfl, e1, T.clC, T.nRules, cF_rules _ _ _ _, _, rfl, lr, _, _, _, rfl, rfl, SqL.of e3, atI_nat (refs_at hra), ?_⟩
      refine ⟨_, rfl, ra, dr, _, rfl, r1, rF_no _ _ _ _ (by decide +kernel) (by decide +kernel) (by decide +kernel) (by decide +kernel), _, rfl, x, C, dx, _, _, rfl, e1, T.clC, T.nCounters, cF_counters _ _ _ _, ra, lc, r, s.counters, rfl, RA, G, e2, S.good.cl, S.good.cs, hf, _, rfl, ?_⟩
      cases sm : Rc87.small (Rc87.applied r s.counters) with
      | false =>
        refine iteT ⟨(by show 1 ≤ sizeLine; decide), fun p hp => ?_⟩
        exact k.use (does_step_big n1 n2 sm) S1 hp
      | true =>
        refine iteF ?_
        refine ⟨_, rfl, ra, dr, _, rfl, r1, rF_no _ _ _ _ (by decide +kernel) (by decide +kernel) (by decide +kernel) (by decide +kernel), _, rfl, x, C, dx, _, _, rfl, e1, T.clC, T.nCounters, cF_counters _ _ _ _, ra, lc, r, s.counters, rfl, RA, G, e2, S.good.cl, hf, fun H2 k2 c2 => ?_⟩
        have S2 := setC H2 _ k2 c2 (good_counters S.good (applied_length G S.good.cl) sm)
        refine ⟨_, rfl, (by show 1 ≤ sizeLine; decide), fun p hp => ?_⟩
        exact k.use (does_step_ok n1 n2 sm) S2 hp

/-! ### is_alone -/
def spIsAlone (R C : Addr) : Sp := fun vs H Q _ => ∃ (B : Hp) (x : Addr) (s : Abs) (i : Nat), vs = [.ref x, .int (i : Int)] ∧ St R C B H x s ∧ i < 40 ∧ ∀ H', Same H H' → Q (.bl (Rc87.others s.counters i)) H'
abbrev nIsAlone : List Str := ["self", "number"]
theorem scIsAlone : FnScope nIsAlone nIsAlone (defScope sIsAlone) := ⟨rfl, rfl, rfl, by decide +kernel, rfl, by decide +kernel, by decide +kernel⟩
theorem ok_isAlone {f : Addr} {fd : FuncData} (F : Fun K "is_alone" "Counting.is_alone" sIsAlone f fd) (T : Txt K mg R C) : FnOk P w K mg base CX0 1 f fd nIsAlone (spIsAlone R C) := by
  refine F.ok scIsAlone (fun vs H Q E h => ?_) (fun cdv A outer s H vs Q E hr h => ?_)
  · obtain ⟨B, x, s, i, rfl, _⟩ := h
    rfl
  · obtain ⟨B, x, s, i, rfl, S, hi, k⟩ := h
    refine ⟨_, pss_one (ps_ret (pe_cmpR op_eq (pe_callB (cr_max rfl) (by rfl) T.max (by decide +kernel) (pa_cons (pe_op op_cat (pe_slice sl_list (pe_fld (pv 0) rfl) po_none (po_some (pv 1))) (pe_slice sl_list (pe_fld (pv 0) rfl) (po_some (pe_op op_add (pv 1) pe_int)) po_none)) pa_nil)) pe_int (nomark _))), ?_⟩
    obtain ⟨dx, lc, lr, lk, rs, qs, e1, e2, e3, e4, e5, e6, setC, setA⟩ := S.view
    have cl := S.good.cl
    refine ⟨_, rfl, x, C, dx, _, _, rfl, e1, T.clC, T.nCounters, cF_counters _ _ _ _, _, rfl, _, rfl, lc, _, rfl, SqL.of e2, fun p1 n1 => ?_⟩
    rw [cut_lo (by omega)]
    have s1 : Same H (upd H p1 (.lst (vsN (s.counters.take i)))) := upd_new n1
    refine ⟨_, rfl, x, C, dx, _, _, rfl, s1 _ _ e1, T.clC, T.nCounters, cF_counters _ _ _ _, _, rfl, _, _, rfl, rfl, _, rfl, lc, _, rfl, SqL.of (s1 _ _ e2), fun p2 n2 => ?_⟩
    have e9 : (i : Int) + 1 = ((i + 1 : Nat) : Int) := by omega
    rw [e9, cut_hi (by omega)]
    have s2 : Same (upd H p1 (.lst (vsN (s.counters.take i)))) (upd (upd H p1 (.lst (vsN (s.counters.take i)))) p2 (.lst (vsN (s.counters.drop (i + 1))))) := upd_new n2
    refine ⟨p1, p2, _, _, rfl, rfl, s2 _ _ upd_same, upd_same, ?_, fun p3 n3 => ?_⟩
    · rw [vsN_length, vsN_length, List.length_take, List.length_drop]
      exact sl64 (by omega)
    rw [← vsN_append]
    refine ⟨p3, (s.counters.take i ++ s.counters.drop (i + 1)).map nI, rfl, SqL.of upd_same, ?_, fun m hm hle => ?_⟩
    · rw [List.length_map, List.length_append, List.length_take, List.length_drop]
      omega
    refine ⟨rfl, ?_⟩
    have q := k _ ((s1.trans s2).trans (upd_new (o := .lst (vsN (s.counters.take i ++ s.counters.drop (i + 1)))) n3))
    have e : decide (V.int m = V.int 0) = Rc87.others s.counters i := by
      cases ho : Rc87.others s.counters i with
      | true =>
        rw [others_iff] at ho
        obtain ⟨y, hy, rfl⟩ := List.mem_map.mp hm
        rw [ho y hy]
        rfl
      | false =>
        refine decide_eq_false fun z => ?_
        injection z with z
        have : Rc87.others s.counters i = true := others_iff.mpr fun y hy => by
          have := hle (nI y) (List.mem_map.mpr ⟨y, hy, rfl⟩)
          unfold nI at this
          omega
        rw [this] at ho
        cases ho
    rw [e]
    exact q
end
end Fc
/-! D7: Counting: run, run_steps, run_alone, instruction_done, go. -/
namespace Fc
open PySem PySem.Spec PyProof.Rows L2
open Rc87 (Rule Abs Ins)
theorem step_cases {s : Abs} (G : Good s) : (Rc87.step s.rules s.counters = none ∧ Rc87.does s .step = (s, { value := -2 })) ∨
    (∃ d, Rc87.step s.rules s.counters = some d ∧ Rc87.small d = false ∧ Rc87.does s .step = (s, { value := -3 })) ∨
    ∃ (i : Nat) (d : List Nat), Rc87.step s.rules s.counters = some d ∧ Rc87.small d = true ∧ Good { s with counters := d } ∧ Rc87.does s .step = ({ s with counters := d }, { value := (i : Int) }) := by
  rcases next_cases s.rules s.counters with ⟨n1, n2, _⟩ | ⟨i, r, hr0, hf, _, n1, n2⟩
  · exact .inl ⟨n2, does_step_none n1⟩
  · cases sm : Rc87.small (Rc87.applied r s.counters) with
    | false => exact .inr (.inl ⟨_, n2, sm, does_step_big n1 n2 sm⟩)
    | true => exact .inr (.inr ⟨i, _, n2, sm, good_counters G (applied_length (G.rs _ (mem_take hr0)) G.cl) sm, does_step_ok n1 n2 sm⟩)
theorem upd2_new {H : Hp} {q : Addr} {o u : HO} (h : H q = Option.none) : Same H (upd (upd H q o) q u) := by
  rw [upd_upd]
  exact upd_new h
def alV : Option Nat → V
  | none => .non
  | some i => .int (i : Int)
theorem why_dict : valV (mergeK [] [((Sum.inl (-2) : Key), V.int 1), (Sum.inl (-3), V.int 2)]) (Sum.inl (-2)) = some (V.int 1) ∧ valV (mergeK [] [((Sum.inl (-2) : Key), V.int 1), (Sum.inl (-3), V.int 2)]) (Sum.inl (-3)) = some (V.int 2) := by decide +kernel
section
variable {P : Program} {w : World} {K : PySem.W.Frag} {mg : Str → Option Value} {base : Heap} {R C : Addr}

/-! ### run -/
def runS (s : Abs) (al : Option Nat) (k : Nat) : Abs := { s with counters := (runG s.rules al k s.counters).2.2 }
def spRun (R C : Addr) : Sp := fun vs H Q _ => ∃ (B : Hp) (x : Addr) (s : Abs) (k : Nat) (al : Option Nat), vs = [.ref x, .int (k : Int), alV al] ∧ St R C B H x s ∧ (∀ i, al = some i → i < 40) ∧
  ∀ (H' : Hp) (p : Addr), St R C B H' x (runS s al k) → H' p = Option.none → Q (.ref p) (upd H' p (.lst [V.int (((runG s.rules al k s.counters).1 : Nat) : Int), V.int (((runG s.rules al k s.counters).2.1 : Nat) : Int)]))
abbrev nRun : List Str := ["self", "most", "alone", "done", "told"]
theorem scRun : FnScope nRun ["self", "most", "alone"] (defScope sRun) := ⟨rfl, rfl, rfl, by decide +kernel, rfl, by decide +kernel, by decide +kernel⟩
/-- what the loop of run keeps: behind j steps c is had -/
def RunInv (s : Abs) (al : Option Nat) (k j : Nat) (c : List Nat) : Prop :=
  runG s.rules al k s.counters = ((runG s.rules al (k - j) c).1, (runG s.rules al (k - j) c).2.1 + j, (runG s.rules al (k - j) c).2.2)
theorem ok_run {f : Addr} {fd : FuncData} (F : Fun K "run" "Counting.run" sRun f fd) (T : Txt K mg R C) (GS : MtC P w K mg base C "step" 3 ["self"] (spStep R C)) (GA : MtC P w K mg base C "is_alone" 1 ["self", "number"] (spIsAlone R C)) :
    FnOk P w K mg base CX0 4 f fd ["self", "most", "alone"] (spRun R C) := by
  obtain ⟨fs, fds, GS, mS, bS⟩ := GS
  obtain ⟨fa, fda, GA, mA, bA⟩ := GA
  refine F.ok scRun (fun vs H Q E h => ?_) (fun cdv A outer s H vs Q E hr h => ?_)
  · obtain ⟨B, x, s, k, al, rfl, _⟩ := h
    rfl
  · obtain ⟨B, x, s, n, al, rfl, S, hal, k⟩ := h
    have hr1 : Room 1 _ := hr.mono (by decide)
    refine ⟨_, pss_cons (ps_set (i := 3) scRun.nd rfl (Or.inl rfl) pe_int)
      (pss_cons (ps_while PassesOwn.never (pt_cmpR op_lt (pv 3) (pv 1) (nomark _))
        (pss_cons (ps_set (i := 4) scRun.nd rfl (Or.inl rfl) (pe_ix ix_list (pe_meth0 (pv 0) T.clC mS GS hr bS .nil pass0) pe_int (fun _ _ => rfl)))
        (pss_cons (ps_if (pt_cmpR op_lt (pv 4) pe_int (nomark _)) (pss_one (ps_ret (pe_lst (pa_cons (pe_dget (hu_of hr) (pe_disp (pps_cons (pe_gint rfl T.gNONE) (pe_gint rfl T.gAT_END) (pps_cons (pe_gint rfl T.gBEYOND) (pe_gint rfl T.gTOO_MUCH) pps_nil)) (by rfl) (by rfl) (fun z => by cases z) (by decide)) (pv 4) (fun _ _ => rfl)) (pa_cons (pv 3) pa_nil))))) pss_nil)
        (pss_cons (ps_aug (i := 3) scRun.nd rfl (.inl rfl) pe_int ip_add)
        (pss_one (ps_if (PW.pt (pw_and (pt_cmpR op_notN (pv 2) pe_non (nomark _)) (pw_and1 (pt_val (pe_meth (pv 0) T.clC mA GA hr1 bA .nil pass0 (pa_cons (pv 2) pa_nil)))))) (pss_one (ps_ret (pe_lst (pa_cons (pe_gint rfl T.gALONE) (pa_cons (pv 3) pa_nil))))) pss_nil))))))
      (pss_one (ps_ret (pe_lst (pa_cons (pe_gint rfl T.gDONE) (pa_cons (pv 3) pa_nil)))))), ?_⟩
    refine ⟨fun m σ H' => ∃ (j : Nat) (c : List Nat) (v : Option V), σ = [some (V.ref x), some (V.int (n : Int)), some (alV al), some (V.int (j : Int)), v] ∧ St R C B H' x { s with counters := c } ∧ j ≤ n ∧ m = n - j ∧ RunInv s al n j c,
      ⟨n, 0, s.counters, none, rfl, S, Nat.zero_le _, rfl, rfl⟩, ?_⟩
    rintro m σ H1 ⟨j, c, v, rfl, S1, hj, rfl, RI⟩
    refine ⟨_, rfl, _, rfl, _, _, rfl, rfl, _, rfl, ite_dec (fun hlt => ?_) (fun hlt => ?_)⟩
    · have hlt : j < n := by omega
      obtain ⟨m, em⟩ : ∃ m, n - j = m + 1 := ⟨n - j - 1, by omega⟩
      refine ⟨fun σ' H' => ∃ (c : List Nat) (v : Option V), σ' = [some (V.ref x), some (V.int (n : Int)), some (alV al), some (V.int ((j + 1 : Nat) : Int)), v] ∧ St R C B H' x { s with counters := c } ∧ RunInv s al n (j + 1) c,
        fun σ' H' ⟨c', v', e1, e2, e3⟩ => ⟨n - (j + 1), by omega, j + 1, c', v', e1, e2, by omega, rfl, e3⟩, ?_⟩
      obtain ⟨dx, lc, lr, lk, rs, qs, e1, e2, e3, e4, e5, e6, setC, setA⟩ := S1.view
      have fin : ∀ (r : Nat × Nat × List Nat), runG s.rules al (n - j) c = r → RunInv s al n j c → runG s.rules al n s.counters = (r.1, r.2.1 + j, r.2.2) := fun r er RI => by
        unfold RunInv at RI
        rw [er] at RI
        exact RI
      refine ⟨_, rfl, x, dx, _, rfl, e1, cF_no _ _ _ _ (by decide +kernel) (by decide +kernel) (by decide +kernel) (by decide +kernel), B, x, { s with counters := c }, rfl, S1, fun H2 p S2 hp e => ?_⟩
      rcases step_cases S1.good with ⟨st, dn⟩ | ⟨d, st, sm, dn⟩ | ⟨i, d, st, sm, Gd, dn⟩
      · rw [dn] at S2 e
        have st : Rc87.step s.rules c = none := st
        have er : runG s.rules al n s.counters = (1, j, c) := by
          have q := fin (1, 0, c) (by rw [em]; exact runG_stop st) RI
          exact q.trans (by simp)
        refine ⟨p, _, _, _, rfl, rfl, SqL.of e, atI_nat (j := 0) rfl, ?_⟩
        refine ⟨_, rfl, _, _, rfl, rfl, _, rfl, ite_dec (fun _ => ?_) (fun h => absurd (show (-2 : Int) < 0 by decide) h)⟩
        intro q hq
        refine ⟨upd_same, [((Sum.inl (-2) : Key), V.int 1), (Sum.inl (-3), V.int 2)], rfl, by decide, _, rfl, q, V.int 1, rfl, ?_, _, rfl, (by show 2 ≤ sizeLine; decide), fun p2 hp2 => ?_⟩
        · have g := DGet.k (k := (Sum.inl (-2) : Key)) (upd_same (H := upd H2 q (.dK [])) (a := q) (o := .dK (mergeK [] [((Sum.inl (-2) : Key), V.int 1), (Sum.inl (-3), V.int 2)])))
          rw [why_dict.1] at g
          exact g
        · unfold runS at k
          rw [er] at k
          exact k _ p2 (S2.mono (upd2_new hq)) hp2
      · rw [dn] at S2 e
        have st : Rc87.step s.rules c = some d := st
        have er : runG s.rules al n s.counters = (2, j, c) := by
          have q := fin (2, 0, c) (by rw [em]; exact runG_big st sm) RI
          exact q.trans (by simp)
        refine ⟨p, _, _, _, rfl, rfl, SqL.of e, atI_nat (j := 0) rfl, ?_⟩
        refine ⟨_, rfl, _, _, rfl, rfl, _, rfl, ite_dec (fun _ => ?_) (fun h => absurd (show (-3 : Int) < 0 by decide) h)⟩
        intro q hq
        refine ⟨upd_same, [((Sum.inl (-2) : Key), V.int 1), (Sum.inl (-3), V.int 2)], rfl, by decide, _, rfl, q, V.int 2, rfl, ?_, _, rfl, (by show 2 ≤ sizeLine; decide), fun p2 hp2 => ?_⟩
        · have g := DGet.k (k := (Sum.inl (-3) : Key)) (upd_same (H := upd H2 q (.dK [])) (a := q) (o := .dK (mergeK [] [((Sum.inl (-2) : Key), V.int 1), (Sum.inl (-3), V.int 2)])))
          rw [why_dict.2] at g
          exact g
        · unfold runS at k
          rw [er] at k
          exact k _ p2 (S2.mono (upd2_new hq)) hp2
      · rw [dn] at S2 e
        have st : Rc87.step s.rules c = some d := st
        have S2 : St R C B H2 x { s with counters := d } := S2
        refine ⟨p, _, _, _, rfl, rfl, SqL.of e, atI_nat (j := 0) rfl, ?_⟩
        refine ⟨_, rfl, _, _, rfl, rfl, _, rfl, ite_dec (fun h => absurd h (by show ¬ ((i : Nat) : Int) < 0; omega)) (fun _ => ?_)⟩
        refine ⟨_, rfl, _, _, rfl, rfl, ?_⟩
        have e9 : (j : Int) + 1 = ((j + 1 : Nat) : Int) := by omega
        dsimp only
        rw [e9]
        have go : isAl al d = false → RunInv s al n (j + 1) d := fun ha => by
          have q := fin _ ((congrArg (fun z => runG s.rules al z c) em).trans (runG_go st sm ha)) RI
          unfold RunInv
          rw [q, show n - (j + 1) = m by omega]
          simp only [Prod.mk.injEq, true_and, and_true]
          omega
        cases al with
        | none =>
          refine ⟨_, rfl, rfl, _, rfl, iteF ?_⟩
          exact ⟨d, _, rfl, S2, go rfl⟩
        | some i2 =>
          refine ⟨_, rfl, rfl, _, rfl, iteT ?_⟩
          obtain ⟨dx, lc, lr, lk, rs, qs, e1, e2, e3, e4, e5, e6, setC, setA⟩ := S2.view
          refine ⟨_, rfl, x, dx, _, rfl, e1, cF_no _ _ _ _ (by decide +kernel) (by decide +kernel) (by decide +kernel) (by decide +kernel), _, rfl, B, x, { s with counters := d }, i2, rfl, S2, hal i2 rfl, fun H3 s3 => ⟨_, rfl, ?_⟩⟩
          cases ho : Rc87.others d i2 with
          | true =>
            have er : runG s.rules (some i2) n s.counters = (3, j + 1, d) := by
              have q := fin (3, 1, d) (by rw [em]; exact runG_al st sm ho) RI
              exact q.trans (by rw [Nat.add_comm])
            refine iteT ⟨_, rfl, (by show 2 ≤ sizeLine; decide), fun p2 hp2 => ?_⟩
            unfold runS at k
            rw [er] at k
            exact k _ p2 (S2.mono s3) hp2
          | false => exact iteF ⟨d, _, rfl, S2.mono s3, go ho⟩
    · have ej : j = n := by omega
      subst ej
      unfold RunInv at RI
      rw [Nat.sub_self] at RI
      have er : runG s.rules al j s.counters = (0, j, c) := by
        rw [RI]
        show (0, 0 + j, c) = _
        rw [Nat.zero_add]
      refine ⟨_, rfl, (by show 2 ≤ sizeLine; decide), fun p2 hp2 => ?_⟩
      unfold runS at k
      rw [er] at k
      exact k _ p2 S1 hp2

/-! ### run_steps, run_alone -/
def spRunSteps (R C : Addr) : Sp := fun vs H Q _ => ∃ (B : Hp) (x : Addr) (s : Abs) (k : Int), vs = [.ref x, .int k] ∧ St R C B H x s ∧ Post R C B x s (.run k) Q
abbrev nRunSteps : List Str := ["self", "most"]
theorem scRunSteps : FnScope nRunSteps nRunSteps (defScope sRunSteps) := ⟨rfl, rfl, rfl, by decide +kernel, rfl, by decide +kernel, by decide +kernel⟩
theorem ok_runSteps {f : Addr} {fd : FuncData} (F : Fun K "run_steps" "Counting.run_steps" sRunSteps f fd) (T : Txt K mg R C) (GI : FnC P w K mg base "is_count" 1 ["number"] spIsCount) (GR : MtC P w K mg base C "run" 4 ["self", "most", "alone"] (spRun R C)) : FnOk P w K mg base CX0 5 f fd nRunSteps (spRunSteps R C) := by
  obtain ⟨fi, fdi, GI, mI, kI, bI⟩ := GI
  obtain ⟨fr, fdr, GR, mR, bR⟩ := GR
  refine F.ok scRunSteps (fun vs H Q E h => ?_) (fun cdv A outer s H vs Q E hr h => ?_)
  · obtain ⟨B, x, s, k, rfl, _⟩ := h
    rfl
  · obtain ⟨B, x, s, n, rfl, S, k⟩ := h
    have hr1 : Room 1 _ := hr.mono (by decide)
    refine ⟨_, pss_cons (ps_if (pt_not (pt_val (pe_call GI hr1 rfl mI kI bI .nil pass0 (pa_cons (pv 1) pa_nil)))) (pss_one (ps_ret (pe_lst (pa_cons (pe_gint rfl T.gWRONG) pa_nil)))) pss_nil)
      (pss_one (ps_ret (pe_meth (pv 0) T.clC mR GR hr bR .nil pass0 (pa_cons (pv 1) (pa_cons pe_non pa_nil))))), ?_⟩
    refine ⟨_, rfl, n, rfl, _, rfl, ?_⟩
    by_cases hn : 0 ≤ n ∧ n ≤ 1000000000
    · rw [decide_eq_true hn]
      refine iteF ?_
      obtain ⟨dx, lc, lr, lk, rs, qs, e1, e2, e3, e4, e5, e6, setC, setA⟩ := S.view
      obtain ⟨n, rfl⟩ : ∃ j : Nat, n = (j : Int) := ⟨n.toNat, by omega⟩
      refine ⟨_, rfl, x, dx, _, rfl, e1, cF_no _ _ _ _ (by decide +kernel) (by decide +kernel) (by decide +kernel) (by decide +kernel), _, rfl, B, x, s, n, none, rfl, S, fun i e => (by cases e), fun H' p S' hp => ?_⟩
      exact k.use (does_run_ok hn) S' hp
    · rw [decide_eq_false hn]
      exact iteT ⟨(by show 1 ≤ sizeLine; decide), fun p hp => k.use (does_run_no hn) S hp⟩
def spRunAlone (R C : Addr) : Sp := fun vs H Q _ => ∃ (B : Hp) (x : Addr) (s : Abs) (i k : Int), vs = [.ref x, .int i, .int k] ∧ St R C B H x s ∧ Post R C B x s (.alone i k) Q
abbrev nRunAlone : List Str := ["self", "number", "most"]
theorem scRunAlone : FnScope nRunAlone nRunAlone (defScope sRunAlone) := ⟨rfl, rfl, rfl, by decide +kernel, rfl, by decide +kernel, by decide +kernel⟩
theorem ok_runAlone {f : Addr} {fd : FuncData} (F : Fun K "run_alone" "Counting.run_alone" sRunAlone f fd) (T : Txt K mg R C) (GC : FnC P w K mg base "is_counter" 1 ["number"] spIsCounter) (GI : FnC P w K mg base "is_count" 1 ["number"] spIsCount) (GR : MtC P w K mg base C "run" 4 ["self", "most", "alone"] (spRun R C)) :
    FnOk P w K mg base CX0 5 f fd nRunAlone (spRunAlone R C) := by
  obtain ⟨fc, fdc, GC, mC, kC, bC⟩ := GC
  obtain ⟨fi, fdi, GI, mI, kI, bI⟩ := GI
  obtain ⟨fr, fdr, GR, mR, bR⟩ := GR
  refine F.ok scRunAlone (fun vs H Q E h => ?_) (fun cdv A outer s H vs Q E hr h => ?_)
  · obtain ⟨B, x, s, i, k, rfl, _⟩ := h
    rfl
  · obtain ⟨B, x, s, i, n, rfl, S, k⟩ := h
    have hr1 : Room 1 _ := hr.mono (by decide)
    refine ⟨_, pss_cons (ps_if (PW.pt (pw_or (pt_not (pt_val (pe_call GC hr1 rfl mC kC bC .nil pass0 (pa_cons (pv 1) pa_nil)))) (pw_or1 (pt_not (pt_val (pe_call GI hr1 rfl mI kI bI .nil pass0 (pa_cons (pv 2) pa_nil))))))) (pss_one (ps_ret (pe_lst (pa_cons (pe_gint rfl T.gWRONG) pa_nil)))) pss_nil)
      (pss_one (ps_ret (pe_meth (pv 0) T.clC mR GR hr bR .nil pass0 (pa_cons (pv 2) (pa_cons (pv 1) pa_nil))))), ?_⟩
    refine ⟨_, rfl, i, rfl, _, rfl, ?_⟩
    by_cases hi : 0 ≤ i ∧ i < 40
    · rw [decide_eq_true hi]
      refine iteF ?_
      refine ⟨_, rfl, n, rfl, _, rfl, ?_⟩
      by_cases hn : 0 ≤ n ∧ n ≤ 1000000000
      · rw [decide_eq_true hn]
        refine iteF ?_
        obtain ⟨dx, lc, lr, lk, rs, qs, e1, e2, e3, e4, e5, e6, setC, setA⟩ := S.view
        obtain ⟨n, rfl⟩ : ∃ j : Nat, n = (j : Int) := ⟨n.toNat, by omega⟩
        obtain ⟨i, rfl⟩ : ∃ j : Nat, i = (j : Int) := ⟨i.toNat, by omega⟩
        refine ⟨_, rfl, x, dx, _, rfl, e1, cF_no _ _ _ _ (by decide +kernel) (by decide +kernel) (by decide +kernel) (by decide +kernel), _, rfl, _, rfl, B, x, s, n, some i, rfl, S, fun i' e => (by cases e; omega), fun H' p S' hp => ?_⟩
        exact k.use (does_alone_ok hi hn) S' hp
      · rw [decide_eq_false hn]
        exact iteT ⟨(by show 1 ≤ sizeLine; decide), fun p hp => k.use (does_alone_no (.inr hn)) S hp⟩
    · rw [decide_eq_false hi]
      exact iteT ⟨(by show 1 ≤ sizeLine; decide), fun p hp => k.use (does_alone_no (.inl hi)) S hp⟩
end
end Fc
/-! D8: Counting: instruction_done, go. -/
namespace Fc
open Rc87 (Rule Abs Ins)
theorem ins_halt {s : Abs} (h : s.code.getD s.at_ .halt_ = .halt_) : insDone s = (1, s) := by
  unfold insDone Rc87.does1
  simp only [h]
theorem set_big {c : List Nat} {r v : Nat} (hr : r < c.length) (hv : 2147483647 < v) : Rc87.small (c.set r v) = false := by
  unfold Rc87.small
  rw [List.all_eq_false]
  refine ⟨v, List.mem_of_getElem? (i := r) (List.getElem?_set_self hr), ?_⟩
  rw [decide_eq_true_eq]
  unfold Rc87.HIGH
  omega
theorem ins_more_big {s : Abs} {r j : Nat} (h : s.code.getD s.at_ .halt_ = .more r j) (hr : r < s.counters.length) (hc : s.counters.getD r 0 = 2147483647) : insDone s = (2, s) := by
  unfold insDone Rc87.does1
  simp only [h]
  rw [if_pos]
  show Rc87.small (s.counters.set r (s.counters.getD r 0 + 1)) = false
  exact set_big hr (by omega)
theorem ins_more {s : Abs} {r j : Nat} (h : s.code.getD s.at_ .halt_ = .more r j) (hs : Rc87.small s.counters = true) (hc : s.counters.getD r 0 + 1 ≤ 2147483647) : insDone s = (0, { s with at_ := j, counters := s.counters.set r (s.counters.getD r 0 + 1) }) := by
  unfold insDone Rc87.does1
  simp only [h]
  have q : Rc87.small (s.counters.set r (s.counters.getD r 0 + 1)) = true := small_set hs hc
  rw [if_neg (by show ¬ Rc87.small (s.counters.set r (s.counters.getD r 0 + 1)) = false; rw [q]; decide)]
  rfl
theorem ins_less_0 {s : Abs} {r j k : Nat} (h : s.code.getD s.at_ .halt_ = .less r j k) (hs : Rc87.small s.counters = true) (hc : s.counters.getD r 0 = 0) : insDone s = (0, { s with at_ := k }) := by
  unfold insDone Rc87.does1
  simp only [h]
  rw [if_pos (show Rc87.at_ s.counters r = 0 from hc)]
  simp only [hs]
  rfl
theorem ins_less {s : Abs} {r j k : Nat} (h : s.code.getD s.at_ .halt_ = .less r j k) (hs : Rc87.small s.counters = true) (h1 : s.counters.getD r 0 ≤ 2147483647) (hc : 0 < s.counters.getD r 0) : insDone s = (0, { s with at_ := j, counters := s.counters.set r (s.counters.getD r 0 - 1) }) := by
  unfold insDone Rc87.does1
  simp only [h]
  rw [if_neg (show ¬ Rc87.at_ s.counters r = 0 by show ¬ s.counters.getD r 0 = 0; omega)]
  have q : Rc87.small (s.counters.set r (s.counters.getD r 0 - 1)) = true := small_set hs (by omega)
  simp only
  rw [if_neg (by show ¬ Rc87.small (s.counters.set r (s.counters.getD r 0 - 1)) = false; rw [q]; decide)]
  rfl
theorem good_at {s : Abs} (G : Good s) {n : Nat} (h : n < s.code.length) : Good { s with at_ := n } := ⟨G.cl, G.cs, G.rl, G.rs, G.kl, G.ks, .inl h⟩
theorem small_at {c : List Nat} (h : Rc87.small c = true) (hc : c.length = 40) {i : Nat} (hi : i < 40) : c.getD i 0 ≤ 2147483647 := (small_iff hc).mp h i hi
open PySem PySem.Spec PyProof.Rows L2
/-! ### a code as data -/
def dI (n : Nat) : PyData := .int (n : Int)
def qD (q : List Nat) : PyData := .tuple (q.map dI)
theorem lay_ints : ∀ q : List Nat, PyData.canLayAll0 (q.map dI) = true
  | [] => rfl
  | a :: q => by
    show (PyData.canLay0 (dI a) && PyData.canLayAll0 (q.map dI)) = true
    rw [lay_ints q]
    rfl
theorem lay_quads : ∀ qs : List (List Nat), PyData.canLayAll0 (qs.map qD) = true
  | [] => rfl
  | a :: qs => by
    show (PyData.canLayAll0 (a.map dI) && PyData.canLayAll0 (qs.map qD)) = true
    rw [lay_quads qs, lay_ints a]
    rfl
theorem depth_ints : ∀ q : List Nat, PyData.depthAll (q.map dI) = 0
  | [] => rfl
  | a :: q => by
    show max 0 (PyData.depthAll (q.map dI)) = 0
    rw [depth_ints q]
    rfl
theorem depth_quads : ∀ qs : List (List Nat), PyData.depthAll (qs.map qD) ≤ 1
  | [] => by decide
  | a :: qs => by
    show max (PyData.depthAll (a.map dI) + 1) (PyData.depthAll (qs.map qD)) ≤ 1
    rw [depth_ints a]
    have := depth_quads qs
    omega
theorem shaped_quads (qs : List (List Nat)) : SeqAt.shaped (.list (qs.map qD)) = true := by
  show (PyData.canLayAll0 (qs.map qD) && decide (PyData.depthAll (qs.map qD) + 1 ≤ 64)) = true
  rw [lay_quads, decide_eq_true (by have := depth_quads qs; omega)]
  rfl
theorem eqv_nil (qs : List (List Nat)) : PyData.eqv (.list (qs.map qD)) (.list []) = qs.isEmpty := by
  cases qs <;> rfl
theorem dp_ints {K : PySem.W.Frag} {H : Hp} : ∀ q : List Nat, DpAll K H (vsN q) (q.map dI)
  | [] => .nil
  | a :: q => .cons (.int (a : Int)) (dp_ints q)
theorem dp_quads {K : PySem.W.Frag} {H : Hp} : ∀ {ks : List Addr} {qs : List (List Nat)}, Paired (fun k q => H k = some (.tup (vsN q))) ks qs → DpAll K H (ks.map V.ref) (qs.map qD)
  | _, _, .nil => .nil
  | _, _, .cons r t => .cons (.tup (SqT.of r) (dp_ints _)) (dp_quads t)
section
variable {P : Program} {w : World} {K : PySem.W.Frag} {mg : Str → Option Value} {base : Heap} {R C : Addr}

/-! ### instruction_done -/
def spInsDone (R C : Addr) : Sp := fun vs H Q _ => ∃ (B : Hp) (x : Addr) (s : Abs), vs = [.ref x] ∧ St R C B H x s ∧ ∀ H', St R C B H' x (insDone s).2 → Q (.int (((insDone s).1 : Nat) : Int)) H'
abbrev nInsDone : List Str := ["self", "deed", "counter", "there", "other"]
theorem scInsDone : FnScope nInsDone ["self"] (defScope sInsDone) := ⟨rfl, rfl, rfl, by decide +kernel, rfl, by decide +kernel, by decide +kernel⟩
theorem ok_insDone {f : Addr} {fd : FuncData} (F : Fun K "instruction_done" "Counting.instruction_done" sInsDone f fd) (T : Txt K mg R C) : FnOk P w K mg base CX0 1 f fd ["self"] (spInsDone R C) := by
  refine F.ok scInsDone (fun vs H Q E h => ?_) (fun cdv A outer s H vs Q E hr h => ?_)
  · obtain ⟨B, x, s, rfl, _⟩ := h
    rfl
  · obtain ⟨B, x, s, rfl, S, k⟩ := h
    refine ⟨_, pss_cons (ps_if (PW.pt (pw_or (pt_cmpR (op_eqD hr.units) (pe_fld (pv 0) rfl) (pe_lst pa_nil) (nomark _)) (pw_or1 (pt_cmpR op_eq (pe_ix ix_tup (pe_ix ix_list (pe_fld (pv 0) rfl) (pe_fld (pv 0) rfl) (fun _ _ => rfl)) pe_int (fun _ _ => rfl)) (pe_gint rfl T.gSTOP) (nomark _))))) (pss_one (ps_ret (pe_gint rfl T.gAT_END))) pss_nil)
      (pss_cons (ps_asg (pe_ix ix_list (pe_fld (pv 0) rfl) (pe_fld (pv 0) rfl) (fun _ _ => rfl)) (pg_tup rfl (pgs_cons (pg_name (i := 1) scInsDone.nd rfl (.inl rfl)) (pgs_cons (pg_name (i := 2) scInsDone.nd rfl (.inl rfl)) (pgs_cons (pg_name (i := 3) scInsDone.nd rfl (.inl rfl)) (pgs_cons (pg_name (i := 4) scInsDone.nd rfl (.inl rfl)) pgs_nil))))))
      (pss_cons (ps_if (PW.pt (pw_and (pt_cmpR op_eq (pv 1) (pe_gint rfl T.gMORE) (nomark _)) (pw_and1 (pt_cmpR op_eq (pe_ix ix_list (pe_fld (pv 0) rfl) (pv 2) (fun _ _ => rfl)) (pe_gint rfl T.gMOST) (nomark _))))) (pss_one (ps_ret (pe_gint rfl T.gTOO_MUCH))) pss_nil)
      (pss_cons (ps_fld (pv 0) (pv 3) rfl)
      (pss_cons (ps_if (pt_cmpR op_eq (pv 1) (pe_gint rfl T.gMORE) (nomark _)) (pss_one (ps_augS (pe_fld (pv 0) rfl) (pv 2) pget_list pe_int ip_add set_list))
        (pss_one (ps_if (PW.pt (pw_and (pt_cmpR op_eq (pv 1) (pe_gint rfl T.gLESS) (nomark _)) (pw_and1 (pt_cmpR op_gt (pe_ix ix_list (pe_fld (pv 0) rfl) (pv 2) (fun _ _ => rfl)) pe_int (nomark _))))) (pss_one (ps_augS (pe_fld (pv 0) rfl) (pv 2) pget_list pe_int ip_sub set_list)) (pss_one (ps_fld (pv 0) (pv 4) rfl)))))
      (pss_one (ps_ret (pe_gint rfl T.gDONE))))))), ?_⟩
    obtain ⟨dx, lc, lr, lk, rs, qs, e1, e2, e3, e4, e5, e6, setC, setA⟩ := S.view
    obtain ⟨ks, k1, k2⟩ := e5
    refine ⟨_, rfl, x, C, dx, _, _, rfl, e1, T.clC, T.nCode, cF_code _ _ _ _, Nat.zero_le _, fun p hp => ?_⟩
    have s1 : Same H (upd H p (.lst [])) := upd_new hp
    refine ⟨.list (qs.map qD), .list [], .lst (SqL.of (s1 _ _ k1)) (dp_quads (pr_map k2 fun a b z => s1 _ _ z)), .lst (SqL.of upd_same) .nil, shaped_quads qs, rfl, _, rfl, ?_⟩
    rw [eqv_nil]
    have S1 := S.mono s1
    have stop : insDone s = (1, s) → Q (.int 1) (upd H p (.lst [])) := fun e => by
      have q := k (upd H p (.lst []))
      rw [e] at q
      exact q S1
    have kq : ∀ {n : Nat} {s' : Abs}, insDone s = (n, s') → ∀ H', St R C B H' x s' → Q (.int (n : Int)) H' := fun e H' S => by
      have q := k H'
      rw [e] at q
      exact q S
    have G := S.good
    have lqc : qs.length = s.code.length := pr_len e6
    rcases G.at_ with hat | ⟨_, hn⟩
    · rw [show qs.isEmpty = false by
        cases qs with
        | nil =>
          have : 0 = s.code.length := lqc
          omega
        | cons a l => rfl]
      refine iteF ?_
      clear k1 k2 e1 e2 e3 e4 e6 setC setA
      generalize upd H p (.lst []) = H1 at S1 stop ⊢
      obtain ⟨dx, lc, lr, lk, rs, qs, e1, e2, e3, e4, ⟨ks, k1, k2⟩, e6, setC, setA⟩ := S1.view
      obtain ⟨ins, hin⟩ : ∃ i, s.code[s.at_]? = some i := ⟨_, List.getElem?_eq_getElem hat⟩
      have hgd : s.code.getD s.at_ .halt_ = ins := by rw [List.getD_eq_getElem?_getD, hin]; rfl
      obtain ⟨q, hq, hI⟩ := pr_get' e6 hin
      obtain ⟨kk, hk, ht⟩ := pr_get' k2 hq
      obtain ⟨d, c, t, o, rfl⟩ := len4 hI.1
      have ht : H1 kk = some (.tup [V.int (d : Int), V.int (c : Int), V.int (t : Int), V.int (o : Int)]) := ht
      have gi := G.ks ins (mem_take hin)
      have cl := G.cl
      refine ⟨_, rfl, x, C, dx, _, _, rfl, e1, T.clC, T.nCode, cF_code _ _ _ _, _, rfl, x, C, dx, _, _, rfl, e1, T.clC, T.nAt, cF_at _ _ _ _, lk, _, _, _, rfl, rfl, SqL.of k1, atI_nat (refs_at hk), kk, _, _, _, rfl, rfl, SqT.of ht, atI_nat (j := 0) rfl, rfl, _, rfl, ite_eqI (fun h0 => ?_) (fun h0 => ?_)⟩
      · cases ins with
        | halt_ => exact stop (ins_halt hgd)
        | more r j =>
          have z : d = 1 := hI.2.1
          omega
        | less r j k =>
          have z : d = 2 := hI.2.1
          omega
      refine ⟨_, rfl, x, C, dx, _, _, rfl, e1, T.clC, T.nCode, cF_code _ _ _ _, _, rfl, x, C, dx, _, _, rfl, e1, T.clC, T.nAt, cF_at _ _ _ _, lk, _, _, _, rfl, rfl, SqL.of k1, atI_nat (refs_at hk), kk, _, rfl, SqT.of ht, rfl, _, _, rfl, _, _, rfl, _, _, rfl, _, _, rfl, rfl, ?_⟩
      have atI_c : ∀ {cs : List Nat} {i : Nat}, i < cs.length → atI (vsN cs) ((i : Nat) : Int) = some (V.int ((cs.getD i 0 : Nat) : Int)) := fun h => atI_nat (vsN_getD h)
      cases ins with
      | halt_ =>
        have z : d = 0 := hI.2
        omega
      | more r j =>
        obtain ⟨-, z1, z2, z3⟩ := hI
        have z1 : d = 1 := z1
        have z2 : c = r := z2
        have z3 : t = j := z3
        subst z1
        subst z2
        subst z3
        have g1 : c < 8 := gi.1
        have g2 : t < s.code.length := gi.2
        have cm := small_at G.cs cl (i := c) (by omega)
        refine ⟨_, rfl, rfl, _, rfl, ite_eqI (fun _ => ?_) (fun h => absurd rfl h)⟩
        refine ⟨_, rfl, x, C, dx, _, _, rfl, e1, T.clC, T.nCounters, cF_counters _ _ _ _, _, rfl, lc, _, _, _, rfl, rfl, SqL.of e2, atI_c (by omega), rfl, _, rfl, ite_eqI (fun h1 => ?_) (fun h1 => ?_)⟩
        · have h1 : s.counters.getD c 0 = 2147483647 := Int.ofNat.inj h1
          have q := k H1
          rw [ins_more_big hgd (by omega) h1] at q
          exact q S1
        have h1 : s.counters.getD c 0 ≠ 2147483647 := fun z => h1 (congrArg Int.ofNat z)
        refine ⟨_, rfl, _, rfl, x, C, dx, _, rfl, e1, T.clC, T.nAt, (by show 4 < 1000; decide), ?_⟩
        have S2 := setA (upd H1 x (.ins C dx (putF "at" (.int (t : Int)) (cF lc lr lk s.at_)))) t (fun b hb => upd_ne hb) (by rw [upd_same, cF_putAt]) (good_at G g2)
        generalize upd H1 x (.ins C dx (putF "at" (.int (t : Int)) (cF lc lr lk s.at_))) = H2 at S2 ⊢
        obtain ⟨dx, lc, lr, lk, rs, qs, e1, e2, e3, e4, e5, e6, setC, setA⟩ := S2.view
        refine ⟨_, rfl, rfl, _, rfl, ite_eqI (fun _ => ?_) (fun h => absurd rfl h)⟩
        refine ⟨_, rfl, x, C, dx, _, _, rfl, e1, T.clC, T.nCounters, cF_counters _ _ _ _, _, rfl, lc, _, c, _, rfl, rfl, SqL.of e2, vsN_getD (by show c < s.counters.length; omega), _, _, rfl, rfl, lc, _, _, c, rfl, rfl, e2, ixN_nat (by rw [vsN_length]; show c < s.counters.length; omega), ?_⟩
        have hset : (vsN s.counters).set c (V.int (((s.counters.getD c 0 : Nat) : Int) + 1)) = vsN (s.counters.set c (s.counters.getD c 0 + 1)) := vsN_set s.counters c (s.counters.getD c 0 + 1)
        have S3 := setC (upd H2 lc (.lst ((vsN s.counters).set c (V.int (((s.counters.getD c 0 : Nat) : Int) + 1))))) _ (fun b hb => upd_ne hb) (by rw [upd_same, hset]) (good_counters (good_at G g2) (by rw [List.length_set]; exact cl) (small_set G.cs (by omega)))
        have e9 : s.counters.getD c 0 + 1 ≤ 2147483647 := by omega
        exact kq (ins_more hgd G.cs e9) _ S3
      | less r j k' =>
        obtain ⟨-, z1, z2, z3, z4⟩ := hI
        have z1 : d = 2 := z1
        have z2 : c = r := z2
        have z3 : t = j := z3
        have z4 : o = k' := z4
        subst z1
        subst z2
        subst z3
        subst z4
        have g1 : c < 8 := gi.1
        have g2 : t < s.code.length := gi.2.1
        have g3 : o < s.code.length := gi.2.2
        have cm := small_at G.cs cl (i := c) (by omega)
        refine ⟨_, rfl, rfl, _, rfl, ite_eqI (fun h => absurd h (by decide)) (fun _ => ?_)⟩
        refine iteF ?_
        refine ⟨_, rfl, _, rfl, x, C, dx, _, rfl, e1, T.clC, T.nAt, (by show 4 < 1000; decide), ?_⟩
        have S2 := setA (upd H1 x (.ins C dx (putF "at" (.int (t : Int)) (cF lc lr lk s.at_)))) t (fun b hb => upd_ne hb) (by rw [upd_same, cF_putAt]) (good_at G g2)
        generalize upd H1 x (.ins C dx (putF "at" (.int (t : Int)) (cF lc lr lk s.at_))) = H2 at S2 ⊢
        obtain ⟨dx, lc, lr, lk, rs, qs, e1, e2, e3, e4, e5, e6, setC, setA⟩ := S2.view
        refine ⟨_, rfl, rfl, _, rfl, ite_eqI (fun h => absurd h (by decide)) (fun _ => ?_)⟩
        refine ⟨_, rfl, rfl, _, rfl, ite_eqI (fun _ => ?_) (fun h => absurd rfl h)⟩
        refine ⟨_, rfl, x, C, dx, _, _, rfl, e1, T.clC, T.nCounters, cF_counters _ _ _ _, _, rfl, lc, _, _, _, rfl, rfl, SqL.of e2, atI_c (by show c < s.counters.length; omega), _, _, rfl, rfl, _, rfl, ?_⟩
        refine ite_dec (fun h1 => ?_) (fun h1 => ?_)
        · have h1 : 0 < s.counters.getD c 0 := Int.ofNat_lt.mp h1
          refine ⟨_, rfl, x, C, dx, _, _, rfl, e1, T.clC, T.nCounters, cF_counters _ _ _ _, _, rfl, lc, _, c, _, rfl, rfl, SqL.of e2, vsN_getD (by show c < s.counters.length; omega), _, _, rfl, rfl, lc, _, _, c, rfl, rfl, e2, ixN_nat (by rw [vsN_length]; show c < s.counters.length; omega), ?_⟩
          have hset : (vsN s.counters).set c (V.int (((s.counters.getD c 0 : Nat) : Int) - 1)) = vsN (s.counters.set c (s.counters.getD c 0 - 1)) := by
            rw [show ((s.counters.getD c 0 : Nat) : Int) - 1 = ((s.counters.getD c 0 - 1 : Nat) : Int) by omega]
            exact vsN_set s.counters c (s.counters.getD c 0 - 1)
          have S3 := setC (upd H2 lc (.lst ((vsN s.counters).set c (V.int (((s.counters.getD c 0 : Nat) : Int) - 1))))) _ (fun b hb => upd_ne hb) (by rw [upd_same, hset]) (good_counters (good_at G g2) (by rw [List.length_set]; exact cl) (small_set G.cs (by omega)))
          exact kq (ins_less hgd G.cs cm h1) _ S3
        · have h1 : s.counters.getD c 0 = 0 := by
            have : ¬ 0 < s.counters.getD c 0 := fun z => h1 (Int.ofNat_lt.mpr z)
            omega
          refine ⟨_, rfl, _, rfl, x, C, dx, _, rfl, e1, T.clC, T.nAt, (by show 4 < 1000; decide), ?_⟩
          have S3 := setA (upd H2 x (.ins C dx (putF "at" (.int (o : Int)) (cF lc lr lk t)))) o (fun b hb => upd_ne hb) (by rw [upd_same, cF_putAt]) (good_at G g3)
          exact kq (ins_less_0 hgd G.cs h1) _ S3
    · have hq : qs = [] := by
        cases qs with
        | nil => rfl
        | cons a l => rw [hn] at lqc; cases lqc
      subst hq
      exact iteT (iteT (stop (ins_halt (by rw [hn]; rfl))))

/-! ### go -/
theorem insDone_rules (s : Abs) : (insDone s).2.rules = s.rules := by
  unfold insDone
  split
  · rfl
  · split <;> rfl
def spGo (R C : Addr) : Sp := fun vs H Q _ => ∃ (B : Hp) (x : Addr) (s : Abs) (k : Int), vs = [.ref x, .int k] ∧ St R C B H x s ∧ Post R C B x s (.go k) Q
abbrev nGo : List Str := ["self", "most", "done", "why"]
theorem scGo : FnScope nGo ["self", "most"] (defScope sGo) := ⟨rfl, rfl, rfl, by decide +kernel, rfl, by decide +kernel, by decide +kernel⟩
/-- what the loop of go keeps: behind j instructions s' is had -/
structure GoInv (s : Abs) (n j : Nat) (s' : Abs) : Prop where
  rules : s'.rules = s.rules
  code : s'.code = s.code
  eq : Rc87.gone s.code n (s.at_, s.counters) = ((Rc87.gone s.code (n - j) (s'.at_, s'.counters)).1, (Rc87.gone s.code (n - j) (s'.at_, s'.counters)).2.1 + j, (Rc87.gone s.code (n - j) (s'.at_, s'.counters)).2.2)
theorem abs_eq {s s' : Abs} (h1 : s'.rules = s.rules) (h2 : s'.code = s.code) : ({ s with at_ := s'.at_, counters := s'.counters } : Abs) = s' := by
  cases s
  cases s'
  cases h1
  cases h2
  rfl
theorem ok_go {f : Addr} {fd : FuncData} (F : Fun K "go" "Counting.go" sGo f fd) (T : Txt K mg R C) (GI : FnC P w K mg base "is_count" 1 ["number"] spIsCount) (GD : MtC P w K mg base C "instruction_done" 1 ["self"] (spInsDone R C)) : FnOk P w K mg base CX0 2 f fd ["self", "most"] (spGo R C) := by
  obtain ⟨fi, fdi, GI, mI, kI, bI⟩ := GI
  obtain ⟨fdn, fdd, GD, mD, bD⟩ := GD
  refine F.ok scGo (fun vs H Q E h => ?_) (fun cdv A outer s H vs Q E hr h => ?_)
  · obtain ⟨B, x, s, k, rfl, _⟩ := h
    rfl
  · obtain ⟨B, x, s, n, rfl, S, k⟩ := h
    refine ⟨_, pss_cons (ps_if (pt_not (pt_val (pe_call GI hr rfl mI kI bI .nil pass0 (pa_cons (pv 1) pa_nil)))) (pss_one (ps_ret (pe_lst (pa_cons (pe_gint rfl T.gWRONG) pa_nil)))) pss_nil)
      (pss_cons (ps_set (i := 2) scGo.nd rfl (Or.inl rfl) pe_int)
      (pss_cons (ps_while PassesOwn.never (pt_cmpR op_lt (pv 2) (pv 1) (nomark _))
        (pss_cons (ps_set (i := 3) scGo.nd rfl (Or.inl rfl) (pe_meth0 (pv 0) T.clC mD GD hr bD .nil pass0))
        (pss_cons (ps_if (pt_cmpR op_ne (pv 3) (pe_gint rfl T.gDONE) (nomark _)) (pss_one (ps_ret (pe_lst (pa_cons (pv 3) (pa_cons (pv 2) pa_nil))))) pss_nil)
        (pss_one (ps_aug (i := 2) scGo.nd rfl (.inl rfl) pe_int ip_add)))))
      (pss_one (ps_ret (pe_lst (pa_cons (pe_gint rfl T.gDONE) (pa_cons (pv 2) pa_nil))))))), ?_⟩
    refine ⟨_, rfl, n, rfl, _, rfl, ?_⟩
    by_cases hn : 0 ≤ n ∧ n ≤ 1000000000
    · rw [decide_eq_true hn]
      refine iteF ?_
      obtain ⟨n, rfl⟩ : ∃ j : Nat, n = (j : Int) := ⟨n.toNat, by omega⟩
      have k2 : ∀ (a b : Nat) (s' : Abs), s'.rules = s.rules → s'.code = s.code → Rc87.gone s.code n (s.at_, s.counters) = (a, b, (s'.at_, s'.counters)) → ∀ (H : Hp) (p : Addr), St R C B H x s' → H p = Option.none → Q (.ref p) (upd H p (.lst [V.int (a : Int), V.int (b : Int)])) := fun a b s' h1 h2 e H p S' hp => by
        have ed := does_go_ok (s := s) hn
        rw [Int.toNat_natCast, e] at ed
        have ed : Rc87.does s (.go (n : Int)) = (s', { value := (a : Int), numbers := [b] }) := ed.trans (by
          show (({ s with at_ := s'.at_, counters := s'.counters } : Abs), _) = _
          rw [abs_eq h1 h2])
        exact k.use ed S' hp
      refine ⟨fun m σ H' => ∃ (j : Nat) (s' : Abs) (v : Option V), σ = [some (V.ref x), some (V.int (n : Int)), some (V.int (j : Int)), v] ∧ St R C B H' x s' ∧ j ≤ n ∧ m = n - j ∧ GoInv s n j s',
        ⟨n, 0, s, none, rfl, S, Nat.zero_le _, rfl, rfl, rfl, rfl⟩, ?_⟩
      rintro m σ H1 ⟨j, s', v, rfl, S1, hj, rfl, RI⟩
      refine ⟨_, rfl, _, rfl, _, _, rfl, rfl, _, rfl, ite_dec (fun hlt => ?_) (fun hlt => ?_)⟩
      · have hlt : j < n := by omega
        obtain ⟨m, em⟩ : ∃ m, n - j = m + 1 := ⟨n - j - 1, by omega⟩
        refine ⟨fun σ' H' => ∃ (s' : Abs) (v : Option V), σ' = [some (V.ref x), some (V.int (n : Int)), some (V.int ((j + 1 : Nat) : Int)), v] ∧ St R C B H' x s' ∧ GoInv s n (j + 1) s',
          fun σ' H' ⟨c', v', e1, e2, e3⟩ => ⟨n - (j + 1), by omega, j + 1, c', v', e1, e2, by omega, rfl, e3⟩, ?_⟩
        obtain ⟨dx, lc, lr, lk, rs, qs, e1, e2, e3, e4, e5, e6, setC, setA⟩ := S1.view
        refine ⟨_, rfl, x, dx, _, rfl, e1, cF_no _ _ _ _ (by decide +kernel) (by decide +kernel) (by decide +kernel) (by decide +kernel), B, x, s', rfl, S1, fun H2 S2 => ?_⟩
        have RE := RI.eq
        rw [em] at RE
        refine ⟨_, rfl, rfl, _, rfl, ite_neI (fun hw => ?_) (fun hw => ?_)⟩
        · have hw : (insDone s').1 ≠ 0 := fun z => hw (congrArg Int.ofNat z)
          obtain ⟨g1, g2⟩ := gone_stop (k := m) hw
          rw [g2] at S2
          rw [RI.code] at g1
          rw [g1] at RE
          refine ⟨_, rfl, _, rfl, (by show 2 ≤ sizeLine; decide), fun p2 hp2 => ?_⟩
          exact k2 _ j s' RI.rules RI.code (RE.trans (by simp)) _ p2 S2 hp2
        · have hw : (insDone s').1 = 0 := Int.ofNat.inj hw
          have g1 := gone_more (k := m) hw
          rw [RI.code] at g1
          rw [g1] at RE
          refine ⟨_, rfl, _, _, rfl, rfl, ?_⟩
          have e9 : (j : Int) + 1 = ((j + 1 : Nat) : Int) := by omega
          dsimp only
          rw [e9]
          refine ⟨(insDone s').2, _, rfl, S2, (insDone_rules s').trans RI.rules, (insDone_code s').trans RI.code, ?_⟩
          rw [RE, show n - (j + 1) = m by omega]
          simp only [Prod.mk.injEq, true_and, and_true]
          omega
      · have ej : j = n := by omega
        subst ej
        have RE := RI.eq
        rw [Nat.sub_self] at RE
        refine ⟨_, rfl, (by show 2 ≤ sizeLine; decide), fun p2 hp2 => ?_⟩
        exact k2 0 j s' RI.rules RI.code (RE.trans (by
          show (0, 0 + j, (s'.at_, s'.counters)) = _
          rw [Nat.zero_add])) _ p2 S1 hp2
    · rw [decide_eq_false hn]
      exact iteT ⟨(by show 1 ≤ sizeLine; decide), fun p hp => k.use (does_go_no hn) S hp⟩
end
end Fc
/-! D9: told, answered. -/
namespace Fc
open PySem PySem.Spec PyProof.Rows L2
open Rc87 (Rule Abs Ins)
/-- a call by its place, its numbers and its row -/
inductive Req : Int → List Int → List Int → Rc87.Call → Prop
  | rule (l : List Nat) (h80 : l.length ≤ 80) (h255 : ∀ n ∈ l, n ≤ 255) : Req 1 [] (l.map nI) (.rule l (l.length : Int))
  | put (i v : Int) (hv : v ≤ 2147483647) : Req 2 [i, v] [] (.put i v)
  | get (i : Int) : Req 3 [i] [] (.get i)
  | step : Req 4 [] [] .step
  | run (n : Int) : Req 5 [n] [] (.run n)
  | alone (i n : Int) : Req 6 [i, n] [] (.alone i n)
  | number : Req 7 [] [] .number
  | ratio (i : Int) : Req 8 [i] [] (.ratio i)
  | code (l : List Nat) (h64 : l.length ≤ 64) : Req 9 [] (l.map nI) (.code l (l.length : Int))
  | made : Req 10 [] [] .made
  | go (n : Int) : Req 11 [n] [] (.go n)
theorem lt64s {s : Abs} (G : Good s) : ∀ x ∈ s.counters, x < 2 ^ 64 := fun x hx => by
  obtain ⟨i, hi⟩ := List.getElem?_of_mem hx
  have hl : i < 40 := by
    have := (List.getElem?_eq_some_iff.mp hi).1
    rw [G.cl] at this
    exact this
  have := small_at G.cs G.cl hl
  rw [getD_of hi] at this
  exact Nat.lt_of_le_of_lt this (by decide)
section
variable {P : Program} {w : World} {K : PySem.W.Frag} {mg : Str → Option Value} {base : Heap} {R C : Addr}

/-! ### told -/
def spTold (R C : Addr) (K : PySem.W.Frag) : Sp := fun vs H Q _ => ∃ (B : Hp) (x : Addr) (s : Abs) (n : Int) (a : Addr) (ns row : List Int) (c : Rc87.Call), vs = [.ref x, .int n, .ref a] ∧ St R C B H x s ∧ SqL K B a (ns.map V.int) ∧ Req n ns row c ∧ n ≠ 1 ∧ n ≠ 9 ∧ Post R C B x s c Q
abbrev nTold : List Str := ["counting", "call", "numbers"]
theorem scTold : FnScope nTold nTold (defScope sTold) := ⟨rfl, rfl, rfl, by decide +kernel, rfl, by decide +kernel, by decide +kernel⟩
theorem ok_told {f : Addr} {fd : FuncData} (F : Fun K "told" "told" sTold f fd) (T : Txt K mg R C) (GN : FnC P w K mg base "number_of" 2 ["amounts"] (spNumber K)) (G1 : MtC P w K mg base C "put" 2 nPut (spPut R C)) (G2 : MtC P w K mg base C "get" 2 nGet (spGet R C)) (G3 : MtC P w K mg base C "step" 3 ["self"] (spStep R C))
    (G4 : MtC P w K mg base C "run_steps" 5 nRunSteps (spRunSteps R C)) (G5 : MtC P w K mg base C "run_alone" 5 nRunAlone (spRunAlone R C)) (G6 : MtC P w K mg base C "ratio" 3 ["self", "number"] (spRatio R C)) (G7 : MtC P w K mg base C "make_rules" 5 ["self"] (spMakeRules R C)) (G8 : MtC P w K mg base C "go" 2 ["self", "most"] (spGo R C)) :
    FnOk P w K mg base CX0 6 f fd nTold (spTold R C K) := by
  obtain ⟨fn, fdn, GN, mN, kN, bN⟩ := GN
  obtain ⟨f1, fd1, G1, m1, b1⟩ := G1
  obtain ⟨f2, fd2, G2, m2, b2⟩ := G2
  obtain ⟨f3, fd3, G3, m3, b3⟩ := G3
  obtain ⟨f4, fd4, G4, m4, b4⟩ := G4
  obtain ⟨f5, fd5, G5, m5, b5⟩ := G5
  obtain ⟨f6, fd6, G6, m6, b6⟩ := G6
  obtain ⟨f7, fd7, G7, m7, b7⟩ := G7
  obtain ⟨f8, fd8, G8, m8, b8⟩ := G8
  refine F.ok scTold (fun vs H Q E h => ?_) (fun cdv A outer s H vs Q E hr h => ?_)
  · obtain ⟨B, x, s, n, a, ns, row, c, rfl, _⟩ := h
    rfl
  · obtain ⟨B, x, s, n, a, ns, row, c, rfl, S, hB, rq, n1, n9, k⟩ := h
    have hr2 : Room 2 _ := hr.mono (by decide)
    have hr3 : Room 3 _ := hr.mono (by decide)
    have hA := S.sB.seq hB
    refine ⟨_, pss_cons (ps_if (pt_cmpR op_eq (pv 1) pe_int (nomark _)) (pss_one (ps_ret (pe_meth (pv 0) T.clC m1 G1 hr2 b1 .nil pass0 (pa_cons (pe_ix ix_list (pv 2) pe_int (fun _ _ => rfl)) (pa_cons (pe_ix ix_list (pv 2) pe_int (fun _ _ => rfl)) pa_nil))))) pss_nil)
      (pss_cons (ps_if (pt_cmpR op_eq (pv 1) pe_int (nomark _)) (pss_one (ps_ret (pe_meth (pv 0) T.clC m2 G2 hr2 b2 .nil pass0 (pa_cons (pe_ix ix_list (pv 2) pe_int (fun _ _ => rfl)) pa_nil)))) pss_nil)
      (pss_cons (ps_if (pt_cmpR op_eq (pv 1) pe_int (nomark _)) (pss_one (ps_ret (pe_meth0 (pv 0) T.clC m3 G3 hr3 b3 .nil pass0))) pss_nil)
      (pss_cons (ps_if (pt_cmpR op_eq (pv 1) pe_int (nomark _)) (pss_one (ps_ret (pe_meth (pv 0) T.clC m4 G4 hr b4 .nil pass0 (pa_cons (pe_ix ix_list (pv 2) pe_int (fun _ _ => rfl)) pa_nil)))) pss_nil)
      (pss_cons (ps_if (pt_cmpR op_eq (pv 1) pe_int (nomark _)) (pss_one (ps_ret (pe_meth (pv 0) T.clC m5 G5 hr b5 .nil pass0 (pa_cons (pe_ix ix_list (pv 2) pe_int (fun _ _ => rfl)) (pa_cons (pe_ix ix_list (pv 2) pe_int (fun _ _ => rfl)) pa_nil))))) pss_nil)
      (pss_cons (ps_if (pt_cmpR op_eq (pv 1) pe_int (nomark _)) (pss_one (ps_ret (pe_lst (pa_cons pe_int (pa_cons (pe_call GN hr2 rfl mN kN bN .nil pass0 (pa_cons (pe_fld (pv 0) rfl) pa_nil)) pa_nil))))) pss_nil)
      (pss_cons (ps_if (pt_cmpR op_eq (pv 1) pe_int (nomark _)) (pss_one (ps_ret (pe_meth (pv 0) T.clC m6 G6 hr3 b6 .nil pass0 (pa_cons (pe_ix ix_list (pv 2) pe_int (fun _ _ => rfl)) pa_nil)))) pss_nil)
      (pss_cons (ps_if (pt_cmpR op_eq (pv 1) pe_int (nomark _)) (pss_one (ps_ret (pe_meth0 (pv 0) T.clC m7 G7 hr b7 .nil pass0))) pss_nil)
      (pss_one (ps_ret (pe_meth (pv 0) T.clC m8 G8 hr2 b8 .nil pass0 (pa_cons (pe_ix ix_list (pv 2) pe_int (fun _ _ => rfl)) pa_nil))))))))))), ?_⟩
    obtain ⟨dx, lc, lr, lk, rs, qs, e1, e2, e3, e4, e5, e6, setC, setA⟩ := S.view
    cases rq with
    | rule l h80 h255 => exact absurd rfl n1
    | code l h64 => exact absurd rfl n9
    | put i v hv =>
      refine ⟨_, rfl, rfl, _, rfl, ite_eqI (fun _ => ?_) (fun h => absurd rfl h)⟩
      exact ⟨_, rfl, x, dx, _, rfl, e1, cF_no _ _ _ _ (by decide +kernel) (by decide +kernel) (by decide +kernel) (by decide +kernel), _, rfl, a, _, _, _, rfl, rfl, hA, atI_nat (j := 0) rfl, _, rfl, a, _, _, _, rfl, rfl, hA, atI_nat (j := 1) rfl, B, x, s, i, v, rfl, S, hv, k⟩
    | get i =>
      refine ⟨_, rfl, rfl, _, rfl, ite_eqI (fun h => absurd h (by decide)) (fun _ => ?_)⟩
      refine ⟨_, rfl, rfl, _, rfl, ite_eqI (fun _ => ?_) (fun h => absurd rfl h)⟩
      exact ⟨_, rfl, x, dx, _, rfl, e1, cF_no _ _ _ _ (by decide +kernel) (by decide +kernel) (by decide +kernel) (by decide +kernel), _, rfl, a, _, _, _, rfl, rfl, hA, atI_nat (j := 0) rfl, B, x, s, i, rfl, S, k⟩
    | step =>
      refine ⟨_, rfl, rfl, _, rfl, ite_eqI (fun h => absurd h (by decide)) (fun _ => ?_)⟩
      refine ⟨_, rfl, rfl, _, rfl, ite_eqI (fun h => absurd h (by decide)) (fun _ => ?_)⟩
      refine ⟨_, rfl, rfl, _, rfl, ite_eqI (fun _ => ?_) (fun h => absurd rfl h)⟩
      exact ⟨_, rfl, x, dx, _, rfl, e1, cF_no _ _ _ _ (by decide +kernel) (by decide +kernel) (by decide +kernel) (by decide +kernel), B, x, s, rfl, S, k⟩
    | run n =>
      refine ⟨_, rfl, rfl, _, rfl, ite_eqI (fun h => absurd h (by decide)) (fun _ => ?_)⟩
      refine ⟨_, rfl, rfl, _, rfl, ite_eqI (fun h => absurd h (by decide)) (fun _ => ?_)⟩
      refine ⟨_, rfl, rfl, _, rfl, ite_eqI (fun h => absurd h (by decide)) (fun _ => ?_)⟩
      refine ⟨_, rfl, rfl, _, rfl, ite_eqI (fun _ => ?_) (fun h => absurd rfl h)⟩
      exact ⟨_, rfl, x, dx, _, rfl, e1, cF_no _ _ _ _ (by decide +kernel) (by decide +kernel) (by decide +kernel) (by decide +kernel), _, rfl, a, _, _, _, rfl, rfl, hA, atI_nat (j := 0) rfl, B, x, s, n, rfl, S, k⟩
    | alone i n =>
      refine ⟨_, rfl, rfl, _, rfl, ite_eqI (fun h => absurd h (by decide)) (fun _ => ?_)⟩
      refine ⟨_, rfl, rfl, _, rfl, ite_eqI (fun h => absurd h (by decide)) (fun _ => ?_)⟩
      refine ⟨_, rfl, rfl, _, rfl, ite_eqI (fun h => absurd h (by decide)) (fun _ => ?_)⟩
      refine ⟨_, rfl, rfl, _, rfl, ite_eqI (fun h => absurd h (by decide)) (fun _ => ?_)⟩
      refine ⟨_, rfl, rfl, _, rfl, ite_eqI (fun _ => ?_) (fun h => absurd rfl h)⟩
      exact ⟨_, rfl, x, dx, _, rfl, e1, cF_no _ _ _ _ (by decide +kernel) (by decide +kernel) (by decide +kernel) (by decide +kernel), _, rfl, a, _, _, _, rfl, rfl, hA, atI_nat (j := 0) rfl, _, rfl, a, _, _, _, rfl, rfl, hA, atI_nat (j := 1) rfl, B, x, s, i, n, rfl, S, k⟩
    | number =>
      refine ⟨_, rfl, rfl, _, rfl, ite_eqI (fun h => absurd h (by decide)) (fun _ => ?_)⟩
      refine ⟨_, rfl, rfl, _, rfl, ite_eqI (fun h => absurd h (by decide)) (fun _ => ?_)⟩
      refine ⟨_, rfl, rfl, _, rfl, ite_eqI (fun h => absurd h (by decide)) (fun _ => ?_)⟩
      refine ⟨_, rfl, rfl, _, rfl, ite_eqI (fun h => absurd h (by decide)) (fun _ => ?_)⟩
      refine ⟨_, rfl, rfl, _, rfl, ite_eqI (fun h => absurd h (by decide)) (fun _ => ?_)⟩
      refine ⟨_, rfl, rfl, _, rfl, ite_eqI (fun _ => ?_) (fun h => absurd rfl h)⟩
      refine ⟨_, rfl, x, C, dx, _, _, rfl, e1, T.clC, T.nCounters, cF_counters _ _ _ _, lc, s.counters, rfl, SqL.of e2, S.good.cl, lt64s S.good, fun H1 s1 => ⟨(by show 2 ≤ sizeLine; decide), fun p hp => ?_⟩⟩
      exact k.use (does_number S.good.cl) (S.mono s1) hp
    | ratio i =>
      refine ⟨_, rfl, rfl, _, rfl, ite_eqI (fun h => absurd h (by decide)) (fun _ => ?_)⟩
      refine ⟨_, rfl, rfl, _, rfl, ite_eqI (fun h => absurd h (by decide)) (fun _ => ?_)⟩
      refine ⟨_, rfl, rfl, _, rfl, ite_eqI (fun h => absurd h (by decide)) (fun _ => ?_)⟩
      refine ⟨_, rfl, rfl, _, rfl, ite_eqI (fun h => absurd h (by decide)) (fun _ => ?_)⟩
      refine ⟨_, rfl, rfl, _, rfl, ite_eqI (fun h => absurd h (by decide)) (fun _ => ?_)⟩
      refine ⟨_, rfl, rfl, _, rfl, ite_eqI (fun h => absurd h (by decide)) (fun _ => ?_)⟩
      refine ⟨_, rfl, rfl, _, rfl, ite_eqI (fun _ => ?_) (fun h => absurd rfl h)⟩
      exact ⟨_, rfl, x, dx, _, rfl, e1, cF_no _ _ _ _ (by decide +kernel) (by decide +kernel) (by decide +kernel) (by decide +kernel), _, rfl, a, _, _, _, rfl, rfl, hA, atI_nat (j := 0) rfl, B, x, s, i, rfl, S, k⟩
    | made =>
      refine ⟨_, rfl, rfl, _, rfl, ite_eqI (fun h => absurd h (by decide)) (fun _ => ?_)⟩
      refine ⟨_, rfl, rfl, _, rfl, ite_eqI (fun h => absurd h (by decide)) (fun _ => ?_)⟩
      refine ⟨_, rfl, rfl, _, rfl, ite_eqI (fun h => absurd h (by decide)) (fun _ => ?_)⟩
      refine ⟨_, rfl, rfl, _, rfl, ite_eqI (fun h => absurd h (by decide)) (fun _ => ?_)⟩
      refine ⟨_, rfl, rfl, _, rfl, ite_eqI (fun h => absurd h (by decide)) (fun _ => ?_)⟩
      refine ⟨_, rfl, rfl, _, rfl, ite_eqI (fun h => absurd h (by decide)) (fun _ => ?_)⟩
      refine ⟨_, rfl, rfl, _, rfl, ite_eqI (fun h => absurd h (by decide)) (fun _ => ?_)⟩
      refine ⟨_, rfl, rfl, _, rfl, ite_eqI (fun _ => ?_) (fun h => absurd rfl h)⟩
      exact ⟨_, rfl, x, dx, _, rfl, e1, cF_no _ _ _ _ (by decide +kernel) (by decide +kernel) (by decide +kernel) (by decide +kernel), B, x, s, rfl, S, k⟩
    | go n =>
      refine ⟨_, rfl, rfl, _, rfl, ite_eqI (fun h => absurd h (by decide)) (fun _ => ?_)⟩
      refine ⟨_, rfl, rfl, _, rfl, ite_eqI (fun h => absurd h (by decide)) (fun _ => ?_)⟩
      refine ⟨_, rfl, rfl, _, rfl, ite_eqI (fun h => absurd h (by decide)) (fun _ => ?_)⟩
      refine ⟨_, rfl, rfl, _, rfl, ite_eqI (fun h => absurd h (by decide)) (fun _ => ?_)⟩
      refine ⟨_, rfl, rfl, _, rfl, ite_eqI (fun h => absurd h (by decide)) (fun _ => ?_)⟩
      refine ⟨_, rfl, rfl, _, rfl, ite_eqI (fun h => absurd h (by decide)) (fun _ => ?_)⟩
      refine ⟨_, rfl, rfl, _, rfl, ite_eqI (fun h => absurd h (by decide)) (fun _ => ?_)⟩
      refine ⟨_, rfl, rfl, _, rfl, ite_eqI (fun h => absurd h (by decide)) (fun _ => ?_)⟩
      exact ⟨_, rfl, x, dx, _, rfl, e1, cF_no _ _ _ _ (by decide +kernel) (by decide +kernel) (by decide +kernel) (by decide +kernel), _, rfl, a, _, _, _, rfl, rfl, hA, atI_nat (j := 0) rfl, B, x, s, n, rfl, S, k⟩

/-! ### answered -/
def spAnswered (R C : Addr) (K : PySem.W.Frag) : Sp := fun vs H Q _ => ∃ (B : Hp) (x : Addr) (s : Abs) (n : Int) (a b : Addr) (ns row : List Int) (c : Rc87.Call), vs = [.ref x, .int n, .ref a, .ref b] ∧ St R C B H x s ∧ SqL K B a (ns.map V.int) ∧ SqL K B b (row.map V.int) ∧ Req n ns row c ∧ Post R C B x s c Q
abbrev nAnswered : List Str := ["counting", "call", "numbers", "row"]
theorem scAnswered : FnScope nAnswered nAnswered (defScope sAnswered) := ⟨rfl, rfl, rfl, by decide +kernel, rfl, by decide +kernel, by decide +kernel⟩
theorem ok_answered {f : Addr} {fd : FuncData} (F : Fun K "answered" "answered" sAnswered f fd) (T : Txt K mg R C) (GT : FnC P w K mg base "told" 6 nTold (spTold R C K)) (G1 : MtC P w K mg base C "add_rule" 3 ["self", "row"] (spAddRule R C K)) (G2 : MtC P w K mg base C "set_code" 3 ["self", "row"] (spSetCode R C K)) :
    FnOk P w K mg base CX0 7 f fd nAnswered (spAnswered R C K) := by
  obtain ⟨ft, fdt, GT, mT, kT, bT⟩ := GT
  obtain ⟨f1, fd1, G1, m1, b1⟩ := G1
  obtain ⟨f2, fd2, G2, m2, b2⟩ := G2
  refine F.ok scAnswered (fun vs H Q E h => ?_) (fun cdv A outer s H vs Q E hr h => ?_)
  · obtain ⟨B, x, s, n, a, b, ns, row, c, rfl, _⟩ := h
    rfl
  · obtain ⟨B, x, s, n, a, b, ns, row, c, rfl, S, hB, hB2, rq, k⟩ := h
    have hr3 : Room 3 _ := hr.mono (by decide)
    refine ⟨_, pss_cons (ps_if (pt_cmpR op_eq (pv 1) (pe_gint rfl T.gRULE) (nomark _)) (pss_one (ps_ret (pe_meth (pv 0) T.clC m1 G1 hr3 b1 .nil pass0 (pa_cons (pv 3) pa_nil)))) pss_nil)
      (pss_cons (ps_if (pt_cmpR op_eq (pv 1) (pe_gint rfl T.gCODE) (nomark _)) (pss_one (ps_ret (pe_meth (pv 0) T.clC m2 G2 hr3 b2 .nil pass0 (pa_cons (pv 3) pa_nil)))) pss_nil)
      (pss_one (ps_ret (pe_call GT hr rfl mT kT bT .nil pass0 (pa_cons (pv 0) (pa_cons (pv 1) (pa_cons (pv 2) pa_nil))))))), ?_⟩
    obtain ⟨dx, lc, lr, lk, rs, qs, e1, e2, e3, e4, e5, e6, setC, setA⟩ := S.view
    refine ⟨_, rfl, rfl, _, rfl, ite_eqI (fun h1 => ?_) (fun h1 => ?_)⟩
    · cases rq with
      | rule l h80 h255 => exact ⟨_, rfl, x, dx, _, rfl, e1, cF_no _ _ _ _ (by decide +kernel) (by decide +kernel) (by decide +kernel) (by decide +kernel), _, rfl, B, x, s, b, l, rfl, S, hB2, h80, h255, k⟩
      | _ => exact absurd h1 (by decide)
    refine ⟨_, rfl, rfl, _, rfl, ite_eqI (fun h9 => ?_) (fun h9 => ?_)⟩
    · cases rq with
      | code l h64 => exact ⟨_, rfl, x, dx, _, rfl, e1, cF_no _ _ _ _ (by decide +kernel) (by decide +kernel) (by decide +kernel) (by decide +kernel), _, rfl, B, x, s, b, l, rfl, S, hB2, h64, k⟩
      | _ => exact absurd h9 (by decide)
    exact ⟨_, rfl, _, rfl, _, rfl, B, x, s, n, a, ns, row, c, rfl, S, hB, rq, h1, h9, k⟩
end
end Fc
/-! P5: the plain law, part 4: the calls as one list of numbers. -/
namespace Fc
open Rc87 (Rule Abs Ins)
def nums : List Nat := [0, 0, 2, 1, 0, 1, 2, 0, 1, 0, 0, 1]
theorem nat_row {l : List Int} (h : ∀ x ∈ l, 0 ≤ x) : (Rc87Neutral.natsOf l).map nI = l := by
  unfold Rc87Neutral.natsOf
  rw [List.map_map]
  conv => rhs; rw [← List.map_id l]
  refine List.map_congr_left fun x hx => ?_
  have := h x hx
  show ((x.toNat : Nat) : Int) = x
  omega
theorem nats_length (l : List Int) : (Rc87Neutral.natsOf l).length = l.length := by unfold Rc87Neutral.natsOf; simp
theorem nats_le {l : List Int} (h : ∀ x ∈ l, x ≤ 255) : ∀ n ∈ Rc87Neutral.natsOf l, n ≤ 255 := fun n hn => by
  unfold Rc87Neutral.natsOf at hn
  obtain ⟨x, hx, rfl⟩ := List.mem_map.mp hn
  have := h x hx
  omega
/-- one call is read off -/
def Read1 (p : Int) (r t : List Int) (rc : Rc87.Call) : Prop := ∃ i k : Nat, p = (i : Int) ∧ nums[i]? = some k ∧
  ((i = 0 ∧ t = r ∧ rc = .init) ∨ (i ≠ 0 ∧ i ≠ 1 ∧ i ≠ 9 ∧ k ≤ r.length ∧ t = r.drop k ∧ Req p (r.take k) [] rc) ∨
    ((i = 1 ∨ i = 9) ∧ k = 0 ∧ ∃ (n : Nat) (r' : List Int), r = (n : Int) :: r' ∧ n ≤ r'.length ∧ t = r'.drop n ∧ Req p [] (r'.take n) rc))
theorem row_eq (n : Int) (r : List Int) : PyFlat.row (n :: r) = if 0 ≤ n ∧ n.toNat ≤ r.length then some (r.take n.toNat, r.drop n.toNat) else none := rfl
theorem call_eq (shape : Int → Option (Nat × Nat)) (p : Int) (r : List Int) : PyFlat.call shape (p :: r) = match shape p with
    | none => none
    | some (n, k) => if r.length < n then none else match PyFlat.rows k (r.drop n) with
      | none => none
      | some (xs, t) => some ((p :: r.take n) :: xs, t) := rfl
theorem row_read {r : List Int} {x s : List Int} (h : PyFlat.row r = some (x, s)) : ∃ (n : Nat) (r' : List Int), r = (n : Int) :: r' ∧ n ≤ r'.length ∧ x = r'.take n ∧ s = r'.drop n := by
  cases r with
  | nil => cases h
  | cons n r' =>
    rw [row_eq] at h
    by_cases hn : 0 ≤ n ∧ n.toNat ≤ r'.length
    · rw [if_pos hn] at h
      cases h
      exact ⟨n.toNat, r', by rw [Int.toNat_of_nonneg hn.1], hn.2, rfl, rfl⟩
    · rw [if_neg hn] at h
      cases h
theorem call_row {p : Int} {r : List Int} {c : List (List Int)} {t : List Int} (hs : PyRc87.shape p = some (0, 1)) (h : PyFlat.call PyRc87.shape (p :: r) = some (c, t)) : ∃ (n : Nat) (r' : List Int), r = (n : Int) :: r' ∧ n ≤ r'.length ∧ c = [[p], r'.take n] ∧ t = r'.drop n := by
  rw [call_eq, hs] at h
  simp only [Nat.not_lt_zero, if_false, List.drop_zero, List.take_zero] at h
  unfold PyFlat.rows at h
  cases e : PyFlat.row r with
  | none =>
    rw [e] at h
    cases h
  | some x =>
    obtain ⟨x, s⟩ := x
    rw [e] at h
    obtain ⟨n, r', h1, h2, h3, h4⟩ := row_read e
    unfold PyFlat.rows at h
    cases h
    exact ⟨n, r', h1, h2, by rw [h3], h4⟩
theorem call_plain {p : Int} {r : List Int} {c : List (List Int)} {t : List Int} {n : Nat} (hs : PyRc87.shape p = some (n, 0)) (h : PyFlat.call PyRc87.shape (p :: r) = some (c, t)) : n ≤ r.length ∧ c = [p :: r.take n] ∧ t = r.drop n := by
  rw [call_eq, hs] at h
  simp only at h
  by_cases hn : r.length < n
  · rw [if_pos hn] at h
    cases h
  · rw [if_neg hn] at h
    unfold PyFlat.rows at h
    cases h
    exact ⟨by omega, rfl, rfl⟩
theorem take1 {r : List Int} (h : 1 ≤ r.length) : ∃ x r', r = x :: r' := by
  cases r with
  | nil => cases h
  | cons x r' => exact ⟨x, r', rfl⟩
theorem take2 {r : List Int} (h : 2 ≤ r.length) : ∃ x y r', r = x :: y :: r' := by
  match r, h with
  | x :: y :: r', _ => exact ⟨x, y, r', rfl⟩
theorem read_call {p : Int} {r : List Int} {c : List (List Int)} {t : List Int} (h : PyFlat.call PyRc87.shape (p :: r) = some (c, t)) (hb : PyInside.call PyRc87.bound c = true) :
    ∃ rc, Rc87Neutral.callOf (PyRc87.whole c) = some rc ∧ Read1 p r t rc := by
  by_cases h0 : p = 0
  · subst h0
    obtain ⟨h1, rfl, rfl⟩ := call_plain (n := 0) rfl h
    exact ⟨.init, rfl, 0, 0, rfl, rfl, .inl ⟨rfl, rfl, rfl⟩⟩
  by_cases h1 : p = 1
  · subst h1
    obtain ⟨n, r', rfl, hn, rfl, rfl⟩ := call_row rfl h
    have hb : (decide (0 ≤ (r'.take n).length) && decide ((r'.take n).length ≤ 80) && (r'.take n).all (PyInside.within 0 255) && true) = true := hb
    simp only [Bool.and_eq_true, decide_eq_true_eq, List.all_eq_true, PyInside.within, and_true] at hb
    have e := nat_row (l := r'.take n) fun x hx => (hb.2 x hx).1
    have q := Req.rule (Rc87Neutral.natsOf (r'.take n)) (by rw [nats_length]; exact hb.1.2) (nats_le fun x hx => (hb.2 x hx).2)
    rw [e, nats_length] at q
    exact ⟨_, rfl, 1, 0, rfl, rfl, .inr (.inr ⟨.inl rfl, rfl, n, r', rfl, hn, rfl, q⟩)⟩
  by_cases h2 : p = 2
  · subst h2
    obtain ⟨hl, rfl, rfl⟩ := call_plain (n := 2) rfl h
    obtain ⟨x, y, r', rfl⟩ := take2 hl
    have hb : (PyInside.within (-2147483648) 2147483647 x && (PyInside.within (-2147483648) 2147483647 y && true) && true) = true := hb
    simp only [Bool.and_eq_true, PyInside.within, decide_eq_true_eq, and_true] at hb
    exact ⟨.put x y, rfl, 2, 2, rfl, rfl, .inr (.inl ⟨by decide, by decide, by decide, hl, rfl, Req.put x y hb.2.2⟩)⟩
  by_cases h3 : p = 3
  · subst h3
    obtain ⟨hl, rfl, rfl⟩ := call_plain (n := 1) rfl h
    obtain ⟨x, r', rfl⟩ := take1 hl
    exact ⟨.get x, rfl, 3, 1, rfl, rfl, .inr (.inl ⟨by decide, by decide, by decide, hl, rfl, Req.get x⟩)⟩
  by_cases h4 : p = 4
  · subst h4
    obtain ⟨hl, rfl, rfl⟩ := call_plain (n := 0) rfl h
    exact ⟨.step, rfl, 4, 0, rfl, rfl, .inr (.inl ⟨by decide, by decide, by decide, hl, rfl, Req.step⟩)⟩
  by_cases h5 : p = 5
  · subst h5
    obtain ⟨hl, rfl, rfl⟩ := call_plain (n := 1) rfl h
    obtain ⟨x, r', rfl⟩ := take1 hl
    exact ⟨.run x, rfl, 5, 1, rfl, rfl, .inr (.inl ⟨by decide, by decide, by decide, hl, rfl, Req.run x⟩)⟩
  by_cases h6 : p = 6
  · subst h6
    obtain ⟨hl, rfl, rfl⟩ := call_plain (n := 2) rfl h
    obtain ⟨x, y, r', rfl⟩ := take2 hl
    exact ⟨.alone x y, rfl, 6, 2, rfl, rfl, .inr (.inl ⟨by decide, by decide, by decide, hl, rfl, Req.alone x y⟩)⟩
  by_cases h7 : p = 7
  · subst h7
    obtain ⟨hl, rfl, rfl⟩ := call_plain (n := 0) rfl h
    exact ⟨.number, rfl, 7, 0, rfl, rfl, .inr (.inl ⟨by decide, by decide, by decide, hl, rfl, Req.number⟩)⟩
  by_cases h8 : p = 8
  · subst h8
    obtain ⟨hl, rfl, rfl⟩ := call_plain (n := 1) rfl h
    obtain ⟨x, r', rfl⟩ := take1 hl
    exact ⟨.ratio x, rfl, 8, 1, rfl, rfl, .inr (.inl ⟨by decide, by decide, by decide, hl, rfl, Req.ratio x⟩)⟩
  by_cases h9 : p = 9
  · subst h9
    obtain ⟨n, r', rfl, hn, rfl, rfl⟩ := call_row rfl h
    have hb : (decide (0 ≤ (r'.take n).length) && decide ((r'.take n).length ≤ 64) && (r'.take n).all (PyInside.within 0 255) && true) = true := hb
    simp only [Bool.and_eq_true, decide_eq_true_eq, List.all_eq_true, PyInside.within, and_true] at hb
    have e := nat_row (l := r'.take n) fun x hx => (hb.2 x hx).1
    have q := Req.code (Rc87Neutral.natsOf (r'.take n)) (by rw [nats_length]; exact hb.1.2)
    rw [e, nats_length] at q
    exact ⟨_, rfl, 9, 0, rfl, rfl, .inr (.inr ⟨.inr rfl, rfl, n, r', rfl, hn, rfl, q⟩)⟩
  by_cases h10 : p = 10
  · subst h10
    obtain ⟨hl, rfl, rfl⟩ := call_plain (n := 0) rfl h
    exact ⟨.made, rfl, 10, 0, rfl, rfl, .inr (.inl ⟨by decide, by decide, by decide, hl, rfl, Req.made⟩)⟩
  by_cases h11 : p = 11
  · subst h11
    obtain ⟨hl, rfl, rfl⟩ := call_plain (n := 1) rfl h
    obtain ⟨x, r', rfl⟩ := take1 hl
    exact ⟨.go x, rfl, 11, 1, rfl, rfl, .inr (.inl ⟨by decide, by decide, by decide, hl, rfl, Req.go x⟩)⟩
  exfalso
  have hs : PyRc87.shape p = none := by
    unfold PyRc87.shape
    simp only [h0, h1, h2, h3, h4, h5, h6, h7, h8, h9, h10, h11, if_false]
  rw [call_eq, hs] at h
  cases h

/-! ### all of them -/
/-- what the calls that are left answer from the state s -/
def answersFrom (s : Abs) (cs : List (List (List Int))) : List Int := PyFlat.told (PyFlat.played Rc87Neutral.step s (cs.map PyRc87.whole))
theorem from_nil (s : Abs) : answersFrom s [] = [] := rfl
theorem from_cons {s : Abs} {c : List (List Int)} {cs : List (List (List Int))} {rc : Rc87.Call} (h : Rc87Neutral.callOf (PyRc87.whole c) = some rc) :
    answersFrom s (c :: cs) = (((ans (Rc87.does s rc).2).length : Nat) : Int) :: (ans (Rc87.does s rc).2) ++ answersFrom (Rc87.does s rc).1 cs := by
  have e : Rc87Neutral.step s (PyRc87.whole c) = ((Rc87.does s rc).1, ans (Rc87.does s rc).2) := by
    unfold Rc87Neutral.step
    rw [h]
    rfl
  show (((Rc87Neutral.step s (PyRc87.whole c)).2.length : Nat) : Int) :: (Rc87Neutral.step s (PyRc87.whole c)).2 ++ PyFlat.told (PyFlat.played Rc87Neutral.step (Rc87Neutral.step s (PyRc87.whole c)).1 (cs.map PyRc87.whole)) = _
  rw [e]
  rfl
/-- behind some calls: what is left of the list, of the calls; what is found; the state -/
structure Left (l : List Int) (n : Nat) (cs : List (List (List Int))) (fs : List Int) (s : Abs) : Prop where
  le : n ≤ l.length
  calls : ∃ f, PyFlat.calls PyRc87.shape f (l.drop n) = some cs
  inside : ∀ c ∈ cs, PyInside.call PyRc87.bound c = true
  eq : PyRc87.answers l = fs ++ answersFrom s cs
  short : (PyRc87.answers l).length ≤ 10000000
theorem left_start {l : List Int} (h : PyRc87.answers_asked l = true) : ∃ cs, Left l 0 cs [] {} := by
  unfold PyRc87.answers_asked at h
  cases e : PyFlat.calls PyRc87.shape l.length l with
  | none =>
    rw [e] at h
    cases h
  | some raw =>
    rw [e] at h
    simp only [Bool.and_eq_true] at h
    obtain ⟨⟨⟨h1, h2⟩, h3⟩, h4⟩ := h
    refine ⟨raw, Nat.zero_le _, ⟨l.length, e⟩, fun c hc => List.all_eq_true.mp h2 c hc, ?_, of_decide_eq_true h4⟩
    unfold PyRc87.answers PyRc87.calls
    rw [e]
    rfl
theorem left_end {l fs : List Int} {n : Nat} {cs : List (List (List Int))} {s : Abs} (L : Left l n cs fs s) (h : ¬ n < l.length) : PyRc87.answers l = fs := by
  obtain ⟨f, hf⟩ := L.calls
  rw [List.drop_of_length_le (by omega)] at hf
  have e : cs = [] := by
    cases f <;> (unfold PyFlat.calls at hf; cases hf; rfl)
  rw [L.eq, e, from_nil, List.append_nil]
theorem left_turn {l fs : List Int} {n : Nat} {cs : List (List (List Int))} {s : Abs} (L : Left l n cs fs s) (h : n < l.length) : ∃ (p : Int) (r t : List Int) (rc : Rc87.Call) (cs' : List (List (List Int))), l.drop n = p :: r ∧ Read1 p r t rc ∧ cs.length = cs'.length + 1 ∧
    ∀ m, l.drop m = t → m ≤ l.length → Left l m cs' (fs ++ (((ans (Rc87.does s rc).2).length : Nat) : Int) :: ans (Rc87.does s rc).2) (Rc87.does s rc).1 := by
  obtain ⟨f, hf⟩ := L.calls
  obtain ⟨p, r, er⟩ : ∃ p r, l.drop n = p :: r := by
    cases e : l.drop n with
    | nil =>
      have := congrArg List.length e
      rw [List.length_drop] at this
      simp at this
      omega
    | cons p r => exact ⟨p, r, rfl⟩
  rw [er] at hf
  cases f with
  | zero =>
    unfold PyFlat.calls at hf
    cases hf
  | succ f =>
    unfold PyFlat.calls at hf
    cases ec : PyFlat.call PyRc87.shape (p :: r) with
    | none =>
      rw [ec] at hf
      cases hf
    | some ct =>
      obtain ⟨c, t⟩ := ct
      rw [ec] at hf
      simp only at hf
      cases ecs : PyFlat.calls PyRc87.shape f t with
      | none =>
        rw [ecs] at hf
        cases hf
      | some cs' =>
        rw [ecs] at hf
        cases hf
        obtain ⟨rc, hc, hr⟩ := read_call ec (L.inside c List.mem_cons_self)
        refine ⟨p, r, t, rc, cs', er, hr, rfl, fun m hm hml => ⟨hml, ⟨f, by rw [hm]; exact ecs⟩, fun c' hc' => L.inside c' (List.mem_cons_of_mem _ hc'), ?_, L.short⟩⟩
        rw [L.eq, from_cons hc, List.append_assoc]
theorem left_len {l fs : List Int} {n : Nat} {cs : List (List (List Int))} {s : Abs} (L : Left l n cs fs s) : fs.length ≤ 10000000 := by
  have := L.short
  rw [L.eq, List.length_append] at this
  omega
end Fc
/-! D10: answers. -/
namespace Fc
open PySem PySem.Spec PyProof.Rows L2
open Rc87 (Rule Abs Ins)
theorem nums_get {i k : Nat} (h : nums[i]? = some k) : atI (([0, 0, 2, 1, 0, 1, 2, 0, 1, 0, 0, 1] : List Int).map V.int) (i : Int) = some (V.int (k : Int)) := by
  have e : ([0, 0, 2, 1, 0, 1, 2, 0, 1, 0, 0, 1] : List Int).map V.int = vsN nums := rfl
  rw [e]
  exact atI_nat (vsN_get h)
theorem int_at {l : List Int} {n : Nat} {p : Int} {r : List Int} (h : l.drop n = p :: r) : (l.map V.int)[n]? = some (V.int p) := by
  have e : l[n]? = some p := by
    have := List.getElem?_drop (xs := l) (i := n) (j := 0)
    rw [h] at this
    exact this.symm
  rw [List.getElem?_map, e]
  rfl
theorem drop_next {l : List Int} {n : Nat} {p : Int} {r : List Int} (h : l.drop n = p :: r) : r = l.drop (n + 1) := by
  rw [← List.drop_drop, h]
  rfl
theorem cut_ints {l : List Int} {i j : Nat} (hij : i ≤ j) (hj : j ≤ l.length) : cutV (l.map V.int) (some (i : Int)) (some (j : Int)) = ((l.drop i).take (j - i)).map V.int := by
  unfold cutV
  rw [HT.sIx_nat, HT.sIx_nat, List.length_map, Nat.min_eq_left hj, Nat.min_eq_left (Nat.le_trans hij hj), List.map_take, List.map_drop]
theorem in_yes {i : Nat} (h : i = 1 ∨ i = 9) : (if false = true then !inV (V.int (i : Int)) [V.int 1, V.int 9] else inV (V.int (i : Int)) [V.int 1, V.int 9]) = true := by
  rcases h with h | h <;> subst h <;> decide
theorem in_no {i : Nat} (h1 : i ≠ 1) (h9 : i ≠ 9) : (if false = true then !inV (V.int (i : Int)) [V.int 1, V.int 9] else inV (V.int (i : Int)) [V.int 1, V.int 9]) = false := by
  show (((1 : Int) == (i : Int)) || (((9 : Int) == (i : Int)) || false)) = false
  rw [beq_eq_false_iff_ne.mpr (by omega), beq_eq_false_iff_ne.mpr (by omega)]
  rfl
section
variable {P : Program} {w : World} {K : PySem.W.Frag} {mg : Str → Option Value} {base : Heap} {R C : Addr}
def rLenK (K : PySem.W.Frag) : List V → Hp → VK → Prop := fun xs H Q => ∃ p ys, xs = [.ref p] ∧ (SqL K H p ys ∨ SqT K H p ys) ∧ Q (.int ys.length) H
theorem call_lenK {X : Cx} : CallR X (.builtin "len") (rLenK X.K) := call_len_seq
/-- found.append(len(answer)); found.extend(answer); at = behind -/
theorem read_tail {D : Ends} {σ : L2.St} {H : Hp} {fnd p9 : Addr} {v5 : V} {fs as : List Int} (h2 : σ[2]? = some (some (V.ref fnd))) (h9 : σ[9]? = some (some (V.ref p9))) (h5 : σ[5]? = some (some v5)) (hf : H fnd = some (.lst (fs.map V.int))) (ha : H p9 = some (.lst (as.map V.int))) (ne : p9 ≠ fnd)
    (len : fs.length + (as.length + 1) ≤ 10000000) (k : D.nx (σ.set 3 (some v5)) (upd H fnd (.lst ((fs ++ ((as.length : Nat) : Int) :: as).map V.int)))) :
    tSeq (tDrop (tBM K "list" rAppend (tVar 2) (tCons (tCB (rLenK K) (tCons (tVar 9) tNil)) tNil))) (tSeq (tDrop (tBM K "list" rExtend (tVar 2) (tCons (tVar 9) tNil))) (tAsg (tVar 5) (gName 3))) D σ H := by
  refine ⟨_, h2, .inl ⟨rfl, _, SqL.of hf⟩, _, h9, p9, _, rfl, .inl (SqL.of ha), fnd, _, _, rfl, rfl, hf, by rw [List.length_map, sizeLine_eq]; omega, ?_⟩
  refine ⟨_, h2, .inl ⟨rfl, _, SqL.of upd_same⟩, _, h9, fnd, p9, _, _, rfl, rfl, upd_same, (upd_ne ne).trans ha, ?_, _, h5, ?_⟩
  · rw [List.length_append, List.length_map, List.length_map, List.length_singleton, sizeLine_eq]
    omega
  · rw [upd_upd, List.length_map]
    rw [List.map_append] at k
    have e : fs.map V.int ++ [V.int ((as.length : Nat) : Int)] ++ as.map V.int = fs.map V.int ++ (((as.length : Nat) : Int) :: as).map V.int := by
      rw [List.append_assoc]
      rfl
    rw [e]
    exact k
/-- two lists more stand beside -/
theorem call_beside {B H2 H4 : Hp} {x p1 p4 : Addr} {s : Abs} {u v : HO} (S : St R C B H2 x s) (s4 : Same H2 H4) (n1 : H2 p1 = Option.none) (n4 : H2 p4 = Option.none) (e1 : H4 p1 = some u) (e4 : H4 p4 = some v) (ne : p1 ≠ p4) :
    St R C (upd (upd B p1 u) p4 v) H4 x s := by
  refine S.beside (fun b o e _ => s4 b o e) (fun b o e => ?_) fun b o e n => ?_
  · by_cases h4 : b = p4
    · subst h4
      rw [upd_same] at e
      rw [← e]
      exact e4
    · rw [upd_ne h4] at e
      by_cases h1 : b = p1
      · subst h1
        rw [upd_same] at e
        rw [← e]
        exact e1
      · rw [upd_ne h1] at e
        exact s4 _ _ (S.sB _ _ e)
  · rw [upd_ne (ne_of_none e n4), upd_ne (ne_of_none e n1)]
    exact n
/-- behind a call the found list grows -/
theorem after_call {B1 H H5 : Hp} {x fnd : Addr} {s : Abs} {o u : HO} (S : St R C B1 H5 x s) (sB : Same H B1) (hf0 : H fnd = Option.none) (hB : B1 fnd = some o) : St R C (upd H fnd u) (upd H5 fnd u) x s := by
  have nf : ∀ {b}, B1 b = Option.none → b ≠ fnd := fun {b} n q => by rw [q, hB] at n; cases n
  refine S.beside (fun b o e n => by rw [upd_ne (nf n)]; exact e) (fun b o e => ?_) fun b o e n => ?_
  · by_cases hb : b = fnd
    · subst hb
      rw [upd_same] at e ⊢
      exact e
    · rw [upd_ne hb] at e ⊢
      exact S.sB _ _ (sB _ _ e)
  · rw [upd_ne (nf n)]
    exact sB.free n
def spAnswers (K : PySem.W.Frag) : Sp := fun vs H Q _ => ∃ (a : Addr) (l : List Int), vs = [.ref a] ∧ SqL K H a (l.map V.int) ∧ l.length ≤ 30000 ∧ PyRc87.answers_asked l = true ∧ ∀ (H' : Hp) (p : Addr), H' p = some (.lst ((PyRc87.answers l).map V.int)) → Q (.ref p) H'
abbrev nAnswers : List Str := ["calls", "counting", "found", "at", "call", "behind", "numbers", "row", "end", "answer"]
theorem scAnswers : FnScope nAnswers ["calls"] (defScope sAnswers) := ⟨rfl, rfl, rfl, by decide +kernel, rfl, by decide +kernel, by decide +kernel⟩
theorem ok_answers {f : Addr} {fd : FuncData} (F : Fun K "answers" "answers" sAnswers f fd) (T : Txt K mg R C) (GA : FnC P w K mg base "answered" 7 nAnswered (spAnswered R C K)) (GI : MkC P w K mg base "Counting" C 1 ["self"] (spCInit R C)) : FnOk P w K mg base CX0 8 f fd ["calls"] (spAnswers K) := by
  obtain ⟨fa, fda, GA, mA, kA, bA⟩ := GA
  obtain ⟨fi, fdi, MI, GI, mI, bI⟩ := GI
  obtain ⟨aN, gN, qN⟩ := T.gNUMBERS
  refine F.ok scAnswers (fun vs H Q E h => ?_) (fun cdv A outer s H vs Q E hr h => ?_)
  · obtain ⟨a, l, rfl, _⟩ := h
    rfl
  · obtain ⟨a, l, rfl, hS, h30, hask, k⟩ := h
    have hr2 : Room 2 _ := hr.mono (by decide)
    refine ⟨_, pss_cons (ps_set (i := 1) scAnswers.nd rfl (Or.inl rfl) (pe_make0 MI GI hr2 rfl mI bI .nil pass0))
      (pss_cons (ps_set (i := 2) scAnswers.nd rfl (Or.inl rfl) (pe_lst pa_nil))
      (pss_cons (ps_set (i := 3) scAnswers.nd rfl (Or.inl rfl) pe_int)
      (pss_cons (ps_while PassesOwn.never (pt_cmpR op_lt (pv 3) (pe_callB call_lenK (by rfl) T.len PySem.boot_len (pa_cons (pv 0) pa_nil)) (nomark _))
        (pss_cons (ps_set (i := 4) scAnswers.nd rfl (Or.inl rfl) (pe_ix ix_list (pv 0) (pv 3) (fun _ _ => rfl)))
        (pss_cons (ps_set (i := 5) scAnswers.nd rfl (Or.inl rfl) (pe_op op_add (pe_op op_add (pv 3) pe_int) (pe_ix ix_tup (pe_glob (v := .ref aN) rfl gN rfl) (pv 4) (fun _ _ => rfl))))
        (pss_cons (ps_set (i := 6) scAnswers.nd rfl (Or.inl rfl) (pe_slice sl_list (pv 0) (po_some (pe_op op_add (pv 3) pe_int)) (po_some (pv 5))))
        (pss_cons (ps_set (i := 7) scAnswers.nd rfl (Or.inl rfl) (pe_lst pa_nil))
        (pss_cons (ps_if (pt_cmpR op_in_seq (pv 4) (pe_tup (pa_cons (pe_gint rfl T.gRULE) (pa_cons (pe_gint rfl T.gCODE) pa_nil))) (by rfl))
          (pss_cons (ps_set (i := 8) scAnswers.nd rfl (Or.inl rfl) (pe_op op_add (pe_op op_add (pv 5) pe_int) (pe_ix ix_list (pv 0) (pv 5) (fun _ _ => rfl))))
          (pss_cons (ps_set (i := 7) scAnswers.nd rfl (Or.inl rfl) (pe_slice sl_list (pv 0) (po_some (pe_op op_add (pv 5) pe_int)) (po_some (pv 8))))
          (pss_one (ps_set (i := 5) scAnswers.nd rfl (Or.inl rfl) (pv 8))))) pss_nil)
        (pss_cons (ps_if (pt_cmpR op_eq (pv 4) pe_int (nomark _))
          (pss_cons (ps_set (i := 1) scAnswers.nd rfl (Or.inl rfl) (pe_make0 MI GI hr2 rfl mI bI .nil pass0)) (pss_one (ps_set (i := 9) scAnswers.nd rfl (Or.inl rfl) (pe_lst (pa_cons pe_int pa_nil)))))
          (pss_one (ps_set (i := 9) scAnswers.nd rfl (Or.inl rfl) (pe_call GA hr rfl mA kA bA .nil pass0 (pa_cons (pv 1) (pa_cons (pv 4) (pa_cons (pv 6) (pa_cons (pv 7) pa_nil))))))))
        (pss_cons (ps_expr (pe_bm PySem.F.plainAttrs_list PySem.F.slot_list_append PySem.F.type_list_append mt_append (pv 2) (pa_cons (pe_callB call_lenK (by rfl) T.len PySem.boot_len (pa_cons (pv 9) pa_nil)) pa_nil)))
        (pss_cons (ps_expr (pe_bm PySem.F.plainAttrs_list PySem.F.slot_list_extend PySem.F.type_list_extend mt_extend (pv 2) (pa_cons (pv 9) pa_nil)))
        (pss_one (ps_set (i := 3) scAnswers.nd rfl (Or.inl rfl) (pv 5))))))))))))
      (pss_one (ps_ret (pv 2)))))), ?_⟩
    intro x0 dx0 nx0 ndx0 nex0
    have sx : Same H (upd (upd H dx0 (.own x0)) x0 (.ins C dx0 [])) := fun b o e => by
      rw [upd_ne (ne_of_none e nx0), upd_ne (ne_of_none e ndx0)]
      exact e
    refine ⟨x0, dx0, rfl, upd_same, fun H1 k1 S1 => ⟨rfl, ?_⟩⟩
    have s1 : Same H H1 := fun b o e => k1 b o (sx b o e) (ne_of_none e nx0)
    have S1 := S1 H sx nx0
    refine ⟨Nat.zero_le _, fun fnd hf => ?_⟩
    have hf0 : H fnd = Option.none := s1.free hf
    obtain ⟨cs0, L0⟩ := left_start hask
    have S2 : St R C (upd H fnd (.lst (([] : List Int).map V.int))) (upd H1 fnd (.lst [])) x0 {} := by
      refine S1.beside (fun b o e _ => upd_new hf b o e) (fun b o e => ?_) fun b o e n => ?_
      · by_cases hb : b = fnd
        · subst hb
          rw [upd_same] at e ⊢
          exact e
        · rw [upd_ne hb] at e ⊢
          exact s1 b o e
      · rw [upd_ne (ne_of_none e hf)]
        exact n
    refine ⟨fun m σ H' => ∃ (x : Addr) (n : Nat) (s : Abs) (fs : List Int) (cs : List (List (List Int))) (v4 v5 v6 v7 v8 v9 : Option V),
        σ = [some (V.ref a), some (V.ref x), some (V.ref fnd), some (V.int (n : Int)), v4, v5, v6, v7, v8, v9] ∧ St R C (upd H fnd (.lst (fs.map V.int))) H' x s ∧ Left l n cs fs s ∧ m = cs.length,
      ⟨_, x0, 0, {}, [], cs0, _, _, _, _, _, _, rfl, S2, L0, rfl⟩, ?_⟩
    rintro m σ H2 ⟨x, n, s, fs, cs, v4, v5, v6, v7, v8, v9, rfl, S, L, rfl⟩
    have sH : Same H H2 := fun b o e => S.sB b o (by rw [upd_ne (ne_of_none e hf0)]; exact e)
    have hfnd : H2 fnd = some (.lst (fs.map V.int)) := S.sB _ _ upd_same
    refine ⟨_, rfl, _, rfl, a, _, rfl, .inl (sH.seq hS), _, _, rfl, rfl, _, rfl, ite_dec (fun hlt => ?_) (fun hlt => ?_)⟩
    · rw [List.length_map] at hlt
      have hlt : n < l.length := by omega
      obtain ⟨p, r, t, rc, cs', ed, ⟨i, kk, rfl, hk, hcase⟩, elen, next⟩ := left_turn L hlt
      refine ⟨fun σ' H' => ∃ (x : Addr) (n : Nat) (s : Abs) (fs : List Int) (v4 v5 v6 v7 v8 v9 : Option V),
          σ' = [some (V.ref a), some (V.ref x), some (V.ref fnd), some (V.int (n : Int)), v4, v5, v6, v7, v8, v9] ∧ St R C (upd H fnd (.lst (fs.map V.int))) H' x s ∧ Left l n cs' fs s,
        fun σ' H' ⟨x, n, s, fs, v4, v5, v6, v7, v8, v9, e1, e2, e3⟩ => ⟨_, by omega, x, n, s, fs, cs', v4, v5, v6, v7, v8, v9, e1, e2, e3, rfl⟩, ?_⟩
      have er := drop_next ed
      have hrl : r.length = l.length - (n + 1) := by rw [er, List.length_drop]
      refine ⟨_, rfl, _, rfl, a, _, _, _, rfl, rfl, sH.seq hS, atI_nat (int_at ed), ?_⟩
      refine ⟨_, rfl, _, _, rfl, rfl, _, rfl, aN, _, _, _, rfl, rfl, qN H2, nums_get hk, _, _, rfl, rfl, ?_⟩
      have e5 : (n : Int) + 1 + (kk : Int) = ((n + 1 + kk : Nat) : Int) := by omega
      dsimp only
      rw [e5]
      have hkr : n + 1 + kk ≤ l.length := by
        rcases hcase with ⟨h, _⟩ | ⟨_, _, _, h, _⟩ | ⟨_, h, _⟩
        · subst h
          have : kk = 0 := (Option.some.inj hk).symm
          omega
        · omega
        · omega
      have ec : cutV (l.map V.int) (some ((n : Int) + 1)) (some ((n + 1 + kk : Nat) : Int)) = (r.take kk).map V.int := by
        rw [show (n : Int) + 1 = ((n + 1 : Nat) : Int) by omega, cut_ints (by omega) hkr, ← er, show n + 1 + kk - (n + 1) = kk by omega]
      refine ⟨_, rfl, _, rfl, _, _, rfl, rfl, _, rfl, _, rfl, _, rfl, a, _, rfl, sH.seq hS, fun p1 n1 => ?_⟩
      rw [ec]
      have t1 : Same H2 (upd H2 p1 (.lst ((r.take kk).map V.int))) := upd_new n1
      have g1 : upd H2 p1 (.lst ((r.take kk).map V.int)) p1 = some (.lst ((r.take kk).map V.int)) := upd_same
      generalize upd H2 p1 (.lst ((r.take kk).map V.int)) = H3 at t1 g1 ⊢
      refine ⟨Nat.zero_le _, fun p2 n2 => ?_⟩
      have n2H : H2 p2 = Option.none := t1.free n2
      have ne12 : p1 ≠ p2 := ne_of_none g1 n2
      have t2 : Same H3 (upd H3 p2 (.lst [])) := upd_new n2
      have g2 : upd H3 p2 (.lst []) p2 = some (.lst []) := upd_same
      generalize upd H3 p2 (.lst []) = H4 at t2 g2 ⊢
      have g1 := t2 _ _ g1
      have t2 := t1.trans t2
      refine ⟨_, rfl, (by show 2 ≤ sizeLine; decide), fun p3 n3 => ?_⟩
      refine ⟨p3, _, rfl, .inr (SqT.of upd_same), rfl, rfl, _, rfl, ?_⟩
      have t3 : Same H4 (upd H4 p3 (.tup [V.int 1, V.int 9])) := upd_new n3
      generalize upd H4 p3 (.tup [V.int 1, V.int 9]) = H5 at t3 ⊢
      have g1 := t3 _ _ g1
      have g2 := t3 _ _ g2
      have t3 := t2.trans t3
      have sH5 := sH.trans t3
      have lenAll := left_len L
      rcases hcase with ⟨hi0, ht, hrc⟩ | ⟨hi0, hi1, hi9, hkl, ht, rq⟩ | ⟨hi19, hk0, nn, r', hr', hnn, ht, rq⟩
      · subst hi0
        have hk0 : kk = 0 := (Option.some.inj hk).symm
        subst hk0
        subst hrc
        rw [in_no (by decide) (by decide)]
        refine iteF ?_
        refine ⟨_, rfl, rfl, _, rfl, ite_eqI (fun _ => ?_) (fun h => absurd rfl h)⟩
        intro x' dx' nx ndx nex
        have sx' : Same H5 (upd (upd H5 dx' (.own x')) x' (.ins C dx' [])) := fun b o e => by
          rw [upd_ne (ne_of_none e nx), upd_ne (ne_of_none e ndx)]
          exact e
        refine ⟨x', dx', rfl, upd_same, fun H6 k6 S6 => ⟨rfl, ?_⟩⟩
        have S6 := S6 (upd H fnd (.lst (fs.map V.int))) ((S.sB.trans t3).trans sx') ((S.sB.trans t3).free nx)
        have f6 : H6 fnd = some (.lst (fs.map V.int)) := S6.sB _ _ upd_same
        refine ⟨(by show 1 ≤ sizeLine; decide), fun p9 n9 => ?_⟩
        have L' := next (n + 1 + 0) (by rw [ht, er]) hkr
        have ll := left_len L'
        rw [List.length_append, List.length_cons] at ll
        refine read_tail (as := [0]) rfl rfl rfl (upd_new n9 _ _ f6) upd_same (ne_of_none f6 n9).symm ll ?_
        exact ⟨x', n + 1 + 0, {}, _, _, _, _, _, _, _, rfl, after_call (S6.mono (upd_new n9)) (upd_new hf0) hf0 upd_same, L'⟩
      · rw [in_no hi1 hi9]
        refine iteF ?_
        refine ⟨_, rfl, rfl, _, rfl, ite_eqI (fun h => absurd (Int.ofNat.inj h) hi0) (fun _ => ?_)⟩
        have S6 := call_beside S t3 n1 n2H g1 g2 ne12
        have B1f : upd (upd (upd H fnd (.lst (fs.map V.int))) p1 (.lst ((r.take kk).map V.int))) p2 (.lst []) fnd = some (.lst (fs.map V.int)) := by
          rw [upd_ne (ne_of_none hfnd n2H), upd_ne (ne_of_none hfnd n1), upd_same]
        have sB1 : Same H (upd (upd (upd H fnd (.lst (fs.map V.int))) p1 (.lst ((r.take kk).map V.int))) p2 (.lst [])) := fun b o e => by
          rw [upd_ne (ne_of_none (sH b o e) n2H), upd_ne (ne_of_none (sH b o e) n1), upd_ne (ne_of_none e hf0)]
          exact e
        refine ⟨_, rfl, _, rfl, _, rfl, _, rfl, _, x, s, (i : Int), p1, p2, r.take kk, [], rc, rfl, S6, SqL.of (by rw [upd_ne ne12, upd_same]), SqL.of upd_same, rq, fun H6 p9 S7 hp9 e9 => ?_⟩
        have L' := next (n + 1 + kk) (by rw [ht, er, List.drop_drop]) hkr
        have ll := left_len L'
        rw [List.length_append, List.length_cons] at ll
        refine read_tail rfl rfl rfl (S7.sB _ _ B1f) e9 (fun q => by rw [q, B1f] at hp9; cases hp9) ll ?_
        exact ⟨x, n + 1 + kk, _, _, _, _, _, _, _, _, rfl, after_call S7 sB1 hf0 B1f, L'⟩
      · subst hk0
        rw [in_yes hi19]
        refine iteT ?_
        have hd : l.drop (n + 1 + 0) = (nn : Int) :: r' := by
          rw [← hr', er]
        have er' := drop_next hd
        have hr'l : r'.length = l.length - (n + 1 + 0 + 1) := by rw [er', List.length_drop]
        refine ⟨_, rfl, _, _, rfl, rfl, _, rfl, _, rfl, a, _, _, _, rfl, rfl, sH5.seq hS, atI_nat (int_at hd), _, _, rfl, rfl, ?_⟩
        have e8 : ((n + 1 + 0 : Nat) : Int) + 1 + (nn : Int) = ((n + 1 + 0 + 1 + nn : Nat) : Int) := by omega
        dsimp only
        rw [e8]
        have hend : n + 1 + 0 + 1 + nn ≤ l.length := by
          have : n + 1 + 0 < l.length := by
            have := congrArg List.length hd
            rw [List.length_drop, List.length_cons] at this
            omega
          omega
        have ec2 : cutV (l.map V.int) (some (((n + 1 + 0 : Nat) : Int) + 1)) (some ((n + 1 + 0 + 1 + nn : Nat) : Int)) = (r'.take nn).map V.int := by
          rw [show ((n + 1 + 0 : Nat) : Int) + 1 = ((n + 1 + 0 + 1 : Nat) : Int) by omega, cut_ints (by omega) hend, ← er', show n + 1 + 0 + 1 + nn - (n + 1 + 0 + 1) = nn by omega]
        refine ⟨_, rfl, _, rfl, _, _, rfl, rfl, _, rfl, _, rfl, _, rfl, a, _, rfl, sH5.seq hS, fun p4 n4 => ?_⟩
        rw [ec2]
        have t4 : Same H5 (upd H5 p4 (.lst ((r'.take nn).map V.int))) := upd_new n4
        have g4 : upd H5 p4 (.lst ((r'.take nn).map V.int)) p4 = some (.lst ((r'.take nn).map V.int)) := upd_same
        generalize upd H5 p4 (.lst ((r'.take nn).map V.int)) = H6 at t4 g4 ⊢
        have ne14 : p1 ≠ p4 := ne_of_none g1 n4
        have n4H : H2 p4 = Option.none := t3.free n4
        have g1 := t4 _ _ g1
        have t4 := t3.trans t4
        refine ⟨_, rfl, ?_⟩
        refine ⟨_, rfl, rfl, _, rfl, ite_eqI (fun h => absurd (Int.ofNat.inj h) (by omega)) (fun _ => ?_)⟩
        have S6 := call_beside S t4 n1 n4H g1 g4 ne14
        have B1f : upd (upd (upd H fnd (.lst (fs.map V.int))) p1 (.lst ((r.take 0).map V.int))) p4 (.lst ((r'.take nn).map V.int)) fnd = some (.lst (fs.map V.int)) := by
          rw [upd_ne (ne_of_none hfnd n4H), upd_ne (ne_of_none hfnd n1), upd_same]
        have sB1 : Same H (upd (upd (upd H fnd (.lst (fs.map V.int))) p1 (.lst ((r.take 0).map V.int))) p4 (.lst ((r'.take nn).map V.int))) := fun b o e => by
          rw [upd_ne (ne_of_none (sH b o e) n4H), upd_ne (ne_of_none (sH b o e) n1), upd_ne (ne_of_none e hf0)]
          exact e
        refine ⟨_, rfl, _, rfl, _, rfl, _, rfl, _, x, s, (i : Int), p1, p4, r.take 0, r'.take nn, rc, rfl, S6, SqL.of (by rw [upd_ne ne14, upd_same]), SqL.of upd_same, rq, fun H7 p9 S7 hp9 e9 => ?_⟩
        have L' := next (n + 1 + 0 + 1 + nn) (by rw [ht, er', List.drop_drop]) hend
        have ll := left_len L'
        rw [List.length_append, List.length_cons] at ll
        refine read_tail rfl rfl rfl (S7.sB _ _ B1f) e9 (fun q => by rw [q, B1f] at hp9; cases hp9) ll ?_
        exact ⟨x, n + 1 + 0 + 1 + nn, _, _, _, _, _, _, _, _, rfl, after_call S7 sB1 hf0 B1f, L'⟩
    · rw [List.length_map] at hlt
      refine ⟨_, rfl, ?_⟩
      refine k H2 fnd ?_
      rw [left_end L (by omega)]
      exact hfnd
end
end Fc
/-! E: what the top has written; the end. -/
namespace Fc
open PySem PySem.Spec PyProof.Rows L2
def valsB : List Int → List Value → Bool
  | [], [] => true
  | i :: l, .int j _ :: m => decide (i = j) && valsB l m
  | _, _ => false
theorem valsB_ok : ∀ {l : List Int} {m : List Value}, valsB l m = true → Vals (l.map V.int) m
  | [], [], _ => .nil
  | i :: l, .int j t :: m, h => by
    unfold valsB at h
    rw [Bool.and_eq_true, decide_eq_true_eq] at h
    obtain ⟨rfl, h⟩ := h
    exact .cons ⟨t, rfl⟩ (valsB_ok h)
theorem tup_top {K : PySem.W.Frag} {a : Addr} {od : Option Addr} {its : Array Value} {n : Nat} {sl : Array (Option Value)} {l : List Int} (h : K.lookup a = some ⟨.type "tuple", od, .seq its n, sl⟩) (hv : valsB l its.toList = true) (hl : l.length ≤ 100000) (H : Hp) : SqT K H a (l.map V.int) := by
  have v := valsB_ok hv
  refine .inr ⟨_, its, n, h, rfl, rfl, ?_, v⟩
  have e : its.toList.length = l.length := by have e := v.length; rw [List.length_map] at e; exact e.symm
  have e2 : its.size = l.length := by rw [← e, Array.length_toList]
  rw [e2]
  exact sl64 hl
theorem all_mk {P : Program} {w : World} {K : PySem.W.Frag} {h : Heap} {mg : Str → Option Value} {fa R C a_PRIMES a_NUMBERS f_power f_number f_filled f_amts f_isCounter f_isCount f_rInit f_fits f_beyond f_change f_ruleBy f_codeOf f_isIns f_isCode f_rulesOf f_cInit f_addRule f_put f_get f_fitting f_step f_isAlone f_run f_runSteps f_runAlone f_ratio f_setCode f_makeRules f_insDone f_go f_told f_answered f_answers : Addr} (X : K.In h) (G : h.Ns mainGlobals mg) (hfa : mg "answers" = some (.ref fa))
    {od_PRIMES od_NUMBERS od_power an_power od_number an_number od_filled an_filled od_amts an_amts od_isCounter an_isCounter od_isCount an_isCount od_rInit an_rInit od_fits an_fits od_beyond an_beyond od_change an_change od_ruleBy an_ruleBy od_codeOf an_codeOf od_isIns an_isIns od_isCode an_isCode od_rulesOf an_rulesOf od_cInit an_cInit od_addRule an_addRule od_put an_put od_get an_get od_fitting an_fitting od_step an_step od_isAlone an_isAlone od_run an_run od_runSteps an_runSteps od_runAlone an_runAlone od_ratio an_ratio od_setCode an_setCode od_makeRules an_makeRules od_insDone an_insDone od_go an_go od_told an_told od_answered an_answered od_answers an_answers : Option Addr} {sl_PRIMES sl_NUMBERS sl_power sl_number sl_filled sl_amts sl_isCounter sl_isCount sl_rInit sl_fits sl_beyond sl_change sl_ruleBy sl_codeOf sl_isIns sl_isCode sl_rulesOf sl_cInit sl_addRule sl_put sl_get sl_fitting sl_step sl_isAlone sl_run sl_runSteps sl_runAlone sl_ratio sl_setCode sl_makeRules sl_insDone sl_go sl_told sl_answered sl_answers : Array (Option Value)} {its_PRIMES its_NUMBERS : Array Value} {n_PRIMES n_NUMBERS : Nat}
    {oc_power kV_power dc_power pm_power cd_power ct_power oc_number kV_number dc_number pm_number cd_number ct_number oc_filled kV_filled dc_filled pm_filled cd_filled ct_filled oc_amts kV_amts dc_amts pm_amts cd_amts ct_amts oc_isCounter kV_isCounter dc_isCounter pm_isCounter cd_isCounter ct_isCounter oc_isCount kV_isCount dc_isCount pm_isCount cd_isCount ct_isCount oc_rInit kV_rInit dc_rInit pm_rInit cd_rInit ct_rInit oc_fits kV_fits dc_fits pm_fits cd_fits ct_fits oc_beyond kV_beyond dc_beyond pm_beyond cd_beyond ct_beyond oc_change kV_change dc_change pm_change cd_change ct_change oc_ruleBy kV_ruleBy dc_ruleBy pm_ruleBy cd_ruleBy ct_ruleBy oc_codeOf kV_codeOf dc_codeOf pm_codeOf cd_codeOf ct_codeOf oc_isIns kV_isIns dc_isIns pm_isIns cd_isIns ct_isIns oc_isCode kV_isCode dc_isCode pm_isCode cd_isCode ct_isCode oc_rulesOf kV_rulesOf dc_rulesOf pm_rulesOf cd_rulesOf ct_rulesOf oc_cInit kV_cInit dc_cInit pm_cInit cd_cInit ct_cInit oc_addRule kV_addRule dc_addRule pm_addRule cd_addRule ct_addRule oc_put kV_put dc_put pm_put cd_put ct_put oc_get kV_get dc_get pm_get cd_get ct_get oc_fitting kV_fitting dc_fitting pm_fitting cd_fitting ct_fitting oc_step kV_step dc_step pm_step cd_step ct_step oc_isAlone kV_isAlone dc_isAlone pm_isAlone cd_isAlone ct_isAlone oc_run kV_run dc_run pm_run cd_run ct_run oc_runSteps kV_runSteps dc_runSteps pm_runSteps cd_runSteps ct_runSteps oc_runAlone kV_runAlone dc_runAlone pm_runAlone cd_runAlone ct_runAlone oc_ratio kV_ratio dc_ratio pm_ratio cd_ratio ct_ratio oc_setCode kV_setCode dc_setCode pm_setCode cd_setCode ct_setCode oc_makeRules kV_makeRules dc_makeRules pm_makeRules cd_makeRules ct_makeRules oc_insDone kV_insDone dc_insDone pm_insDone cd_insDone ct_insDone oc_go kV_go dc_go pm_go cd_go ct_go oc_told kV_told dc_told pm_told cd_told ct_told oc_answered kV_answered dc_answered pm_answered cd_answered ct_answered oc_answers kV_answers dc_answers pm_answers cd_answers ct_answers : Value} {t_COUNTERS t_MOST t_WORDS t_STOP t_MORE t_LESS t_REGISTERS t_NOW t_NEXT t_PARTS t_MOST_RULES t_MOST_STEPS t_WRONG t_NONE t_BEYOND t_DONE t_AT_END t_TOO_MUCH t_ALONE t_RULE t_CODE : Tok}
    (aR : PySem.W.nsIn K mainGlobals "Rule" = some (some (.ref R)))
    (aC : PySem.W.nsIn K mainGlobals "Counting" = some (some (.ref C)))
    (a_power : PySem.W.nsIn K mainGlobals "power_of" = some (some (.ref f_power)))
    (l_power : K.lookup f_power = some ⟨oc_power, od_power, .func (PySem.W.fnOf "power_of" "power_of" (defArgs sPower) (defBody sPower) (defScope sPower) .none kV_power dc_power pm_power an_power cd_power ct_power), sl_power⟩)
    (c_power : PySem.W.codeIn K cd_power "power_of" = true)
    (k_power : PySem.W.keepIn K (.ref f_power) = true)
    (a_number : PySem.W.nsIn K mainGlobals "number_of" = some (some (.ref f_number)))
    (l_number : K.lookup f_number = some ⟨oc_number, od_number, .func (PySem.W.fnOf "number_of" "number_of" (defArgs sNumber) (defBody sNumber) (defScope sNumber) .none kV_number dc_number pm_number an_number cd_number ct_number), sl_number⟩)
    (c_number : PySem.W.codeIn K cd_number "number_of" = true)
    (k_number : PySem.W.keepIn K (.ref f_number) = true)
    (a_filled : PySem.W.nsIn K mainGlobals "filled" = some (some (.ref f_filled)))
    (l_filled : K.lookup f_filled = some ⟨oc_filled, od_filled, .func (PySem.W.fnOf "filled" "filled" (defArgs sFilled) (defBody sFilled) (defScope sFilled) .none kV_filled dc_filled pm_filled an_filled cd_filled ct_filled), sl_filled⟩)
    (c_filled : PySem.W.codeIn K cd_filled "filled" = true)
    (k_filled : PySem.W.keepIn K (.ref f_filled) = true)
    (a_amts : PySem.W.nsIn K mainGlobals "amounts_of" = some (some (.ref f_amts)))
    (l_amts : K.lookup f_amts = some ⟨oc_amts, od_amts, .func (PySem.W.fnOf "amounts_of" "amounts_of" (defArgs sAmts) (defBody sAmts) (defScope sAmts) .none kV_amts dc_amts pm_amts an_amts cd_amts ct_amts), sl_amts⟩)
    (c_amts : PySem.W.codeIn K cd_amts "amounts_of" = true)
    (k_amts : PySem.W.keepIn K (.ref f_amts) = true)
    (a_isCounter : PySem.W.nsIn K mainGlobals "is_counter" = some (some (.ref f_isCounter)))
    (l_isCounter : K.lookup f_isCounter = some ⟨oc_isCounter, od_isCounter, .func (PySem.W.fnOf "is_counter" "is_counter" (defArgs sIsCounter) (defBody sIsCounter) (defScope sIsCounter) .none kV_isCounter dc_isCounter pm_isCounter an_isCounter cd_isCounter ct_isCounter), sl_isCounter⟩)
    (c_isCounter : PySem.W.codeIn K cd_isCounter "is_counter" = true)
    (k_isCounter : PySem.W.keepIn K (.ref f_isCounter) = true)
    (a_isCount : PySem.W.nsIn K mainGlobals "is_count" = some (some (.ref f_isCount)))
    (l_isCount : K.lookup f_isCount = some ⟨oc_isCount, od_isCount, .func (PySem.W.fnOf "is_count" "is_count" (defArgs sIsCount) (defBody sIsCount) (defScope sIsCount) .none kV_isCount dc_isCount pm_isCount an_isCount cd_isCount ct_isCount), sl_isCount⟩)
    (c_isCount : PySem.W.codeIn K cd_isCount "is_count" = true)
    (k_isCount : PySem.W.keepIn K (.ref f_isCount) = true)
    (a_rInit : PySem.W.findIn K (.ref R) "__init__" = some (some (.ref f_rInit)))
    (i_rInit : PySem.W.isFn K (.ref f_rInit) = true)
    (l_rInit : K.lookup f_rInit = some ⟨oc_rInit, od_rInit, .func (PySem.W.fnOf "__init__" "Rule.__init__" (defArgs sRInit) (defBody sRInit) (defScope sRInit) .none kV_rInit dc_rInit pm_rInit an_rInit cd_rInit ct_rInit), sl_rInit⟩)
    (c_rInit : PySem.W.codeIn K cd_rInit "Rule.__init__" = true)
    (k_rInit : PySem.W.keepIn K (.ref f_rInit) = true)
    (a_fits : PySem.W.findIn K (.ref R) "fits" = some (some (.ref f_fits)))
    (i_fits : PySem.W.isFn K (.ref f_fits) = true)
    (l_fits : K.lookup f_fits = some ⟨oc_fits, od_fits, .func (PySem.W.fnOf "fits" "Rule.fits" (defArgs sFits) (defBody sFits) (defScope sFits) .none kV_fits dc_fits pm_fits an_fits cd_fits ct_fits), sl_fits⟩)
    (c_fits : PySem.W.codeIn K cd_fits "Rule.fits" = true)
    (k_fits : PySem.W.keepIn K (.ref f_fits) = true)
    (a_beyond : PySem.W.findIn K (.ref R) "is_beyond" = some (some (.ref f_beyond)))
    (i_beyond : PySem.W.isFn K (.ref f_beyond) = true)
    (l_beyond : K.lookup f_beyond = some ⟨oc_beyond, od_beyond, .func (PySem.W.fnOf "is_beyond" "Rule.is_beyond" (defArgs sBeyond) (defBody sBeyond) (defScope sBeyond) .none kV_beyond dc_beyond pm_beyond an_beyond cd_beyond ct_beyond), sl_beyond⟩)
    (c_beyond : PySem.W.codeIn K cd_beyond "Rule.is_beyond" = true)
    (k_beyond : PySem.W.keepIn K (.ref f_beyond) = true)
    (a_change : PySem.W.findIn K (.ref R) "change" = some (some (.ref f_change)))
    (i_change : PySem.W.isFn K (.ref f_change) = true)
    (l_change : K.lookup f_change = some ⟨oc_change, od_change, .func (PySem.W.fnOf "change" "Rule.change" (defArgs sChange) (defBody sChange) (defScope sChange) .none kV_change dc_change pm_change an_change cd_change ct_change), sl_change⟩)
    (c_change : PySem.W.codeIn K cd_change "Rule.change" = true)
    (k_change : PySem.W.keepIn K (.ref f_change) = true)
    (a_ruleBy : PySem.W.nsIn K mainGlobals "rule_by" = some (some (.ref f_ruleBy)))
    (l_ruleBy : K.lookup f_ruleBy = some ⟨oc_ruleBy, od_ruleBy, .func (PySem.W.fnOf "rule_by" "rule_by" (defArgs sRuleBy) (defBody sRuleBy) (defScope sRuleBy) .none kV_ruleBy dc_ruleBy pm_ruleBy an_ruleBy cd_ruleBy ct_ruleBy), sl_ruleBy⟩)
    (c_ruleBy : PySem.W.codeIn K cd_ruleBy "rule_by" = true)
    (k_ruleBy : PySem.W.keepIn K (.ref f_ruleBy) = true)
    (a_codeOf : PySem.W.nsIn K mainGlobals "code_of" = some (some (.ref f_codeOf)))
    (l_codeOf : K.lookup f_codeOf = some ⟨oc_codeOf, od_codeOf, .func (PySem.W.fnOf "code_of" "code_of" (defArgs sCodeOf) (defBody sCodeOf) (defScope sCodeOf) .none kV_codeOf dc_codeOf pm_codeOf an_codeOf cd_codeOf ct_codeOf), sl_codeOf⟩)
    (c_codeOf : PySem.W.codeIn K cd_codeOf "code_of" = true)
    (k_codeOf : PySem.W.keepIn K (.ref f_codeOf) = true)
    (a_isIns : PySem.W.nsIn K mainGlobals "is_instruction" = some (some (.ref f_isIns)))
    (l_isIns : K.lookup f_isIns = some ⟨oc_isIns, od_isIns, .func (PySem.W.fnOf "is_instruction" "is_instruction" (defArgs sIsIns) (defBody sIsIns) (defScope sIsIns) .none kV_isIns dc_isIns pm_isIns an_isIns cd_isIns ct_isIns), sl_isIns⟩)
    (c_isIns : PySem.W.codeIn K cd_isIns "is_instruction" = true)
    (k_isIns : PySem.W.keepIn K (.ref f_isIns) = true)
    (a_isCode : PySem.W.nsIn K mainGlobals "is_code" = some (some (.ref f_isCode)))
    (l_isCode : K.lookup f_isCode = some ⟨oc_isCode, od_isCode, .func (PySem.W.fnOf "is_code" "is_code" (defArgs sIsCode) (defBody sIsCode) (defScope sIsCode) .none kV_isCode dc_isCode pm_isCode an_isCode cd_isCode ct_isCode), sl_isCode⟩)
    (c_isCode : PySem.W.codeIn K cd_isCode "is_code" = true)
    (k_isCode : PySem.W.keepIn K (.ref f_isCode) = true)
    (a_rulesOf : PySem.W.nsIn K mainGlobals "rules_of" = some (some (.ref f_rulesOf)))
    (l_rulesOf : K.lookup f_rulesOf = some ⟨oc_rulesOf, od_rulesOf, .func (PySem.W.fnOf "rules_of" "rules_of" (defArgs sRulesOf) (defBody sRulesOf) (defScope sRulesOf) .none kV_rulesOf dc_rulesOf pm_rulesOf an_rulesOf cd_rulesOf ct_rulesOf), sl_rulesOf⟩)
    (c_rulesOf : PySem.W.codeIn K cd_rulesOf "rules_of" = true)
    (k_rulesOf : PySem.W.keepIn K (.ref f_rulesOf) = true)
    (a_cInit : PySem.W.findIn K (.ref C) "__init__" = some (some (.ref f_cInit)))
    (i_cInit : PySem.W.isFn K (.ref f_cInit) = true)
    (l_cInit : K.lookup f_cInit = some ⟨oc_cInit, od_cInit, .func (PySem.W.fnOf "__init__" "Counting.__init__" (defArgs sCInit) (defBody sCInit) (defScope sCInit) .none kV_cInit dc_cInit pm_cInit an_cInit cd_cInit ct_cInit), sl_cInit⟩)
    (c_cInit : PySem.W.codeIn K cd_cInit "Counting.__init__" = true)
    (k_cInit : PySem.W.keepIn K (.ref f_cInit) = true)
    (a_addRule : PySem.W.findIn K (.ref C) "add_rule" = some (some (.ref f_addRule)))
    (i_addRule : PySem.W.isFn K (.ref f_addRule) = true)
    (l_addRule : K.lookup f_addRule = some ⟨oc_addRule, od_addRule, .func (PySem.W.fnOf "add_rule" "Counting.add_rule" (defArgs sAddRule) (defBody sAddRule) (defScope sAddRule) .none kV_addRule dc_addRule pm_addRule an_addRule cd_addRule ct_addRule), sl_addRule⟩)
    (c_addRule : PySem.W.codeIn K cd_addRule "Counting.add_rule" = true)
    (k_addRule : PySem.W.keepIn K (.ref f_addRule) = true)
    (a_put : PySem.W.findIn K (.ref C) "put" = some (some (.ref f_put)))
    (i_put : PySem.W.isFn K (.ref f_put) = true)
    (l_put : K.lookup f_put = some ⟨oc_put, od_put, .func (PySem.W.fnOf "put" "Counting.put" (defArgs sPut) (defBody sPut) (defScope sPut) .none kV_put dc_put pm_put an_put cd_put ct_put), sl_put⟩)
    (c_put : PySem.W.codeIn K cd_put "Counting.put" = true)
    (k_put : PySem.W.keepIn K (.ref f_put) = true)
    (a_get : PySem.W.findIn K (.ref C) "get" = some (some (.ref f_get)))
    (i_get : PySem.W.isFn K (.ref f_get) = true)
    (l_get : K.lookup f_get = some ⟨oc_get, od_get, .func (PySem.W.fnOf "get" "Counting.get" (defArgs sGet) (defBody sGet) (defScope sGet) .none kV_get dc_get pm_get an_get cd_get ct_get), sl_get⟩)
    (c_get : PySem.W.codeIn K cd_get "Counting.get" = true)
    (k_get : PySem.W.keepIn K (.ref f_get) = true)
    (a_fitting : PySem.W.findIn K (.ref C) "fitting" = some (some (.ref f_fitting)))
    (i_fitting : PySem.W.isFn K (.ref f_fitting) = true)
    (l_fitting : K.lookup f_fitting = some ⟨oc_fitting, od_fitting, .func (PySem.W.fnOf "fitting" "Counting.fitting" (defArgs sFitting) (defBody sFitting) (defScope sFitting) .none kV_fitting dc_fitting pm_fitting an_fitting cd_fitting ct_fitting), sl_fitting⟩)
    (c_fitting : PySem.W.codeIn K cd_fitting "Counting.fitting" = true)
    (k_fitting : PySem.W.keepIn K (.ref f_fitting) = true)
    (a_step : PySem.W.findIn K (.ref C) "step" = some (some (.ref f_step)))
    (i_step : PySem.W.isFn K (.ref f_step) = true)
    (l_step : K.lookup f_step = some ⟨oc_step, od_step, .func (PySem.W.fnOf "step" "Counting.step" (defArgs sStep) (defBody sStep) (defScope sStep) .none kV_step dc_step pm_step an_step cd_step ct_step), sl_step⟩)
    (c_step : PySem.W.codeIn K cd_step "Counting.step" = true)
    (k_step : PySem.W.keepIn K (.ref f_step) = true)
    (a_isAlone : PySem.W.findIn K (.ref C) "is_alone" = some (some (.ref f_isAlone)))
    (i_isAlone : PySem.W.isFn K (.ref f_isAlone) = true)
    (l_isAlone : K.lookup f_isAlone = some ⟨oc_isAlone, od_isAlone, .func (PySem.W.fnOf "is_alone" "Counting.is_alone" (defArgs sIsAlone) (defBody sIsAlone) (defScope sIsAlone) .none kV_isAlone dc_isAlone pm_isAlone an_isAlone cd_isAlone ct_isAlone), sl_isAlone⟩)
    (c_isAlone : PySem.W.codeIn K cd_isAlone "Counting.is_alone" = true)
    (k_isAlone : PySem.W.keepIn K (.ref f_isAlone) = true)
    (a_run : PySem.W.findIn K (.ref C) "run" = some (some (.ref f_run)))
    (i_run : PySem.W.isFn K (.ref f_run) = true)
    (l_run : K.lookup f_run = some ⟨oc_run, od_run, .func (PySem.W.fnOf "run" "Counting.run" (defArgs sRun) (defBody sRun) (defScope sRun) .none kV_run dc_run pm_run an_run cd_run ct_run), sl_run⟩)
    (c_run : PySem.W.codeIn K cd_run "Counting.run" = true)
    (k_run : PySem.W.keepIn K (.ref f_run) = true)
    (a_runSteps : PySem.W.findIn K (.ref C) "run_steps" = some (some (.ref f_runSteps)))
    (i_runSteps : PySem.W.isFn K (.ref f_runSteps) = true)
    (l_runSteps : K.lookup f_runSteps = some ⟨oc_runSteps, od_runSteps, .func (PySem.W.fnOf "run_steps" "Counting.run_steps" (defArgs sRunSteps) (defBody sRunSteps) (defScope sRunSteps) .none kV_runSteps dc_runSteps pm_runSteps an_runSteps cd_runSteps ct_runSteps), sl_runSteps⟩)
    (c_runSteps : PySem.W.codeIn K cd_runSteps "Counting.run_steps" = true)
    (k_runSteps : PySem.W.keepIn K (.ref f_runSteps) = true)
    (a_runAlone : PySem.W.findIn K (.ref C) "run_alone" = some (some (.ref f_runAlone)))
    (i_runAlone : PySem.W.isFn K (.ref f_runAlone) = true)
    (l_runAlone : K.lookup f_runAlone = some ⟨oc_runAlone, od_runAlone, .func (PySem.W.fnOf "run_alone" "Counting.run_alone" (defArgs sRunAlone) (defBody sRunAlone) (defScope sRunAlone) .none kV_runAlone dc_runAlone pm_runAlone an_runAlone cd_runAlone ct_runAlone), sl_runAlone⟩)
    (c_runAlone : PySem.W.codeIn K cd_runAlone "Counting.run_alone" = true)
    (k_runAlone : PySem.W.keepIn K (.ref f_runAlone) = true)
    (a_ratio : PySem.W.findIn K (.ref C) "ratio" = some (some (.ref f_ratio)))
    (i_ratio : PySem.W.isFn K (.ref f_ratio) = true)
    (l_ratio : K.lookup f_ratio = some ⟨oc_ratio, od_ratio, .func (PySem.W.fnOf "ratio" "Counting.ratio" (defArgs sRatio) (defBody sRatio) (defScope sRatio) .none kV_ratio dc_ratio pm_ratio an_ratio cd_ratio ct_ratio), sl_ratio⟩)
    (c_ratio : PySem.W.codeIn K cd_ratio "Counting.ratio" = true)
    (k_ratio : PySem.W.keepIn K (.ref f_ratio) = true)
    (a_setCode : PySem.W.findIn K (.ref C) "set_code" = some (some (.ref f_setCode)))
    (i_setCode : PySem.W.isFn K (.ref f_setCode) = true)
    (l_setCode : K.lookup f_setCode = some ⟨oc_setCode, od_setCode, .func (PySem.W.fnOf "set_code" "Counting.set_code" (defArgs sSetCode) (defBody sSetCode) (defScope sSetCode) .none kV_setCode dc_setCode pm_setCode an_setCode cd_setCode ct_setCode), sl_setCode⟩)
    (c_setCode : PySem.W.codeIn K cd_setCode "Counting.set_code" = true)
    (k_setCode : PySem.W.keepIn K (.ref f_setCode) = true)
    (a_makeRules : PySem.W.findIn K (.ref C) "make_rules" = some (some (.ref f_makeRules)))
    (i_makeRules : PySem.W.isFn K (.ref f_makeRules) = true)
    (l_makeRules : K.lookup f_makeRules = some ⟨oc_makeRules, od_makeRules, .func (PySem.W.fnOf "make_rules" "Counting.make_rules" (defArgs sMakeRules) (defBody sMakeRules) (defScope sMakeRules) .none kV_makeRules dc_makeRules pm_makeRules an_makeRules cd_makeRules ct_makeRules), sl_makeRules⟩)
    (c_makeRules : PySem.W.codeIn K cd_makeRules "Counting.make_rules" = true)
    (k_makeRules : PySem.W.keepIn K (.ref f_makeRules) = true)
    (a_insDone : PySem.W.findIn K (.ref C) "instruction_done" = some (some (.ref f_insDone)))
    (i_insDone : PySem.W.isFn K (.ref f_insDone) = true)
    (l_insDone : K.lookup f_insDone = some ⟨oc_insDone, od_insDone, .func (PySem.W.fnOf "instruction_done" "Counting.instruction_done" (defArgs sInsDone) (defBody sInsDone) (defScope sInsDone) .none kV_insDone dc_insDone pm_insDone an_insDone cd_insDone ct_insDone), sl_insDone⟩)
    (c_insDone : PySem.W.codeIn K cd_insDone "Counting.instruction_done" = true)
    (k_insDone : PySem.W.keepIn K (.ref f_insDone) = true)
    (a_go : PySem.W.findIn K (.ref C) "go" = some (some (.ref f_go)))
    (i_go : PySem.W.isFn K (.ref f_go) = true)
    (l_go : K.lookup f_go = some ⟨oc_go, od_go, .func (PySem.W.fnOf "go" "Counting.go" (defArgs sGo) (defBody sGo) (defScope sGo) .none kV_go dc_go pm_go an_go cd_go ct_go), sl_go⟩)
    (c_go : PySem.W.codeIn K cd_go "Counting.go" = true)
    (k_go : PySem.W.keepIn K (.ref f_go) = true)
    (a_told : PySem.W.nsIn K mainGlobals "told" = some (some (.ref f_told)))
    (l_told : K.lookup f_told = some ⟨oc_told, od_told, .func (PySem.W.fnOf "told" "told" (defArgs sTold) (defBody sTold) (defScope sTold) .none kV_told dc_told pm_told an_told cd_told ct_told), sl_told⟩)
    (c_told : PySem.W.codeIn K cd_told "told" = true)
    (k_told : PySem.W.keepIn K (.ref f_told) = true)
    (a_answered : PySem.W.nsIn K mainGlobals "answered" = some (some (.ref f_answered)))
    (l_answered : K.lookup f_answered = some ⟨oc_answered, od_answered, .func (PySem.W.fnOf "answered" "answered" (defArgs sAnswered) (defBody sAnswered) (defScope sAnswered) .none kV_answered dc_answered pm_answered an_answered cd_answered ct_answered), sl_answered⟩)
    (c_answered : PySem.W.codeIn K cd_answered "answered" = true)
    (k_answered : PySem.W.keepIn K (.ref f_answered) = true)
    (a_answers : PySem.W.nsIn K mainGlobals "answers" = some (some (.ref f_answers)))
    (l_answers : K.lookup f_answers = some ⟨oc_answers, od_answers, .func (PySem.W.fnOf "answers" "answers" (defArgs sAnswers) (defBody sAnswers) (defScope sAnswers) .none kV_answers dc_answers pm_answers an_answers cd_answers ct_answers), sl_answers⟩)
    (c_answers : PySem.W.codeIn K cd_answers "answers" = true)
    (k_answers : PySem.W.keepIn K (.ref f_answers) = true)
    (pgR : PySem.W.plainGet K R Str.empty = true)
    (hdR : PySem.W.hasDictIn K R = true)
    (poR : PySem.W.plainOver K R = true)
    (saR : PySem.W.findIn K (.ref R) "__setattr__" = some (some (.builtin "object.__setattr__")))
    (mkR : PySem.W.makesIn K R = true)
    (kcR : PySem.W.keepIn K (.ref R) = true)
    (pgC : PySem.W.plainGet K C Str.empty = true)
    (hdC : PySem.W.hasDictIn K C = true)
    (poC : PySem.W.plainOver K C = true)
    (saC : PySem.W.findIn K (.ref C) "__setattr__" = some (some (.builtin "object.__setattr__")))
    (mkC : PySem.W.makesIn K C = true)
    (kcC : PySem.W.keepIn K (.ref C) = true)
    (nR_takes : PySem.W.findIn K (.ref R) "takes" = some Option.none)
    (nR_gives : PySem.W.findIn K (.ref R) "gives" = some Option.none)
    (nR_taking : PySem.W.findIn K (.ref R) "taking" = some Option.none)
    (nR_changes : PySem.W.findIn K (.ref R) "changes" = some Option.none)
    (nC_counters : PySem.W.findIn K (.ref C) "counters" = some Option.none)
    (nC_rules : PySem.W.findIn K (.ref C) "rules" = some Option.none)
    (nC_code : PySem.W.findIn K (.ref C) "code" = some Option.none)
    (nC_at : PySem.W.findIn K (.ref C) "at" = some Option.none)
    (z_len : PySem.W.nsIn K mainGlobals "len" = some Option.none)
    (z_range : PySem.W.nsIn K mainGlobals "range" = some Option.none)
    (z_enumerate : PySem.W.nsIn K mainGlobals "enumerate" = some Option.none)
    (z_zip : PySem.W.nsIn K mainGlobals "zip" = some Option.none)
    (z_max : PySem.W.nsIn K mainGlobals "max" = some Option.none)
    (z_tuple : PySem.W.nsIn K mainGlobals "tuple" = some Option.none)
    (g_COUNTERS : PySem.W.nsIn K mainGlobals "COUNTERS" = some (some (.int 40 t_COUNTERS)))
    (g_MOST : PySem.W.nsIn K mainGlobals "MOST" = some (some (.int 2147483647 t_MOST)))
    (g_WORDS : PySem.W.nsIn K mainGlobals "WORDS" = some (some (.int 18446744073709551616 t_WORDS)))
    (g_STOP : PySem.W.nsIn K mainGlobals "STOP" = some (some (.int 0 t_STOP)))
    (g_MORE : PySem.W.nsIn K mainGlobals "MORE" = some (some (.int 1 t_MORE)))
    (g_LESS : PySem.W.nsIn K mainGlobals "LESS" = some (some (.int 2 t_LESS)))
    (g_REGISTERS : PySem.W.nsIn K mainGlobals "REGISTERS" = some (some (.int 8 t_REGISTERS)))
    (g_NOW : PySem.W.nsIn K mainGlobals "NOW" = some (some (.int 8 t_NOW)))
    (g_NEXT : PySem.W.nsIn K mainGlobals "NEXT" = some (some (.int 24 t_NEXT)))
    (g_PARTS : PySem.W.nsIn K mainGlobals "PARTS" = some (some (.int 4 t_PARTS)))
    (g_MOST_RULES : PySem.W.nsIn K mainGlobals "MOST_RULES" = some (some (.int 64 t_MOST_RULES)))
    (g_MOST_STEPS : PySem.W.nsIn K mainGlobals "MOST_STEPS" = some (some (.int 1000000000 t_MOST_STEPS)))
    (g_WRONG : PySem.W.nsIn K mainGlobals "WRONG" = some (some (.int (-1) t_WRONG)))
    (g_NONE : PySem.W.nsIn K mainGlobals "NONE" = some (some (.int (-2) t_NONE)))
    (g_BEYOND : PySem.W.nsIn K mainGlobals "BEYOND" = some (some (.int (-3) t_BEYOND)))
    (g_DONE : PySem.W.nsIn K mainGlobals "DONE" = some (some (.int 0 t_DONE)))
    (g_AT_END : PySem.W.nsIn K mainGlobals "AT_END" = some (some (.int 1 t_AT_END)))
    (g_TOO_MUCH : PySem.W.nsIn K mainGlobals "TOO_MUCH" = some (some (.int 2 t_TOO_MUCH)))
    (g_ALONE : PySem.W.nsIn K mainGlobals "ALONE" = some (some (.int 3 t_ALONE)))
    (g_RULE : PySem.W.nsIn K mainGlobals "RULE" = some (some (.int 1 t_RULE)))
    (g_CODE : PySem.W.nsIn K mainGlobals "CODE" = some (some (.int 9 t_CODE)))
    (g_PRIMES : PySem.W.nsIn K mainGlobals "PRIMES" = some (some (.ref a_PRIMES)))
    (l_PRIMES : K.lookup a_PRIMES = some ⟨.type "tuple", od_PRIMES, .seq its_PRIMES n_PRIMES, sl_PRIMES⟩)
    (v_PRIMES : valsB (primesL.map nI) its_PRIMES.toList = true)
    (g_NUMBERS : PySem.W.nsIn K mainGlobals "NUMBERS" = some (some (.ref a_NUMBERS)))
    (l_NUMBERS : K.lookup a_NUMBERS = some ⟨.type "tuple", od_NUMBERS, .seq its_NUMBERS n_NUMBERS, sl_NUMBERS⟩)
    (v_NUMBERS : valsB [0, 0, 2, 1, 0, 1, 2, 0, 1, 0, 0, 1] its_NUMBERS.toList = true)
    : ∃ fd : FuncData, (∀ (s : Shared) (us : List Value), us.length = (["calls"] : List Str).length → BindsTo s fd ⟨us, []⟩ ((["calls"] : List Str).zip us)) ∧ ∀ base : Heap, K.In base → base.Ns mainGlobals mg → FnOk P w K mg base CX0 8 fa fd ["calls"] (spAnswers K) := by
  have e := hfa.symm.trans (PySem.W.mg_of X G a_answers)
  cases e
  have T : Txt K mg R C := { clR := ⟨pgR, hdR, poR, saR⟩, clC := ⟨pgC, hdC, poC, saC⟩, nTakes := nR_takes, nGives := nR_gives, nTaking := nR_taking, nChanges := nR_changes, nCounters := nC_counters, nRules := nC_rules, nCode := nC_code, nAt := nC_at, len := PySem.W.mg_none_of X G z_len, range := PySem.W.mg_none_of X G z_range, enumerate := PySem.W.mg_none_of X G z_enumerate, zip := PySem.W.mg_none_of X G z_zip, max := PySem.W.mg_none_of X G z_max, tuple := PySem.W.mg_none_of X G z_tuple, gCOUNTERS := ⟨_, PySem.W.mg_of X G g_COUNTERS⟩, gMOST := ⟨_, PySem.W.mg_of X G g_MOST⟩, gWORDS := ⟨_, PySem.W.mg_of X G g_WORDS⟩, gSTOP := ⟨_, PySem.W.mg_of X G g_STOP⟩, gMORE := ⟨_, PySem.W.mg_of X G g_MORE⟩, gLESS := ⟨_, PySem.W.mg_of X G g_LESS⟩, gREGISTERS := ⟨_, PySem.W.mg_of X G g_REGISTERS⟩, gNOW := ⟨_, PySem.W.mg_of X G g_NOW⟩, gNEXT := ⟨_, PySem.W.mg_of X G g_NEXT⟩, gPARTS := ⟨_, PySem.W.mg_of X G g_PARTS⟩, gMOST_RULES := ⟨_, PySem.W.mg_of X G g_MOST_RULES⟩, gMOST_STEPS := ⟨_, PySem.W.mg_of X G g_MOST_STEPS⟩, gWRONG := ⟨_, PySem.W.mg_of X G g_WRONG⟩, gNONE := ⟨_, PySem.W.mg_of X G g_NONE⟩, gBEYOND := ⟨_, PySem.W.mg_of X G g_BEYOND⟩, gDONE := ⟨_, PySem.W.mg_of X G g_DONE⟩, gAT_END := ⟨_, PySem.W.mg_of X G g_AT_END⟩, gTOO_MUCH := ⟨_, PySem.W.mg_of X G g_TOO_MUCH⟩, gALONE := ⟨_, PySem.W.mg_of X G g_ALONE⟩, gRULE := ⟨_, PySem.W.mg_of X G g_RULE⟩, gCODE := ⟨_, PySem.W.mg_of X G g_CODE⟩, gPRIMES := ⟨_, PySem.W.mg_of X G g_PRIMES, fun H => tup_top l_PRIMES v_PRIMES (by decide) H⟩, gNUMBERS := ⟨_, PySem.W.mg_of X G g_NUMBERS, fun H => tup_top l_NUMBERS v_NUMBERS (by decide) H⟩ }
  have F_power := fun_mk (st := sPower) l_power c_power k_power
  have b_power := F_power.binds (ps := ["number", "times"]) fun _ _ _ _ _ _ us hl => match us, hl with | [_, _], _ => rfl
  have F_number := fun_mk (st := sNumber) l_number c_number k_number
  have b_number := F_number.binds (ps := ["amounts"]) fun _ _ _ _ _ _ us hl => match us, hl with | [_], _ => rfl
  have F_filled := fun_mk (st := sFilled) l_filled c_filled k_filled
  have b_filled := F_filled.binds (ps := ["row"]) fun _ _ _ _ _ _ us hl => match us, hl with | [_], _ => rfl
  have F_amts := fun_mk (st := sAmts) l_amts c_amts k_amts
  have b_amts := F_amts.binds (ps := ["counters"]) fun _ _ _ _ _ _ us hl => match us, hl with | [_], _ => rfl
  have F_isCounter := fun_mk (st := sIsCounter) l_isCounter c_isCounter k_isCounter
  have b_isCounter := F_isCounter.binds (ps := ["number"]) fun _ _ _ _ _ _ us hl => match us, hl with | [_], _ => rfl
  have F_isCount := fun_mk (st := sIsCount) l_isCount c_isCount k_isCount
  have b_isCount := F_isCount.binds (ps := ["number"]) fun _ _ _ _ _ _ us hl => match us, hl with | [_], _ => rfl
  have F_rInit := fun_mk (st := sRInit) l_rInit c_rInit k_rInit
  have b_rInit := F_rInit.binds (ps := ["self", "takes", "gives"]) fun _ _ _ _ _ _ us hl => match us, hl with | [_, _, _], _ => rfl
  have F_fits := fun_mk (st := sFits) l_fits c_fits k_fits
  have b_fits := F_fits.binds (ps := ["self", "counters"]) fun _ _ _ _ _ _ us hl => match us, hl with | [_, _], _ => rfl
  have F_beyond := fun_mk (st := sBeyond) l_beyond c_beyond k_beyond
  have b_beyond := F_beyond.binds (ps := ["self", "counters"]) fun _ _ _ _ _ _ us hl => match us, hl with | [_, _], _ => rfl
  have F_change := fun_mk (st := sChange) l_change c_change k_change
  have b_change := F_change.binds (ps := ["self", "counters"]) fun _ _ _ _ _ _ us hl => match us, hl with | [_, _], _ => rfl
  have F_ruleBy := fun_mk (st := sRuleBy) l_ruleBy c_ruleBy k_ruleBy
  have b_ruleBy := F_ruleBy.binds (ps := ["takes", "gives"]) fun _ _ _ _ _ _ us hl => match us, hl with | [_, _], _ => rfl
  have F_codeOf := fun_mk (st := sCodeOf) l_codeOf c_codeOf k_codeOf
  have b_codeOf := F_codeOf.binds (ps := ["row"]) fun _ _ _ _ _ _ us hl => match us, hl with | [_], _ => rfl
  have F_isIns := fun_mk (st := sIsIns) l_isIns c_isIns k_isIns
  have b_isIns := F_isIns.binds (ps := ["instruction", "many"]) fun _ _ _ _ _ _ us hl => match us, hl with | [_, _], _ => rfl
  have F_isCode := fun_mk (st := sIsCode) l_isCode c_isCode k_isCode
  have b_isCode := F_isCode.binds (ps := ["code"]) fun _ _ _ _ _ _ us hl => match us, hl with | [_], _ => rfl
  have F_rulesOf := fun_mk (st := sRulesOf) l_rulesOf c_rulesOf k_rulesOf
  have b_rulesOf := F_rulesOf.binds (ps := ["code"]) fun _ _ _ _ _ _ us hl => match us, hl with | [_], _ => rfl
  have F_cInit := fun_mk (st := sCInit) l_cInit c_cInit k_cInit
  have b_cInit := F_cInit.binds (ps := ["self"]) fun _ _ _ _ _ _ us hl => match us, hl with | [_], _ => rfl
  have F_addRule := fun_mk (st := sAddRule) l_addRule c_addRule k_addRule
  have b_addRule := F_addRule.binds (ps := ["self", "row"]) fun _ _ _ _ _ _ us hl => match us, hl with | [_, _], _ => rfl
  have F_put := fun_mk (st := sPut) l_put c_put k_put
  have b_put := F_put.binds (ps := ["self", "number", "amount"]) fun _ _ _ _ _ _ us hl => match us, hl with | [_, _, _], _ => rfl
  have F_get := fun_mk (st := sGet) l_get c_get k_get
  have b_get := F_get.binds (ps := ["self", "number"]) fun _ _ _ _ _ _ us hl => match us, hl with | [_, _], _ => rfl
  have F_fitting := fun_mk (st := sFitting) l_fitting c_fitting k_fitting
  have b_fitting := F_fitting.binds (ps := ["self"]) fun _ _ _ _ _ _ us hl => match us, hl with | [_], _ => rfl
  have F_step := fun_mk (st := sStep) l_step c_step k_step
  have b_step := F_step.binds (ps := ["self"]) fun _ _ _ _ _ _ us hl => match us, hl with | [_], _ => rfl
  have F_isAlone := fun_mk (st := sIsAlone) l_isAlone c_isAlone k_isAlone
  have b_isAlone := F_isAlone.binds (ps := ["self", "number"]) fun _ _ _ _ _ _ us hl => match us, hl with | [_, _], _ => rfl
  have F_run := fun_mk (st := sRun) l_run c_run k_run
  have b_run := F_run.binds (ps := ["self", "most", "alone"]) fun _ _ _ _ _ _ us hl => match us, hl with | [_, _, _], _ => rfl
  have F_runSteps := fun_mk (st := sRunSteps) l_runSteps c_runSteps k_runSteps
  have b_runSteps := F_runSteps.binds (ps := ["self", "most"]) fun _ _ _ _ _ _ us hl => match us, hl with | [_, _], _ => rfl
  have F_runAlone := fun_mk (st := sRunAlone) l_runAlone c_runAlone k_runAlone
  have b_runAlone := F_runAlone.binds (ps := ["self", "number", "most"]) fun _ _ _ _ _ _ us hl => match us, hl with | [_, _, _], _ => rfl
  have F_ratio := fun_mk (st := sRatio) l_ratio c_ratio k_ratio
  have b_ratio := F_ratio.binds (ps := ["self", "number"]) fun _ _ _ _ _ _ us hl => match us, hl with | [_, _], _ => rfl
  have F_setCode := fun_mk (st := sSetCode) l_setCode c_setCode k_setCode
  have b_setCode := F_setCode.binds (ps := ["self", "row"]) fun _ _ _ _ _ _ us hl => match us, hl with | [_, _], _ => rfl
  have F_makeRules := fun_mk (st := sMakeRules) l_makeRules c_makeRules k_makeRules
  have b_makeRules := F_makeRules.binds (ps := ["self"]) fun _ _ _ _ _ _ us hl => match us, hl with | [_], _ => rfl
  have F_insDone := fun_mk (st := sInsDone) l_insDone c_insDone k_insDone
  have b_insDone := F_insDone.binds (ps := ["self"]) fun _ _ _ _ _ _ us hl => match us, hl with | [_], _ => rfl
  have F_go := fun_mk (st := sGo) l_go c_go k_go
  have b_go := F_go.binds (ps := ["self", "most"]) fun _ _ _ _ _ _ us hl => match us, hl with | [_, _], _ => rfl
  have F_told := fun_mk (st := sTold) l_told c_told k_told
  have b_told := F_told.binds (ps := ["counting", "call", "numbers"]) fun _ _ _ _ _ _ us hl => match us, hl with | [_, _, _], _ => rfl
  have F_answered := fun_mk (st := sAnswered) l_answered c_answered k_answered
  have b_answered := F_answered.binds (ps := ["counting", "call", "numbers", "row"]) fun _ _ _ _ _ _ us hl => match us, hl with | [_, _, _, _], _ => rfl
  have F_answers := fun_mk (st := sAnswers) l_answers c_answers k_answers
  have b_answers := F_answers.binds (ps := ["calls"]) fun _ _ _ _ _ _ us hl => match us, hl with | [_], _ => rfl
  refine ⟨PySem.W.fnOf "answers" "answers" (defArgs sAnswers) (defBody sAnswers) (defScope sAnswers) .none kV_answers dc_answers pm_answers an_answers cd_answers ct_answers, fun s us hu => match us, hu with | [_], _ => .of_eq rfl, fun base _ _ => ?_⟩
  have G_power : FnC P w K mg base "power_of" 1 ["number", "times"] spPower := ⟨_, _, ok_power F_power T , PySem.W.mg_of X G a_power, k_power, b_power⟩
  have G_number : FnC P w K mg base "number_of" 2 ["amounts"] (spNumber K) := ⟨_, _, ok_number F_number T G_power, PySem.W.mg_of X G a_number, k_number, b_number⟩
  have G_filled : FnC P w K mg base "filled" 1 ["row"] spFilled := ⟨_, _, ok_filled F_filled T , PySem.W.mg_of X G a_filled, k_filled, b_filled⟩
  have G_amts : FnC P w K mg base "amounts_of" 1 ["counters"] (spAmts K) := ⟨_, _, ok_amts F_amts T , PySem.W.mg_of X G a_amts, k_amts, b_amts⟩
  have G_isCounter : FnC P w K mg base "is_counter" 1 ["number"] spIsCounter := ⟨_, _, ok_isCounter F_isCounter T , PySem.W.mg_of X G a_isCounter, k_isCounter, b_isCounter⟩
  have G_isCount : FnC P w K mg base "is_count" 1 ["number"] spIsCount := ⟨_, _, ok_isCount F_isCount T , PySem.W.mg_of X G a_isCount, k_isCount, b_isCount⟩
  have G_rInit : MkC P w K mg base "Rule" R 1 ["self", "takes", "gives"] (spRInit R) := ⟨_, _, ⟨mkR, a_rInit, i_rInit, kcR⟩, ok_rInit F_rInit T , PySem.W.mg_of X G aR, b_rInit⟩
  have G_fits : MtC P w K mg base R "fits" 1 ["self", "counters"] (spFits R) := ⟨_, _, ok_fits F_fits T , ⟨a_fits, i_fits, k_fits⟩, b_fits⟩
  have G_beyond : MtC P w K mg base R "is_beyond" 1 ["self", "counters"] (spBeyond R) := ⟨_, _, ok_beyond F_beyond T , ⟨a_beyond, i_beyond, k_beyond⟩, b_beyond⟩
  have G_change : MtC P w K mg base R "change" 1 ["self", "counters"] (spChange R) := ⟨_, _, ok_change F_change T , ⟨a_change, i_change, k_change⟩, b_change⟩
  have G_ruleBy : FnC P w K mg base "rule_by" 3 ["takes", "gives"] (spRuleBy R K) := ⟨_, _, ok_ruleBy F_ruleBy T G_amts G_rInit, PySem.W.mg_of X G a_ruleBy, k_ruleBy, b_ruleBy⟩
  have G_codeOf : FnC P w K mg base "code_of" 1 ["row"] (spCodeOf K) := ⟨_, _, ok_codeOf F_codeOf T , PySem.W.mg_of X G a_codeOf, k_codeOf, b_codeOf⟩
  have G_isIns : FnC P w K mg base "is_instruction" 1 ["instruction", "many"] (spIsIns K) := ⟨_, _, ok_isIns F_isIns T , PySem.W.mg_of X G a_isIns, k_isIns, b_isIns⟩
  have G_isCode : FnC P w K mg base "is_code" 2 ["code"] (spIsCode K) := ⟨_, _, ok_isCode F_isCode T G_isIns, PySem.W.mg_of X G a_isCode, k_isCode, b_isCode⟩
  have G_rulesOf : FnC P w K mg base "rules_of" 4 ["code"] (spRulesOf R) := ⟨_, _, ok_rulesOf F_rulesOf T G_ruleBy, PySem.W.mg_of X G a_rulesOf, k_rulesOf, b_rulesOf⟩
  have G_cInit : MkC P w K mg base "Counting" C 1 ["self"] (spCInit R C) := ⟨_, _, ⟨mkC, a_cInit, i_cInit, kcC⟩, ok_cInit F_cInit T , PySem.W.mg_of X G aC, b_cInit⟩
  have G_addRule : MtC P w K mg base C "add_rule" 3 ["self", "row"] (spAddRule R C K) := ⟨_, _, ok_addRule F_addRule T G_filled G_rInit, ⟨a_addRule, i_addRule, k_addRule⟩, b_addRule⟩
  have G_put : MtC P w K mg base C "put" 2 ["self", "number", "amount"] (spPut R C) := ⟨_, _, ok_put F_put T G_isCounter, ⟨a_put, i_put, k_put⟩, b_put⟩
  have G_get : MtC P w K mg base C "get" 2 ["self", "number"] (spGet R C) := ⟨_, _, ok_get F_get T G_isCounter, ⟨a_get, i_get, k_get⟩, b_get⟩
  have G_fitting : MtC P w K mg base C "fitting" 2 ["self"] (spFitting R C) := ⟨_, _, ok_fitting F_fitting T G_fits, ⟨a_fitting, i_fitting, k_fitting⟩, b_fitting⟩
  have G_step : MtC P w K mg base C "step" 3 ["self"] (spStep R C) := ⟨_, _, ok_step F_step T G_fitting G_beyond G_change, ⟨a_step, i_step, k_step⟩, b_step⟩
  have G_isAlone : MtC P w K mg base C "is_alone" 1 ["self", "number"] (spIsAlone R C) := ⟨_, _, ok_isAlone F_isAlone T , ⟨a_isAlone, i_isAlone, k_isAlone⟩, b_isAlone⟩
  have G_run : MtC P w K mg base C "run" 4 ["self", "most", "alone"] (spRun R C) := ⟨_, _, ok_run F_run T G_step G_isAlone, ⟨a_run, i_run, k_run⟩, b_run⟩
  have G_runSteps : MtC P w K mg base C "run_steps" 5 ["self", "most"] (spRunSteps R C) := ⟨_, _, ok_runSteps F_runSteps T G_isCount G_run, ⟨a_runSteps, i_runSteps, k_runSteps⟩, b_runSteps⟩
  have G_runAlone : MtC P w K mg base C "run_alone" 5 ["self", "number", "most"] (spRunAlone R C) := ⟨_, _, ok_runAlone F_runAlone T G_isCounter G_isCount G_run, ⟨a_runAlone, i_runAlone, k_runAlone⟩, b_runAlone⟩
  have G_ratio : MtC P w K mg base C "ratio" 3 ["self", "number"] (spRatio R C) := ⟨_, _, ok_ratio F_ratio T G_number, ⟨a_ratio, i_ratio, k_ratio⟩, b_ratio⟩
  have G_setCode : MtC P w K mg base C "set_code" 3 ["self", "row"] (spSetCode R C K) := ⟨_, _, ok_setCode F_setCode T G_codeOf G_isCode, ⟨a_setCode, i_setCode, k_setCode⟩, b_setCode⟩
  have G_makeRules : MtC P w K mg base C "make_rules" 5 ["self"] (spMakeRules R C) := ⟨_, _, ok_makeRules F_makeRules T G_rulesOf, ⟨a_makeRules, i_makeRules, k_makeRules⟩, b_makeRules⟩
  have G_insDone : MtC P w K mg base C "instruction_done" 1 ["self"] (spInsDone R C) := ⟨_, _, ok_insDone F_insDone T , ⟨a_insDone, i_insDone, k_insDone⟩, b_insDone⟩
  have G_go : MtC P w K mg base C "go" 2 ["self", "most"] (spGo R C) := ⟨_, _, ok_go F_go T G_isCount G_insDone, ⟨a_go, i_go, k_go⟩, b_go⟩
  have G_told : FnC P w K mg base "told" 6 ["counting", "call", "numbers"] (spTold R C K) := ⟨_, _, ok_told F_told T G_number G_put G_get G_step G_runSteps G_runAlone G_ratio G_makeRules G_go, PySem.W.mg_of X G a_told, k_told, b_told⟩
  have G_answered : FnC P w K mg base "answered" 7 ["counting", "call", "numbers", "row"] (spAnswered R C K) := ⟨_, _, ok_answered F_answered T G_told G_addRule G_setCode, PySem.W.mg_of X G a_answered, k_answered, b_answered⟩
  exact ok_answers F_answers T G_answered G_cInit
end Fc
open PySem PySem.W PyProof.Rows
set_option maxRecDepth 100000 in
set_option maxHeartbeats 0 in
theorem PySem.Challenge.cw_fortycounters_s01_answers_holds : PySem.Challenge.rw_fortycounters_s01_answers.Holds := by
  w_on; k_headS; (case hw => exact ⟨[.list []], by decide +kernel, by decide +kernel⟩)
  k_fillS
  refine L2.walk_specK (r := PySem.Challenge.rw_fortycounters_s01_answers) (k := 8) (CX := L2.CX0) (ps := ["calls"]) (sp := Fc.spAnswers) (by decide +kernel) rfl rfl ⟨rfl, by decide, by decide⟩ (fun w h Y => PySem.W.kIn_of Y) ?F ?S (fun _ _ _ _ z => z)
  case F =>
    intro w mg fa h Y KX G hmg
    refine' Fc.all_mk KX G hmg ?aR ?aC ?a_power ?l_power ?c_power ?k_power ?a_number ?l_number ?c_number ?k_number ?a_filled ?l_filled ?c_filled ?k_filled ?a_amts ?l_amts ?c_amts ?k_amts ?a_isCounter ?l_isCounter ?c_isCounter ?k_isCounter ?a_isCount ?l_isCount ?c_isCount ?k_isCount ?a_rInit ?i_rInit ?l_rInit ?c_rInit ?k_rInit ?a_fits ?i_fits ?l_fits ?c_fits ?k_fits ?a_beyond ?i_beyond ?l_beyond ?c_beyond ?k_beyond ?a_change ?i_change ?l_change ?c_change ?k_change ?a_ruleBy ?l_ruleBy ?c_ruleBy ?k_ruleBy ?a_codeOf ?l_codeOf ?c_codeOf ?k_codeOf ?a_isIns ?l_isIns ?c_isIns ?k_isIns ?a_isCode ?l_isCode ?c_isCode ?k_isCode ?a_rulesOf ?l_rulesOf ?c_rulesOf ?k_rulesOf ?a_cInit ?i_cInit ?l_cInit ?c_cInit ?k_cInit ?a_addRule ?i_addRule ?l_addRule ?c_addRule ?k_addRule ?a_put ?i_put ?l_put ?c_put ?k_put ?a_get ?i_get ?l_get ?c_get ?k_get ?a_fitting ?i_fitting ?l_fitting ?c_fitting ?k_fitting ?a_step ?i_step ?l_step ?c_step ?k_step ?a_isAlone ?i_isAlone ?l_isAlone ?c_isAlone ?k_isAlone ?a_run ?i_run ?l_run ?c_run ?k_run ?a_runSteps ?i_runSteps ?l_runSteps ?c_runSteps ?k_runSteps ?a_runAlone ?i_runAlone ?l_runAlone ?c_runAlone ?k_runAlone ?a_ratio ?i_ratio ?l_ratio ?c_ratio ?k_ratio ?a_setCode ?i_setCode ?l_setCode ?c_setCode ?k_setCode ?a_makeRules ?i_makeRules ?l_makeRules ?c_makeRules ?k_makeRules ?a_insDone ?i_insDone ?l_insDone ?c_insDone ?k_insDone ?a_go ?i_go ?l_go ?c_go ?k_go ?a_told ?l_told ?c_told ?k_told ?a_answered ?l_answered ?c_answered ?k_answered ?a_answers ?l_answers ?c_answers ?k_answers ?pgR ?hdR ?poR ?saR ?mkR ?kcR ?pgC ?hdC ?poC ?saC ?mkC ?kcC ?nR_takes ?nR_gives ?nR_taking ?nR_changes ?nC_counters ?nC_rules ?nC_code ?nC_at ?z_len ?z_range ?z_enumerate ?z_zip ?z_max ?z_tuple ?g_COUNTERS ?g_MOST ?g_WORDS ?g_STOP ?g_MORE ?g_LESS ?g_REGISTERS ?g_NOW ?g_NEXT ?g_PARTS ?g_MOST_RULES ?g_MOST_STEPS ?g_WRONG ?g_NONE ?g_BEYOND ?g_DONE ?g_AT_END ?g_TOO_MUCH ?g_ALONE ?g_RULE ?g_CODE ?g_PRIMES ?l_PRIMES ?v_PRIMES ?g_NUMBERS ?l_NUMBERS ?v_NUMBERS
    (case aR => k_is)
    (case aC => k_is)
    (case a_power => k_is)
    (case l_power => k_is)
    (case c_power => k_is)
    (case k_power => k_is)
    (case a_number => k_is)
    (case l_number => k_is)
    (case c_number => k_is)
    (case k_number => k_is)
    (case a_filled => k_is)
    (case l_filled => k_is)
    (case c_filled => k_is)
    (case k_filled => k_is)
    (case a_amts => k_is)
    (case l_amts => k_is)
    (case c_amts => k_is)
    (case k_amts => k_is)
    (case a_isCounter => k_is)
    (case l_isCounter => k_is)
    (case c_isCounter => k_is)
    (case k_isCounter => k_is)
    (case a_isCount => k_is)
    (case l_isCount => k_is)
    (case c_isCount => k_is)
    (case k_isCount => k_is)
    (case a_rInit => k_is)
    (case i_rInit => k_is)
    (case l_rInit => k_is)
    (case c_rInit => k_is)
    (case k_rInit => k_is)
    (case a_fits => k_is)
    (case i_fits => k_is)
    (case l_fits => k_is)
    (case c_fits => k_is)
    (case k_fits => k_is)
    (case a_beyond => k_is)
    (case i_beyond => k_is)
    (case l_beyond => k_is)
    (case c_beyond => k_is)
    (case k_beyond => k_is)
    (case a_change => k_is)
    (case i_change => k_is)
    (case l_change => k_is)
    (case c_change => k_is)
    (case k_change => k_is)
    (case a_ruleBy => k_is)
    (case l_ruleBy => k_is)
    (case c_ruleBy => k_is)
    (case k_ruleBy => k_is)
    (case a_codeOf => k_is)
    (case l_codeOf => k_is)
    (case c_codeOf => k_is)
    (case k_codeOf => k_is)
    (case a_isIns => k_is)
    (case l_isIns => k_is)
    (case c_isIns => k_is)
    (case k_isIns => k_is)
    (case a_isCode => k_is)
    (case l_isCode => k_is)
    (case c_isCode => k_is)
    (case k_isCode => k_is)
    (case a_rulesOf => k_is)
    (case l_rulesOf => k_is)
    (case c_rulesOf => k_is)
    (case k_rulesOf => k_is)
    (case a_cInit => k_is)
    (case i_cInit => k_is)
    (case l_cInit => k_is)
    (case c_cInit => k_is)
    (case k_cInit => k_is)
    (case a_addRule => k_is)
    (case i_addRule => k_is)
    (case l_addRule => k_is)
    (case c_addRule => k_is)
    (case k_addRule => k_is)
    (case a_put => k_is)
    (case i_put => k_is)
    (case l_put => k_is)
    (case c_put => k_is)
    (case k_put => k_is)
    (case a_get => k_is)
    (case i_get => k_is)
    (case l_get => k_is)
    (case c_get => k_is)
    (case k_get => k_is)
    (case a_fitting => k_is)
    (case i_fitting => k_is)
    (case l_fitting => k_is)
    (case c_fitting => k_is)
    (case k_fitting => k_is)
    (case a_step => k_is)
    (case i_step => k_is)
    (case l_step => k_is)
    (case c_step => k_is)
    (case k_step => k_is)
    (case a_isAlone => k_is)
    (case i_isAlone => k_is)
    (case l_isAlone => k_is)
    (case c_isAlone => k_is)
    (case k_isAlone => k_is)
    (case a_run => k_is)
    (case i_run => k_is)
    (case l_run => k_is)
    (case c_run => k_is)
    (case k_run => k_is)
    (case a_runSteps => k_is)
    (case i_runSteps => k_is)
    (case l_runSteps => k_is)
    (case c_runSteps => k_is)
    (case k_runSteps => k_is)
    (case a_runAlone => k_is)
    (case i_runAlone => k_is)
    (case l_runAlone => k_is)
    (case c_runAlone => k_is)
    (case k_runAlone => k_is)
    (case a_ratio => k_is)
    (case i_ratio => k_is)
    (case l_ratio => k_is)
    (case c_ratio => k_is)
    (case k_ratio => k_is)
    (case a_setCode => k_is)
    (case i_setCode => k_is)
    (case l_setCode => k_is)
    (case c_setCode => k_is)
    (case k_setCode => k_is)
    (case a_makeRules => k_is)
    (case i_makeRules => k_is)
    (case l_makeRules => k_is)
    (case c_makeRules => k_is)
    (case k_makeRules => k_is)
    (case a_insDone => k_is)
    (case i_insDone => k_is)
    (case l_insDone => k_is)
    (case c_insDone => k_is)
    (case k_insDone => k_is)
    (case a_go => k_is)
    (case i_go => k_is)
    (case l_go => k_is)
    (case c_go => k_is)
    (case k_go => k_is)
    (case a_told => k_is)
    (case l_told => k_is)
    (case c_told => k_is)
    (case k_told => k_is)
    (case a_answered => k_is)
    (case l_answered => k_is)
    (case c_answered => k_is)
    (case k_answered => k_is)
    (case a_answers => k_is)
    (case l_answers => k_is)
    (case c_answers => k_is)
    (case k_answers => k_is)
    (case pgR => k_is)
    (case hdR => k_is)
    (case poR => k_is)
    (case saR => k_is)
    (case mkR => k_is)
    (case kcR => k_is)
    (case pgC => k_is)
    (case hdC => k_is)
    (case poC => k_is)
    (case saC => k_is)
    (case mkC => k_is)
    (case kcC => k_is)
    (case nR_takes => k_is)
    (case nR_gives => k_is)
    (case nR_taking => k_is)
    (case nR_changes => k_is)
    (case nC_counters => k_is)
    (case nC_rules => k_is)
    (case nC_code => k_is)
    (case nC_at => k_is)
    (case z_len => k_is)
    (case z_range => k_is)
    (case z_enumerate => k_is)
    (case z_zip => k_is)
    (case z_max => k_is)
    (case z_tuple => k_is)
    (case g_COUNTERS => k_is)
    (case g_MOST => k_is)
    (case g_WORDS => k_is)
    (case g_STOP => k_is)
    (case g_MORE => k_is)
    (case g_LESS => k_is)
    (case g_REGISTERS => k_is)
    (case g_NOW => k_is)
    (case g_NEXT => k_is)
    (case g_PARTS => k_is)
    (case g_MOST_RULES => k_is)
    (case g_MOST_STEPS => k_is)
    (case g_WRONG => k_is)
    (case g_NONE => k_is)
    (case g_BEYOND => k_is)
    (case g_DONE => k_is)
    (case g_AT_END => k_is)
    (case g_TOO_MUCH => k_is)
    (case g_ALONE => k_is)
    (case g_RULE => k_is)
    (case g_CODE => k_is)
    (case g_PRIMES => k_is)
    (case l_PRIMES => k_is)
    (case v_PRIMES => decide +kernel)
    (case g_NUMBERS => k_is)
    (case l_NUMBERS => k_is)
    (case v_NUMBERS => decide +kernel)
  case S =>
    intro K H xs a hO hwi hask hx
    cases hx with
    | cons h1 h2 =>
      cases h2
      cases h1 with
      | lst hs ha =>
        have e := L2.ints_dw a.1 _ ha
        subst e
        have q : ((Codec.inLen 0 30000 a.1 && a.1.all (Codec.inInt (-2147483648) 2147483647)) && true) = true := hwi
        rw [Bool.and_eq_true, Bool.and_eq_true] at q
        exact ⟨_, a.1, rfl, hs, (Codec.inNat_iff.mp q.1.1).2, hask, fun H' p hp => .lst (L2.SqL.of hp) (L2.dw_ints _)⟩
