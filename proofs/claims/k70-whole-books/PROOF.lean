import PyProof.Rows.All
import Wide.All
import OpenK.AllK
import Wide.FinOn
import HandS.ForMost
import HandS.TupSets
import KE.SortData
import KE.KDictKeyed
import HandS.DictComp
import KE.KDictSum
import KE.KDictCopyH
import HandS.SetFor
import HandS.Zip
import HandS.Walk
import KE.GoesNew
import KE.GoesMore
import HandS.Style
import HandS.TupAny
import KE.KRevSl
import KE.DataCmp
import PySem.Challenge.RW_saidbetween_k70_whole_books_of_cubes_jud
import HandS.TupMul
import HandS.IsInst
import HandS.TupLe
set_option Elab.async false
set_option linter.all false
set_option maxRecDepth 100000
set_option maxHeartbeats 4000000
/-! The plain law: cubes, books of cubes, the fewest asks; no program in sight. -/
namespace Kb

/-! ### free places -/
def freeFrom : Nat → List Int → List Nat
  | _, [] => []
  | i, x :: r => if x = 2 then i :: freeFrom (i + 1) r else freeFrom (i + 1) r
def free (cs : List Int) : List Nat := freeFrom 0 cs
def Dig (cs : List Int) : Prop := ∀ x ∈ cs, x = 0 ∨ x = 1 ∨ x = 2

theorem memFreeFrom : ∀ (cs : List Int) (i j : Nat), j ∈ freeFrom i cs ↔ ∃ k, j = i + k ∧ cs[k]? = some 2
  | [], i, j => by simp [freeFrom]
  | x :: r, i, j => by
    have ih := memFreeFrom r (i + 1) j
    unfold freeFrom
    by_cases h : x = 2
    · rw [if_pos h, List.mem_cons, ih]
      constructor
      · rintro (e | ⟨k, e, hk⟩)
        · exact ⟨0, by omega, by simp [h]⟩
        · exact ⟨k + 1, by omega, by simpa using hk⟩
      · rintro ⟨k, e, hk⟩
        cases k with
        | zero => exact .inl (by omega)
        | succ k => exact .inr ⟨k, by omega, by simpa using hk⟩
    · rw [if_neg h, ih]
      constructor
      · rintro ⟨k, e, hk⟩
        exact ⟨k + 1, by omega, by simpa using hk⟩
      · rintro ⟨k, e, hk⟩
        cases k with
        | zero => exact absurd (by simpa using hk) h
        | succ k => exact ⟨k, by omega, by simpa using hk⟩
theorem memFree {cs : List Int} {j : Nat} : j ∈ free cs ↔ cs[j]? = some 2 := by
  unfold free
  rw [memFreeFrom]
  constructor
  · rintro ⟨k, e, hk⟩
    have : j = k := by omega
    rw [this]; exact hk
  · intro h
    exact ⟨j, by omega, h⟩
theorem free_lt {cs : List Int} {j : Nat} (h : j ∈ free cs) : j < cs.length := by
  have := memFree.mp h
  exact (List.getElem?_eq_some_iff.mp this).1
theorem freeFrom_len : ∀ (cs : List Int) (i : Nat), (freeFrom i cs).length ≤ cs.length
  | [], i => Nat.le_refl _
  | x :: r, i => by
    have ih := freeFrom_len r (i + 1)
    unfold freeFrom
    split
    · rw [List.length_cons, List.length_cons]; omega
    · rw [List.length_cons]; omega
theorem free_len (cs : List Int) : (free cs).length ≤ cs.length := freeFrom_len cs 0
theorem freeFrom_set : ∀ (cs : List Int) (i k : Nat) (b : Int), cs[k]? = some 2 → b ≠ 2 → (freeFrom i (cs.set k b)).length + 1 = (freeFrom i cs).length
  | [], _, _, _, h, _ => by simp at h
  | x :: r, i, 0, b, h, hb => by
    have e : x = 2 := by simpa using h
    show (freeFrom i (b :: r)).length + 1 = (freeFrom i (x :: r)).length
    unfold freeFrom
    rw [if_neg hb, if_pos e, List.length_cons]
  | x :: r, i, k + 1, b, h, hb => by
    have h' : r[k]? = some 2 := by simpa using h
    have ih := freeFrom_set r (i + 1) k b h' hb
    show (freeFrom i (x :: r.set k b)).length + 1 = (freeFrom i (x :: r)).length
    unfold freeFrom
    by_cases e : x = 2
    · rw [if_pos e, if_pos e, List.length_cons, List.length_cons, ih]
    · rw [if_neg e, if_neg e, ih]
theorem free_set {cs : List Int} {k : Nat} {b : Int} (h : k ∈ free cs) (hb : b ≠ 2) : (free (cs.set k b)).length + 1 = (free cs).length :=
  freeFrom_set cs 0 k b (memFree.mp h) hb
theorem Dig.set {cs : List Int} (d : Dig cs) (i : Nat) {b : Int} (hb : b = 0 ∨ b = 1 ∨ b = 2) : Dig (cs.set i b) := fun x hx => by
  rcases List.mem_or_eq_of_mem_set hx with h | h
  · exact d x h
  · rw [h]; exact hb

/-! ### rows of a cube -/
def fitsB : List Int → Nat → Bool
  | [], _ => true
  | x :: r, n => (x == 2 || x == ((n % 2 : Nat) : Int)) && fitsB r (n / 2)
def lines (cs : List Int) : List Nat := (List.range (2 ^ cs.length)).filter (fitsB cs)
def hasV (vals cs : List Int) (v : Int) : Bool := (lines cs).any fun r => vals.getD r 0 == v
def KD (vals cs : List Int) : Int := (if hasV vals cs 0 = true then 1 else 0) + (if hasV vals cs 1 = true then 2 else 0)

theorem fits_split : ∀ (cs : List Int) (i n : Nat), cs[i]? = some 2 → fitsB cs n = (fitsB (cs.set i 1) n || fitsB (cs.set i 0) n)
  | [], _, _, h => by simp at h
  | x :: r, 0, n, h => by
    have e : x = 2 := by simpa using h
    subst e
    show ((2 == 2 || _) && fitsB r (n / 2)) = (((1 == 2 || (1 : Int) == ((n % 2 : Nat) : Int)) && fitsB r (n / 2)) || (((0 : Int) == 2 || (0 : Int) == ((n % 2 : Nat) : Int)) && fitsB r (n / 2)))
    rcases Nat.mod_two_eq_zero_or_one n with e | e <;> rw [e] <;> cases fitsB r (n / 2) <;> rfl
  | x :: r, i + 1, n, h => by
    have h' : r[i]? = some 2 := by simpa using h
    have ih := fits_split r i (n / 2) h'
    show ((x == 2 || x == ((n % 2 : Nat) : Int)) && fitsB r (n / 2)) = (((x == 2 || x == ((n % 2 : Nat) : Int)) && fitsB (r.set i 1) (n / 2)) || ((x == 2 || x == ((n % 2 : Nat) : Int)) && fitsB (r.set i 0) (n / 2)))
    rw [ih]
    cases (x == 2 || x == ((n % 2 : Nat) : Int)) <;> simp
theorem any_or {α : Type} (p q : α → Bool) : ∀ l : List α, l.any (fun x => p x || q x) = (l.any p || l.any q)
  | [] => rfl
  | x :: l => by
    rw [List.any_cons, List.any_cons, List.any_cons, any_or p q l]
    cases p x <;> cases q x <;> cases l.any p <;> cases l.any q <;> rfl
theorem hasV_split {vals cs : List Int} {i : Nat} (v : Int) (h : cs[i]? = some 2) : hasV vals cs v = (hasV vals (cs.set i 1) v || hasV vals (cs.set i 0) v) := by
  unfold hasV lines
  rw [List.length_set, List.length_set, List.any_filter, List.any_filter, List.any_filter, ← any_or]
  congr 1
  funext r
  rw [fits_split cs i r h]
  cases fitsB (cs.set i 1) r <;> cases fitsB (cs.set i 0) r <;> simp
def rowOf : List Int → Nat
  | [] => 0
  | x :: r => x.toNat + 2 * rowOf r
theorem rowOf_lt : ∀ cs : List Int, (∀ x ∈ cs, x = 0 ∨ x = 1) → rowOf cs < 2 ^ cs.length
  | [], _ => by decide
  | x :: r, h => by
    have ih := rowOf_lt r fun y hy => h y (List.mem_cons_of_mem _ hy)
    have hx : x.toNat ≤ 1 := by
      rcases h x List.mem_cons_self with e | e <;> rw [e] <;> decide
    rw [List.length_cons, Nat.pow_succ]
    show x.toNat + 2 * rowOf r < _
    omega
theorem fits_row : ∀ (cs : List Int) (n : Nat), (∀ x ∈ cs, x = 0 ∨ x = 1) → n < 2 ^ cs.length → (fitsB cs n = true ↔ n = rowOf cs)
  | [], n, _, hn => by
    have : n = 0 := by
      have : n < 1 := hn
      omega
    subst this
    exact ⟨fun _ => rfl, fun _ => rfl⟩
  | x :: r, n, h, hn => by
    rw [List.length_cons, Nat.pow_succ] at hn
    have ih := fits_row r (n / 2) (fun y hy => h y (List.mem_cons_of_mem _ hy)) (by omega)
    show ((x == 2 || x == ((n % 2 : Nat) : Int)) && fitsB r (n / 2)) = true ↔ n = x.toNat + 2 * rowOf r
    rw [Bool.and_eq_true, ih]
    have hm : n % 2 = 0 ∨ n % 2 = 1 := Nat.mod_two_eq_zero_or_one n
    rcases h x List.mem_cons_self with e | e <;> subst e
    · constructor
      · rintro ⟨h1, h2⟩
        have : n % 2 = 0 := by
          rcases hm with z | z
          · exact z
          · rw [z] at h1; exact absurd h1 (by decide)
        show n = 0 + 2 * rowOf r
        omega
      · intro e
        have e' : n = 0 + 2 * rowOf r := e
        have z : n % 2 = 0 := by omega
        rw [z]
        exact ⟨by decide, by omega⟩
    · constructor
      · rintro ⟨h1, h2⟩
        have : n % 2 = 1 := by
          rcases hm with z | z
          · rw [z] at h1; exact absurd h1 (by decide)
          · exact z
        show n = 1 + 2 * rowOf r
        omega
      · intro e
        have e' : n = 1 + 2 * rowOf r := e
        have z : n % 2 = 1 := by omega
        rw [z]
        exact ⟨by decide, by omega⟩
theorem nofree_dig {cs : List Int} (d : Dig cs) (h : free cs = []) : ∀ x ∈ cs, x = 0 ∨ x = 1 := fun x hx => by
  rcases d x hx with e | e | e
  · exact .inl e
  · exact .inr e
  · exfalso
    obtain ⟨i, hi, ei⟩ := List.getElem_of_mem hx
    have : i ∈ free cs := memFree.mpr (by rw [List.getElem?_eq_getElem hi, ei, e])
    rw [h] at this
    cases this
theorem hasV_row {vals cs : List Int} (d : Dig cs) (h : free cs = []) (v : Int) : hasV vals cs v = (vals.getD (rowOf cs) 0 == v) := by
  have h01 := nofree_dig d h
  have hlt := rowOf_lt cs h01
  unfold hasV lines
  rw [List.any_filter, Bool.eq_iff_iff, List.any_eq_true]
  constructor
  · rintro ⟨r, hr, e⟩
    rw [Bool.and_eq_true] at e
    have := (fits_row cs r h01 (List.mem_range.mp hr)).mp e.1
    rw [← this]; exact e.2
  · intro e
    refine ⟨rowOf cs, List.mem_range.mpr hlt, ?_⟩
    rw [Bool.and_eq_true]
    exact ⟨(fits_row cs _ h01 hlt).mpr rfl, e⟩
theorem KD_row {vals cs : List Int} (d : Dig cs) (h : free cs = []) (hv : vals.getD (rowOf cs) 0 = 0 ∨ vals.getD (rowOf cs) 0 = 1) : KD vals cs = 1 + vals.getD (rowOf cs) 0 := by
  unfold KD
  rw [hasV_row d h, hasV_row d h]
  rcases hv with e | e <;> rw [e] <;> decide
theorem KD_two {vals cs : List Int} : KD vals cs = 3 ↔ hasV vals cs 0 = true ∧ hasV vals cs 1 = true := by
  unfold KD
  cases hasV vals cs 0 <;> cases hasV vals cs 1 <;> decide
theorem KD_free {vals cs : List Int} (d : Dig cs) (h : KD vals cs = 3) : free cs ≠ [] := fun e => by
  obtain ⟨h0, h1⟩ := KD_two.mp h
  rw [hasV_row d e] at h0 h1
  have a := eq_of_beq h0
  have b := eq_of_beq h1
  rw [a] at b
  exact absurd b (by decide)

/-! ### the fewest asks -/
def stepB (f : Nat → Int) (o : Option Int) (i : Nat) : Option Int :=
  match o with
  | none => some (f i)
  | some b => some (if f i < b then f i else b)
def bestB (f : Nat → Int) (l : List Nat) : Option Int := l.foldl (stepB f) none
def fewF (vals : List Int) : Nat → List Int → Int
  | 0, _ => 0
  | k + 1, cs => if KD vals cs = 3 then (bestB (fun i => 1 + max (fewF vals k (cs.set i 1)) (fewF vals k (cs.set i 0))) (free cs)).getD 0 else 0
def F (vals cs : List Int) : Int := fewF vals (free cs).length cs

theorem stepB_cong {f g : Nat → Int} : ∀ (l : List Nat) (o : Option Int), (∀ i ∈ l, f i = g i) → l.foldl (stepB f) o = l.foldl (stepB g) o
  | [], _, _ => rfl
  | i :: l, o, h => by
    rw [List.foldl_cons, List.foldl_cons]
    have e : stepB f o i = stepB g o i := by
      unfold stepB
      rw [h i List.mem_cons_self]
    rw [e]
    exact stepB_cong l _ fun j hj => h j (List.mem_cons_of_mem _ hj)
/-- behind some of the places the best is the least so far -/
theorem best_some {f : Nat → Int} : ∀ (l : List Nat) (b : Int), ∃ r, l.foldl (stepB f) (some b) = some r ∧ r ≤ b ∧ (∀ i ∈ l, r ≤ f i) ∧ (r = b ∨ ∃ i ∈ l, r = f i)
  | [], b => ⟨b, rfl, Int.le_refl _, fun i h => (by cases h), .inl rfl⟩
  | i :: l, b => by
    obtain ⟨r, e, h1, h2, h3⟩ := best_some (f := f) l (if f i < b then f i else b)
    have hb : (if f i < b then f i else b) ≤ b ∧ (if f i < b then f i else b) ≤ f i ∧ ((if f i < b then f i else b) = b ∨ (if f i < b then f i else b) = f i) := by
      split
      · exact ⟨by omega, by omega, .inr rfl⟩
      · exact ⟨by omega, by omega, .inl rfl⟩
    refine ⟨r, e, by omega, fun j hj => ?_, ?_⟩
    · rcases List.mem_cons.mp hj with z | z
      · rw [z]; omega
      · exact h2 j z
    · rcases h3 with z | ⟨j, hj, z⟩
      · rcases hb.2.2 with y | y
        · exact .inl (z.trans y)
        · exact .inr ⟨i, List.mem_cons_self, z.trans y⟩
      · exact .inr ⟨j, List.mem_cons_of_mem _ hj, z⟩
theorem best_cons {f : Nat → Int} {l : List Nat} (h : l ≠ []) : ∃ r, bestB f l = some r ∧ (∀ i ∈ l, r ≤ f i) ∧ ∃ i ∈ l, r = f i := by
  cases l with
  | nil => exact absurd rfl h
  | cons i l =>
    obtain ⟨r, e, h1, h2, h3⟩ := best_some (f := f) l (f i)
    refine ⟨r, e, fun j hj => ?_, ?_⟩
    · rcases List.mem_cons.mp hj with z | z
      · rw [z]; exact h1
      · exact h2 j z
    · rcases h3 with z | ⟨j, hj, z⟩
      · exact ⟨i, List.mem_cons_self, z⟩
      · exact ⟨j, List.mem_cons_of_mem _ hj, z⟩
theorem F_eq (vals cs : List Int) : F vals cs = if KD vals cs = 3 then (bestB (fun i => 1 + max (F vals (cs.set i 1)) (F vals (cs.set i 0))) (free cs)).getD 0 else 0 := by
  unfold F
  cases hf : free cs with
  | nil =>
    show (0 : Int) = if KD vals cs = 3 then 0 else 0
    split <;> rfl
  | cons j l =>
    show (if KD vals cs = 3 then (bestB (fun i => 1 + max (fewF vals l.length (cs.set i 1)) (fewF vals l.length (cs.set i 0))) (free cs)).getD 0 else 0) = _
    have e : bestB (fun i => 1 + max (fewF vals l.length (cs.set i 1)) (fewF vals l.length (cs.set i 0))) (free cs) =
        bestB (fun i => 1 + max (fewF vals (free (cs.set i 1)).length (cs.set i 1)) (fewF vals (free (cs.set i 0)).length (cs.set i 0))) (free cs) := by
      unfold bestB
      refine stepB_cong _ _ fun i hi => ?_
      have a := free_set hi (show (1 : Int) ≠ 2 by decide)
      have b := free_set hi (show (0 : Int) ≠ 2 by decide)
      rw [hf, List.length_cons] at a b
      have a' : (free (cs.set i 1)).length = l.length := by omega
      have b' : (free (cs.set i 0)).length = l.length := by omega
      rw [a', b']
    rw [e, hf]
theorem few_bound (vals : List Int) : ∀ (k : Nat) (cs : List Int), 0 ≤ fewF vals k cs ∧ fewF vals k cs ≤ k
  | 0, cs => ⟨Int.le_refl _, Int.le_refl _⟩
  | k + 1, cs => by
    show 0 ≤ (if KD vals cs = 3 then _ else 0) ∧ (if KD vals cs = 3 then _ else 0) ≤ ((k + 1 : Nat) : Int)
    split
    · cases hf : free cs with
      | nil =>
        show (0 : Int) ≤ 0 ∧ (0 : Int) ≤ _
        omega
      | cons j l =>
        obtain ⟨r, e, h1, i, hi, h2⟩ := best_cons (f := fun i => 1 + max (fewF vals k (cs.set i 1)) (fewF vals k (cs.set i 0))) (l := j :: l) (List.cons_ne_nil _ _)
        rw [e]
        show 0 ≤ r ∧ r ≤ _
        have a := few_bound vals k (cs.set i 1)
        have b := few_bound vals k (cs.set i 0)
        have h2' : r = 1 + max (fewF vals k (cs.set i 1)) (fewF vals k (cs.set i 0)) := h2
        omega
    · omega
theorem F_nn (vals cs : List Int) : 0 ≤ F vals cs := (few_bound vals _ cs).1
theorem F_le (vals cs : List Int) : F vals cs ≤ (free cs).length := (few_bound vals _ cs).2
theorem F_pos {vals cs : List Int} (h : 0 < F vals cs) : KD vals cs = 3 := by
  rw [F_eq] at h
  split at h
  · assumption
  · exact absurd h (by decide)
theorem F_half {vals cs : List Int} {i : Nat} (h : 0 < F vals cs) (hi : i ∈ free cs) : F vals cs ≤ 1 + max (F vals (cs.set i 1)) (F vals (cs.set i 0)) := by
  have k := F_pos h
  rw [F_eq vals cs, if_pos k]
  obtain ⟨r, e, h1, _⟩ := best_cons (f := fun i => 1 + max (F vals (cs.set i 1)) (F vals (cs.set i 0))) (l := free cs) (fun z => by rw [z] at hi; cases hi)
  rw [e]
  exact h1 i hi

/-! ### within -/
def lessB : List Int → List Int → Bool
  | x :: xs, y :: ys => (y == 2 || x == y) && lessB xs ys
  | _, _ => true
theorem less_set : ∀ (o cs : List Int) (i : Nat) (b : Int), cs[i]? = some 2 → lessB o (cs.set i b) = true → lessB o cs = true
  | [], _, _, _, _, _ => by unfold lessB; rfl
  | _ :: _, [], _, _, h, _ => by simp at h
  | x :: xs, y :: ys, 0, b, h, hl => by
    have e : y = 2 := by simpa using h
    have hl' : ((b == 2 || x == b) && lessB xs ys) = true := hl
    rw [Bool.and_eq_true] at hl'
    show ((y == 2 || x == y) && lessB xs ys) = true
    rw [Bool.and_eq_true, e]
    exact ⟨by simp, hl'.2⟩
  | x :: xs, y :: ys, i + 1, b, h, hl => by
    have h' : ys[i]? = some 2 := by simpa using h
    have hl' : ((y == 2 || x == y) && lessB xs (ys.set i b)) = true := hl
    rw [Bool.and_eq_true] at hl'
    show ((y == 2 || x == y) && lessB xs ys) = true
    rw [Bool.and_eq_true]
    exact ⟨hl'.1, less_set xs ys i b h' hl'.2⟩
theorem less_refl : ∀ cs : List Int, lessB cs cs = true
  | [] => by unfold lessB; rfl
  | x :: xs => by
    show ((x == 2 || x == x) && lessB xs xs) = true
    rw [less_refl xs]; simp
theorem less_step : ∀ (o cs : List Int), o.length = cs.length → Dig o → lessB o cs = true → o = cs ∨ ∃ i, cs[i]? = some 2 ∧ ∃ b, (b = 0 ∨ b = 1) ∧ lessB o (cs.set i b) = true
  | [], [], _, _, _ => .inl rfl
  | [], _ :: _, h, _, _ => by simp at h
  | _ :: _, [], h, _, _ => by simp at h
  | x :: xs, y :: ys, hl, d, h => by
    have h' : ((y == 2 || x == y) && lessB xs ys) = true := h
    rw [Bool.and_eq_true] at h'
    obtain ⟨h1, h2⟩ := h'
    have hl' : xs.length = ys.length := by simpa using hl
    by_cases e : x = y
    · rcases less_step xs ys hl' (fun z hz => d z (List.mem_cons_of_mem _ hz)) h2 with z | ⟨i, hi, b, hb, hs⟩
      · exact .inl (by rw [e, z])
      · refine .inr ⟨i + 1, by simpa using hi, b, hb, ?_⟩
        show ((y == 2 || x == y) && lessB xs (ys.set i b)) = true
        rw [h1, hs]; rfl
    · have hy : y = 2 := by
        rw [Bool.or_eq_true] at h1
        rcases h1 with z | z
        · exact eq_of_beq z
        · exact absurd (eq_of_beq z) e
      have hx : x = 0 ∨ x = 1 := by
        rcases d x List.mem_cons_self with z | z | z
        · exact .inl z
        · exact .inr z
        · exact absurd (z.trans hy.symm) e
      refine .inr ⟨0, by simp [hy], x, hx, ?_⟩
      show ((x == 2 || x == x) && lessB xs ys) = true
      rw [h2]; simp
abbrev En := Int × List Int
def WB (es : List En) (a : Int) (cs : List Int) : Bool := es.any fun e => e.1 == a && lessB e.2 cs
def EnOk (n : Nat) (e : En) : Prop := 0 ≤ e.1 ∧ e.1 ≤ 4 ∧ e.2.length = n ∧ Dig e.2
theorem W_split {n : Nat} {es : List En} (h : ∀ e ∈ es, EnOk n e) (a : Int) {cs : List Int} (hc : cs.length = n) :
    WB es a cs = (decide ((a, cs) ∈ es) || (free cs).any fun i => WB es a (cs.set i 1) || WB es a (cs.set i 0)) := by
  rw [Bool.eq_iff_iff, Bool.or_eq_true, decide_eq_true_eq, List.any_eq_true]
  unfold WB
  constructor
  · intro w
    obtain ⟨e, he, z⟩ := List.any_eq_true.mp w
    rw [Bool.and_eq_true] at z
    obtain ⟨z1, z2⟩ := z
    have ea := eq_of_beq z1
    obtain ⟨_, _, hl, hd⟩ := h e he
    rcases less_step e.2 cs (hl.trans hc.symm) hd z2 with y | ⟨i, hi, b, hb, hs⟩
    · refine .inl ?_
      have : (a, cs) = e := by rw [← ea, ← y]
      rw [this]; exact he
    · refine .inr ⟨i, memFree.mpr hi, ?_⟩
      rw [Bool.or_eq_true]
      rcases hb with q | q <;> subst q
      · exact .inr (List.any_eq_true.mpr ⟨e, he, by rw [Bool.and_eq_true]; exact ⟨z1, hs⟩⟩)
      · exact .inl (List.any_eq_true.mpr ⟨e, he, by rw [Bool.and_eq_true]; exact ⟨z1, hs⟩⟩)
  · rintro (w | ⟨i, hi, w⟩)
    · exact List.any_eq_true.mpr ⟨(a, cs), w, by simp [less_refl]⟩
    · rw [Bool.or_eq_true] at w
      rcases w with w | w
      · obtain ⟨e, he, z⟩ := List.any_eq_true.mp w
        rw [Bool.and_eq_true] at z
        exact List.any_eq_true.mpr ⟨e, he, by rw [Bool.and_eq_true]; exact ⟨z.1, less_set _ _ _ _ (memFree.mp hi) z.2⟩⟩
      · obtain ⟨e, he, z⟩ := List.any_eq_true.mp w
        rw [Bool.and_eq_true] at z
        exact List.any_eq_true.mpr ⟨e, he, by rw [Bool.and_eq_true]; exact ⟨z.1, less_set _ _ _ _ (memFree.mp hi) z.2⟩⟩

/-! ### the judge -/
def geL : List Int → List Int → Bool
  | [], [] => true
  | [], _ :: _ => false
  | _ :: _, [] => true
  | x :: xs, y :: ys => if x = y then geL xs ys else decide (y ≤ x)
def geE (p q : En) : Bool := if p.1 = q.1 then (if p.2 = q.2 then true else geL p.2 q.2) else decide (q.1 ≤ p.1)
def sortedB (es : List En) : Bool := ((es.zip (es.drop 1)).filter fun p => geE p.1 p.2).isEmpty
def StB (vals : List Int) (es : List En) (e : En) : Bool :=
  if e.1 = 0 then KD vals e.2 == 3 else ((free e.2).all fun i => WB es (e.1 - 1) (e.2.set i 1) || WB es (e.1 - 1) (e.2.set i 0)) && !(free e.2).isEmpty
def JB (vals : List Int) (es : List En) (m : Int) : Bool := if m = 0 then es.isEmpty else sortedB es && (es.all (StB vals es) && es.any fun e => e.1 == m - 1)
end Kb
/-! Entries (a number and a tuple of numbers) as tracked tuples; sorted of such entries. -/
namespace Kb
open PySem PySem.Spec PyProof.Rows L2

def encE (e : En) : PyData := .tuple [.int e.1, .tuple (e.2.map .int)]
/-- at r stands the entry e -/
def EntH (H : Hp) (r : Addr) (e : En) : Prop := ∃ c, H r = some (.tup [.int e.1, .ref c]) ∧ H c = some (.tup (e.2.map V.int))
/-- all tuples stay -/
def KeepT (H H' : Hp) : Prop := ∀ b xs, H b = some (.tup xs) → H' b = some (.tup xs)
theorem KeepT.refl (H : Hp) : KeepT H H := fun _ _ h => h
theorem KeepT.trans {H H1 H2 : Hp} (a : KeepT H H1) (b : KeepT H1 H2) : KeepT H H2 := fun c xs h => b c xs (a c xs h)
theorem EntH.keep {H H' : Hp} {r : Addr} {e : En} (h : EntH H r e) (k : KeepT H H') : EntH H' r e := let ⟨c, h1, h2⟩ := h; ⟨c, k _ _ h1, k _ _ h2⟩
theorem EntH.inj {H : Hp} {r : Addr} {e e' : En} (h : EntH H r e) (h' : EntH H r e') : e = e' := by
  obtain ⟨c, h1, h2⟩ := h
  obtain ⟨c', h1', h2'⟩ := h'
  have e1 := Option.some.inj (h1.symm.trans h1')
  injection e1 with e1
  injection e1 with e2 e3
  injection e2 with e2
  injection e3 with e3
  injection e3 with e3
  subst e3
  have e4 := Option.some.inj (h2.symm.trans h2')
  injection e4 with e4
  have e5 : e.2 = e'.2 := by
    have inj : ∀ xs ys : List Int, xs.map V.int = ys.map V.int → xs = ys := by
      intro xs
      induction xs with
      | nil => intro ys h; cases ys with
        | nil => rfl
        | cons y ys => simp at h
      | cons x xs ih => intro ys h; cases ys with
        | nil => simp at h
        | cons y ys =>
          rw [List.map_cons, List.map_cons] at h
          injection h with h1 h2
          injection h1 with h1
          rw [h1, ih ys h2]
    exact inj _ _ e4
  exact Prod.ext e2 e5

theorem readsInts {h : Heap} : ∀ (ns : List Int) (us : List Value), Vals (ns.map V.int) us → ReadsAll h us (ns.map .int) []
  | [], _, .nil => .nil
  | n :: ns, _, .cons r t => by
    obtain ⟨k, rfl⟩ := r
    exact .cons (.int n k) (readsInts ns _ t)
theorem readsE {P : Program} {w : World} {H : Hp} {h : Heap} {r : Addr} {e : En} (ok : HOk P w H h) (x : EntH H r e) : Reads h (.ref r) (encE e) [] := by
  obtain ⟨c, h1, h2⟩ := x
  obtain ⟨_, its, rv, o, ho, hc, n, hd⟩ := (show ObjOk P w H h r (.tup [.int e.1, .ref c]) from ok r _ h1)
  obtain ⟨_, its2, rv2, o2, ho2, hc2, n2, hd2⟩ := (show ObjOk P w H h c (.tup (e.2.map V.int)) from ok c _ h2)
  refine .tuple ho hc hd ?_
  cases rv with
  | cons a b =>
    cases b with
    | cons a2 b2 =>
      cases b2
      obtain ⟨t, rfl⟩ := a
      cases a2
      exact .cons (.int e.1 t) (.cons (.tuple ho2 hc2 hd2 (by simpa using readsInts e.2 its2 rv2)) .nil)

theorem alikeE (e e' : En) : PySem.W.alike (encE e) (encE e') = true := by
  show PySem.W.alikeAll [.int e.1, .tuple (e.2.map .int)] [.int e'.1, .tuple (e'.2.map .int)] = true
  simp only [PySem.W.alikeAll, PySem.W.alike, PySem.W.alike_ints, Bool.and_true]
theorem depthE (e : En) : (encE e).depth ≤ 4 := by
  have h := PySem.W.depth_ints e.2
  simp only [encE, PyData.depth, PyData.depthAll, h]
  omega
theorem eachRefs {β : Type} (f : β → Addr) : ∀ bs : List β, PySem.W.EachIs (fun (v : Value) b => v = .ref (f b)) (bs.map fun b => .ref (f b)) bs
  | [] => .nil
  | b :: bs => .cons rfl (eachRefs f bs)
theorem eachRefs_eq {β : Type} {f : β → Addr} : ∀ {bs : List β} {vs : List Value}, PySem.W.EachIs (fun (v : Value) b => v = .ref (f b)) vs bs → vs = bs.map fun b => .ref (f b)
  | _, _, .nil => rfl
  | _, _, .cons h t => by rw [List.map_cons, h, eachRefs_eq t]
theorem eachOf {β : Type} {R : Value → β → Prop} (g : β → Value) : ∀ bs : List β, (∀ b ∈ bs, R (g b) b) → PySem.W.EachIs R (bs.map g) bs
  | [], _ => .nil
  | b :: bs, h => .cons (h b List.mem_cons_self) (eachOf g bs fun c hc => h c (List.mem_cons_of_mem _ hc))

abbrev AE := Addr × En
section
variable {P : Program} {w : World} {A : Around} {E : Value → Shared → Prop} {s : Shared}
/-- sorted(v), where collecting v gives the entries' tuples in some order -/
theorem sortedCore {v : Value} {ks : List AE} {Q : Value → Shared → Prop} (hu : A.units + 20 < cLine) (hlen : ks.length ≤ sizeLine)
    (hc : ∀ R : List Value → Shared → Prop, (∀ (s1 : Shared) (vs : List Value) (ks1 : List AE), (∀ b o, s.heap.get? b = some o → s1.heap.get? b = some o) → s1.gens = s.gens → s1.os = s.os →
      vs = ks1.map (fun k => Value.ref k.1) → ks1.Perm ks → R vs s1) → wpAny (model P w) A.in1 (collect v) R E s)
    (hk : ∀ k ∈ ks, Reads s.heap (.ref k.1) (encE k.2) [])
    (hQ : ∀ (s1 s' : Shared) (p : Addr) (out : Array Value) (c : Nat) (ks' : List AE), (∀ b o, s.heap.get? b = some o → s1.heap.get? b = some o) → s1.gens = s.gens → s1.os = s.os → (∀ b o, s1.heap.get? b = some o → s'.heap.get? b = some o) → s'.gens = s1.gens → s'.os = s1.os → s1.heap.objs.size ≤ p →
      s'.heap.get? p = some (seqObj "list" out c) → out.toList = ks'.map (fun k => Value.ref k.1) → ks'.Perm ks → Q (.ref p) s') :
    wpAny (model P w) A (call (.builtin "sorted") [v]) Q E s := by
  refine Calls.call_function_entry kind_sorted plain_sorted entry_sorted (args_sorted1 _) ?_
  unfold Builtin.«sorted»
  refine wpAny_bind (m := checkCount "sorted" 1 1 _) (wpAny_pure ?_)
  refine wpAny_bind (hc _ fun s1 vs ks1 k1 g1 o1 ev pm => ?_)
  subst ev
  have hl1 : ks1.length ≤ sizeLine := by rw [pm.length_eq]; exact hlen
  refine wpAny_bind (wpAny_newList ?_ (by rw [List.length_map]; exact hl1))
  generalize hvs : (ks1.map fun k => Value.ref k.1) = vs
  have hoL : (s1.heap.push (seqObj "list" vs.toArray 0)).get? s1.heap.objs.size = some (seqObj "list" vs.toArray 0) := Heap.get?_push_size _ rfl
  have er : PySem.W.EachIs (fun v (k : AE) => ∃ as, Reads (s1.heap.push (seqObj "list" vs.toArray 0)) v (encE k.2) as ∧ s1.heap.objs.size ∉ as) vs ks1 := by
    rw [← hvs]
    refine eachOf _ ks1 fun k hkm => ⟨[], ?_, by simp⟩
    exact PyProof.Rows.Reads.keeps (fun b o e => Heap.get?_push_of_some _ (k1 b o e)) (hk k (pm.mem_iff.mp hkm))
  have e0 : PySem.W.EachIs (fun (v : Value) (k : AE) => v = .ref k.1) vs ks1 := by
    rw [← hvs]
    exact eachRefs (fun k : AE => k.1) ks1
  have hal : PySem.W.AllAlike (ks1.map fun k => encE k.2) := PySem.W.AllAlike.of fun b b' => alikeE b.2 b'.2
  have hkd : PySem.W.Sortable (ks1.map fun k => encE k.2) := PySem.W.Sortable.tuples fun b => ⟨_, _, rfl⟩
  refine wpAny_bind (wpAny_holding (PySem.W.list_sort_data (s := { s1 with heap := s1.heap.push (seqObj "list" vs.toArray 0) }) (bs := ks1) (enc := fun k => encE k.2) (R := fun v k => v = .ref k.1) hoL e0 er hal hkd hl1 (fun b hb => ?_) fun out hlo eo => ?_))
  · have := depthE b.2
    show A.in1.units + 1 + (encE b.2).depth < cLine
    have : A.in1.units = A.units + 1 := rfl
    omega
  · obtain ⟨c, hcn⟩ := sortedHeap_at (vs := vs) (out := List.toArray out) hoL
    refine wpAny_pure ⟨_, rfl, hQ s1 _ s1.heap.objs.size (List.toArray out) c (ks1.mergeSort (PySem.W.dataLe false fun k => encE k.2)) k1 g1 o1 (fun b u q => ?_) rfl rfl (Nat.le_refl _) hcn ?_ ((List.mergeSort_perm _ _).trans pm)⟩
    · have hlt := Heap.lt_size q
      show (sortedHeap (s1.heap.push (seqObj "list" vs.toArray 0)) s1.heap.objs.size vs (List.toArray out)).get? b = some u
      rw [sortedHeap_old (Nat.ne_of_lt hlt) (by rw [size_push']; exact Nat.lt_succ_of_lt hlt)]
      exact Heap.get?_push_of_some _ q
    · have := eachRefs_eq (f := fun k : AE => k.1) eo
      simpa using this
end

/-! ### sorted(xs), xs a list of entries -/
section
variable {X : Cx}
theorem valsRefs : ∀ ks : List AE, Vals (ks.map fun k => V.ref k.1) (ks.map fun k => Value.ref k.1)
  | [] => .nil
  | k :: ks => .cons rfl (valsRefs ks)
theorem refsVals : ∀ {ks : List AE} {us : List Value}, Vals (ks.map fun k => V.ref k.1) us → us = ks.map fun k => Value.ref k.1
  | [], _, .nil => rfl
  | k :: ks, _, .cons r t => by
    cases r
    rw [refsVals t] <;> rfl
/-- what sorted leaves, in the layer's words -/
theorem keptState {pins : List (Addr × Obj)} {σ : L2.St} {H : Hp} {s s1 : Shared} (I : Inv X pins σ H s) (k : ∀ b o, s.heap.get? b = some o → s1.heap.get? b = some o) (g : s1.gens = s.gens) (o : s1.os = s.os) : Inv X pins σ H s1 :=
  I.call' (ch := []) o (Un.kept k) (I.hok.kept k) (by rw [g]; exact I.bare) (fun _ z => nomatch z)
theorem sortedEnd {pins : List (Addr × Obj)} {σ : L2.St} {H : Hp} {s0 s s' : Shared} {p : Addr} {out : Array Value} {c : Nat} {ks' : List AE} {Q : VK} (I0 : Inv X pins σ H s0)
    (k0 : ∀ b o, s0.heap.get? b = some o → s.heap.get? b = some o) (g0 : s.gens = s0.gens) (o0 : s.os = s0.os)
    (k : ∀ b o, s.heap.get? b = some o → s'.heap.get? b = some o) (g : s'.gens = s.gens) (o : s'.os = s.os) (hp : s.heap.objs.size ≤ p) (hg : s'.heap.get? p = some (seqObj "list" out c)) (hout : out.toList = ks'.map (fun k => Value.ref k.1))
    (hl : ks'.length ≤ sizeLine) (q : H p = none → Q (.ref p) (upd H p (.lst (ks'.map fun k => V.ref k.1)))) : EP X pins σ Q (.ref p) s' := by
  have I := keptState I0 k0 g0 o0
  have hn : H p = none := I.hok.fresh hp
  have hv : Vals (ks'.map fun k => V.ref k.1) out.toList := by rw [hout]; exact valsRefs ks'
  have J : Inv X pins σ (upd H p (.lst (ks'.map fun k => V.ref k.1))) { s with heap := s'.heap, gens := s'.gens, drawn := s'.drawn, toks := s'.toks } :=
    I.call (ch := []) (Un.laid k hp hn) (I.hok.laid k hp ⟨by rw [List.length_map]; exact hl, out.toList, c, hv, hg⟩) (by rw [g]; exact I.bare) (fun _ z => nomatch z)
  have e : s' = { s with heap := s'.heap, gens := s'.gens, drawn := s'.drawn, toks := s'.toks } := by
    cases s'
    cases s
    cases o
    rfl
  rw [e]
  exact ⟨.ref p, _, J, rfl, q hn⟩
def rSortE (K : PySem.W.Frag) : List V → Hp → VK → Prop := fun vs H Q => ∃ (a : Addr) (ks : List AE), vs = [V.ref a] ∧ SqL K H a (ks.map fun k => V.ref k.1) ∧ (∀ k ∈ ks, EntH H k.1 k.2) ∧
  ∀ (ks' : List AE) (p : Addr), ks'.Perm ks → H p = none → Q (.ref p) (upd H p (.lst (ks'.map fun k => V.ref k.1)))
theorem cr_sortE (hu : X.A.units + 20 < cLine) : CallR X (.builtin "sorted") (rSortE X.K) := by
  intro pins s σ H vs us Q I r h
  obtain ⟨a, ks, rfl, ha, hk, q⟩ := h
  rw [Vals.ref1 r]
  obtain ⟨its, rv, pl, hz⟩ := I.list ha
  have hits : its = ks.map fun k => Value.ref k.1 := refsVals rv
  have hl : ks.length ≤ sizeLine := by rw [List.length_map] at hz; exact hz
  refine sortedCore (ks := ks) hu hl (fun R hR => ?_) (fun k hkm => readsE I.hok (hk k hkm)) fun s1 s' p out c ks' k1 g1 o1 k g o hp hg hout pm => ?_
  · refine collect_list (vs := its) pl.isList (hR _ its ks (fun b o e => ?_) rfl rfl hits (List.Perm.refl _)) (by rw [hits, List.length_map]; exact hl)
    · have hb := Heap.lt_size e
      show ((s.heap.push (seqObj "list" #[] 0)).update s.heap.objs.size _).get? b = some o
      rw [Heap.get?_update_ne _ _ _ _ (Nat.ne_of_lt hb)]
      exact Heap.get?_push_of_some _ e
  · exact sortedEnd I k1 g1 o1 k g o hp hg hout (by rw [pm.length_eq]; exact hl) fun hn => q ks' p pm hn
end
end Kb
/-! Dicts whose keys are entries (a number and a tuple of numbers): made, asked, stored to, sorted, by a comprehension. -/
namespace Kb
open PySem PySem.Spec PyProof.Rows L2

def nk (e : En) : NestedKey := .tup [.num e.1, .tup (e.2.map .num)]
theorem nums_inj : ∀ xs ys : List Int, xs.map NestedKey.num = ys.map NestedKey.num → xs = ys
  | [], [], _ => rfl
  | [], _ :: _, h => by simp at h
  | _ :: _, [], h => by simp at h
  | x :: xs, y :: ys, h => by
    rw [List.map_cons, List.map_cons] at h
    injection h with h1 h2
    injection h1 with h1
    rw [h1, nums_inj xs ys h2]
theorem nk_inj {e e' : En} (h : nk e = nk e') : e = e' := by
  unfold nk at h
  injection h with h
  injection h with h1 h
  injection h1 with h1
  injection h with h _
  injection h with h
  exact Prod.ext h1 (nums_inj _ _ h)
theorem depthNums : ∀ xs : List Int, NestedKey.depthAll (xs.map .num) = 0
  | [] => rfl
  | x :: xs => by
    rw [List.map_cons]
    show max (NestedKey.depth (.num x)) (NestedKey.depthAll (xs.map .num)) = 0
    rw [depthNums xs] <;> rfl
theorem nkDepth (e : En) : (nk e).depth ≤ 8 := by
  unfold nk
  simp only [NestedKey.depth, NestedKey.depthAll, depthNums]
  omega
theorem nestedInts {h : Heap} : ∀ (ns : List Int) (us : List Value), Vals (ns.map V.int) us → NestedAll h (ns.map .num) us
  | [], _, .nil => .nil
  | n :: ns, _, .cons r t => by
    obtain ⟨k, rfl⟩ := r
    exact .cons (.int n k) (nestedInts ns _ t)
theorem isNk {P : Program} {w : World} {H : Hp} {h : Heap} {r : Addr} {e : En} (ok : HOk P w H h) (x : EntH H r e) : (nestedKind P w).is h (nk e) r := by
  obtain ⟨c, h1, h2⟩ := x
  obtain ⟨_, its, rv, o, ho, hc, n, hd⟩ := (show ObjOk P w H h r (.tup [.int e.1, .ref c]) from ok r _ h1)
  obtain ⟨_, its2, rv2, o2, ho2, hc2, n2, hd2⟩ := (show ObjOk P w H h c (.tup (e.2.map V.int)) from ok c _ h2)
  refine ⟨.tup ho hc hd ?_, nkDepth e⟩
  cases rv with
  | cons a b =>
    cases b with
    | cons a2 b2 =>
      cases b2
      obtain ⟨t, rfl⟩ := a
      cases a2
      exact .cons (.int e.1 t) (.cons (.tup ho2 hc2 hd2 (by simpa using nestedInts e.2 its2 rv2)) .nil)

abbrev NX := List (NestedKey × Addr × Value)
def NdO (P : Program) (w : World) (d : Addr) (xs : NX) : HO := .ext fun h => (d == sysModules) = false ∧
  ∃ o es ep, h.get? d = some o ∧ o.ExactDict ∧ o.data = .dict es ep ∧ es.toList = xs.map (entryOfKey (nestedKind P w)) ∧ (xs.map (·.1)).Nodup
abbrev NR (H : Hp) : List (En × V) → NX → Prop := Paired fun p x => nk p.1 = x.1 ∧ EntH H x.2.1 p.1 ∧ RelV p.2 x.2.2
/-- at d stands a dict of entries -/
def ND (P : Program) (w : World) (H : Hp) (d : Addr) (kvs : List (En × V)) : Prop := kvs.length ≤ 100000 ∧ ∃ xs : NX, H d = some (NdO P w d xs) ∧ NR H kvs xs
theorem NR.keep {H H' : Hp} (k : KeepT H H') : ∀ {kvs : List (En × V)} {xs : NX}, NR H kvs xs → NR H' kvs xs
  | _, _, .nil => .nil
  | _, _, .cons h t => .cons ⟨h.1, h.2.1.keep k, h.2.2⟩ (NR.keep k t)
theorem ND.keep {P : Program} {w : World} {H H' : Hp} {d : Addr} {kvs : List (En × V)} (x : ND P w H d kvs) (k : KeepT H H') (hd : H' d = H d) : ND P w H' d kvs :=
  let ⟨z, xs, h, r⟩ := x
  ⟨z, xs, hd.trans h, r.keep k⟩
theorem ndO_new {P : Program} {w : World} {H : Hp} {h : Heap} {d : Addr} {xs : NX} (hd : (d == sysModules) = false) (dd : h.DictOfH (nestedKind P w) d xs) : ObjOk P w H h d (NdO P w d xs) := by
  obtain ⟨o, es, ep, h1, h2, h3, h4, _, h5⟩ := dd
  exact ⟨⟨hd, o, es, ep, h1, h2, h3, h4, h5⟩, ⟨o, h1⟩, fun g1 g2 p k => ⟨p.1, let ⟨o', es', ep', q1, q⟩ := p.2; ⟨o', es', ep', k _ q1, q⟩⟩⟩
theorem ND.open {P : Program} {w : World} {H : Hp} {h : Heap} {d : Addr} {kvs : List (En × V)} {xs : NX} (ok : HOk P w H h) (hd : H d = some (NdO P w d xs)) (r : NR H kvs xs) : (d == sysModules) = false ∧ h.DictOfH (nestedKind P w) d xs := by
  obtain ⟨⟨q, o, es, ep, h1, h2, h3, h4, h5⟩, _, _⟩ := (show ObjOk P w H h d (NdO P w d xs) from ok d _ hd)
  refine ⟨q, o, es, ep, h1, h2, h3, h4, ?_, h5⟩
  have all : ∀ {l : List (En × V)} {m : NX}, NR H l m → ∀ x ∈ m, (nestedKind P w).is h x.1 x.2.1 := by
    intro l m q
    induction q with
    | nil => intro x hx; cases hx
    | @cons p y ps ys hq t ih =>
      intro x hx
      rcases List.mem_cons.mp hx with e | hx
      · rw [e, ← hq.1]; exact isNk ok hq.2.1
      · exact ih x hx
  exact all r
theorem NR.val {H : Hp} {kvs : List (En × V)} {xs : NX} (r : NR H kvs xs) (e : En) : RelO (valV kvs e) ((atKey xs (nk e)).map (·.2)) := by
  induction r with
  | nil => exact True.intro
  | @cons p q ps qs h t ih =>
    obtain ⟨h1, _, h2⟩ := h
    by_cases he : p.1 = e
    · have e' : q.1 = nk e := by rw [← h1, he]
      have b : atKey (q :: qs) (nk e) = some q.2 := by simp [atKey, List.find?_cons, e']
      rw [valV_pos he, b]; exact h2
    · have e' : ¬ q.1 = nk e := fun z => he (nk_inj (h1.trans z))
      have b : atKey (q :: qs) (nk e) = atKey qs (nk e) := by simp [atKey, List.find?_cons, e']
      rw [valV_neg he, b]; exact ih
theorem NR.repl {H : Hp} {kvs : List (En × V)} {xs : NX} (r : NR H kvs xs) (e : En) {y : V} {u : Value} (ry : RelV y u) :
    NR H (kvs.map fun kv => if kv.1 = e then (kv.1, y) else kv) (xs.map (putAt (nk e) u)) := by
  induction r with
  | nil => exact .nil
  | @cons p q ps qs h t ih =>
    rw [List.map_cons, List.map_cons]
    refine .cons ?_ ih
    obtain ⟨h1, h2, h3⟩ := h
    unfold putAt
    by_cases he : p.1 = e
    · rw [if_pos he, if_pos (show q.1 = nk e by rw [← h1, he])]; exact ⟨h1, h2, ry⟩
    · rw [if_neg he, if_neg (fun z => he (nk_inj (h1.trans z)))]; exact ⟨h1, h2, h3⟩
theorem NR.put {H : Hp} {kvs : List (En × V)} {xs : NX} (r : NR H kvs xs) (e : En) {b : Addr} {y : V} {u : Value} (hb : EntH H b e) (ry : RelV y u) : NR H (putK kvs e y) (storedH xs (nk e) b u) := by
  have q : (kvs.any fun kv => decide (kv.1 = e)) = (atKey xs (nk e)).isSome := by
    rw [valV_any, (r.val e).isSome_eq, Option.isSome_map]
  unfold putK storedH
  rw [q]
  by_cases z : (atKey xs (nk e)).isSome = true
  · rw [if_pos z, if_pos z]; exact r.repl e ry
  · rw [if_neg z, if_neg z]; exact Paired.snoc r ⟨rfl, hb, ry⟩

section
variable {X : Cx} {pins : List (Addr × Obj)} {σ : L2.St} {H : Hp} {s : Shared} {d b : Addr} {kvs : List (En × V)} {e : En} {v : V} {A : Around} {E : Value → Shared → Prop}
theorem roomN (hu : A.units + 20 < cLine) : (nestedKind X.prog X.w).room A.in1 := by
  show A.in1.units + 8 < cLine
  have : A.in1.units = A.units + 1 := rfl
  omega
theorem roomN0 (hu : A.units + 20 < cLine) : (nestedKind X.prog X.w).room A := by
  show A.units + 8 < cLine
  omega
theorem lenNR (r : NR H kvs xs) : kvs.length = xs.length := Paired.length r
theorem nd_write {Q : Unit → Shared → Prop} {u : Value} {h' : Heap} {xs : NX} {tk : Nat} (I : Inv X pins σ H s) (z : kvs.length < 100000) (hd : H d = some (NdO X.prog X.w d xs)) (r : NR H kvs xs) (hb : EntH H b e) (rv : RelV v u)
    (dd : h'.DictOfH (nestedKind X.prog X.w) d (storedH xs (nk e) b u)) (hs : Heap.SameBut d s.heap h')
    (h : ∀ s' H', Inv X pins σ H' s' → ND X.prog X.w H' d (putK kvs e v) → (∀ c, c ≠ d → H' c = H c) → KeepT H H' → Q () s') : Q () { s with heap := h', toks := tk } := by
  obtain ⟨lo, dd0⟩ := ND.open I.hok hd r
  have he : ∃ q, h'.get? d = some q := let ⟨q, _, _, hq, _⟩ := dd; ⟨q, hq⟩
  have kt : KeepT H (upd H d (NdO X.prog X.w d (storedH xs (nk e) b u))) := fun c ys ec => by
    rw [upd_ne (ne_of ec hd (fun z => nomatch z))]; exact ec
  refine h _ _ (d_write (t' := tk) I (by rw [hd]; exact True.intro) hs he (ndO_new lo dd)) ⟨?_, _, upd_same, (r.put e hb rv).keep kt⟩ (fun c hc => upd_ne hc) kt
  have := length_putK kvs e v
  omega
/-- d[e] = v -/
theorem nd_setItem {Q : Unit → Shared → Prop} {u : Value} (hu : A.units + 20 < cLine) (I : Inv X pins σ H s) (g : ND X.prog X.w H d kvs) (z : kvs.length < 100000) (hb : EntH H b e) (rv : RelV v u)
    (h : ∀ s' H', Inv X pins σ H' s' → ND X.prog X.w H' d (putK kvs e v) → (∀ c, c ≠ d → H' c = H c) → KeepT H H' → Q () s') : wpAny (model X.prog X.w) A (setItem (.ref d) (.ref b) u) Q E s := by
  obtain ⟨_, xs, hd, r⟩ := g
  obtain ⟨lo, dd⟩ := ND.open I.hok hd r
  have hl := Paired.length r
  refine wpAny_setItem_heap (hsz := by rw [sizeLine_eq]; omega) (roomN (X := X) hu) (isNk I.hok hb) dd fun h' dd' hs => ?_
  exact nd_write I z hd r hb rv dd' hs h
/-- by a comprehension -/
theorem nd_dictSet {Q : Unit → Shared → Prop} {u : Value} (hu : A.units + 20 < cLine) (I : Inv X pins σ H s) (g : ND X.prog X.w H d kvs) (z : kvs.length < 100000) (hb : EntH H b e) (rv : RelV v u)
    (h : ∀ s' H', Inv X pins σ H' s' → ND X.prog X.w H' d (putK kvs e v) → (∀ c, c ≠ d → H' c = H c) → KeepT H H' → Q () s') : wpAny (model X.prog X.w) A (dictSet d (.ref b) u) Q E s := by
  obtain ⟨_, xs, hd, r⟩ := g
  obtain ⟨lo, dd⟩ := ND.open I.hok hd r
  have hl := Paired.length r
  refine wpAny_dictSet_heap (hsz := by rw [sizeLine_eq]; omega) (roomN0 (X := X) hu) (isNk I.hok hb) dd fun h' dd' hs => ?_
  exact nd_write I z hd r hb rv dd' hs h
end

/-! ### rules by values -/
section
variable {X : Cx}
def rNdIn (P : Program) (w : World) (neg : Bool) : R2 := fun x y H Q => ∃ (b d : Addr) (e : En) (kvs : List (En × V)), x = .ref b ∧ y = .ref d ∧ EntH H b e ∧ ND P w H d kvs ∧ Q (.bl (if neg = true then !(valV kvs e).isSome else (valV kvs e).isSome)) H
theorem op_ndIn (hu : X.A.units + 20 < cLine) : OpR X (compareOp .In) (rNdIn X.prog X.w false) := by
  intro pins s σ H x y v u Q I rx ry h
  obtain ⟨b, d, e, kvs, rfl, rfl, hb, ⟨_, xs, hd, r⟩, q⟩ := h
  cases rx
  cases ry
  obtain ⟨lo, dd⟩ := ND.open I.hok hd r
  refine wpAny_in_heap (roomN (X := X) hu) (isNk I.hok hb) lo dd ?_
  have z := (r.val e).isSome_eq
  rw [Option.isSome_map] at z
  rw [← z]
  exact ⟨.bl _, H, I.tok _, rfl, q⟩
theorem op_ndNotIn (hu : X.A.units + 20 < cLine) : OpR X (compareOp .NotIn) (rNdIn X.prog X.w true) := by
  intro pins s σ H x y v u Q I rx ry h
  obtain ⟨b, d, e, kvs, rfl, rfl, hb, ⟨_, xs, hd, r⟩, q⟩ := h
  cases rx
  cases ry
  obtain ⟨lo, dd⟩ := ND.open I.hok hd r
  refine notIn_keyed (knd := nestedKind X.prog X.w) (kvs := pairsH xs) (roomN (X := X) hu) (isNk I.hok hb) lo ⟨xs, dd, rfl⟩ ?_
  have z := (r.val e).isSome_eq
  rw [Option.isSome_map] at z
  rw [valueAt_pairsH, Option.isSome_map, ← z]
  exact ⟨.bl _, H, I.tok _, rfl, q⟩
def rNdGet (P : Program) (w : World) : R2 := fun x y H Q => ∃ (b d : Addr) (e : En) (kvs : List (En × V)) (v : V), x = .ref d ∧ y = .ref b ∧ EntH H b e ∧ ND P w H d kvs ∧ valV kvs e = some v ∧ Q v H
theorem ix_nd (hu : X.A.units + 20 < cLine) : IxR X (rNdGet X.prog X.w) := by
  intro value slice pins s σ H x y v u Q I rx ry h hs
  obtain ⟨b, d, e, kvs, z, rfl, rfl, hb, ⟨_, xs, hd, r⟩, hv, q⟩ := h
  cases rx
  cases ry
  obtain ⟨lo, dd⟩ := ND.open I.hok hd r
  obtain ⟨w', hw, rw'⟩ := RelO.some_of (v := z) (o := (atKey xs (nk e)).map (·.2)) (by rw [← hv]; exact r.val e)
  obtain ⟨p, hp, hp2⟩ := Option.map_eq_some_iff.mp hw
  refine tail_any dd.typeIs PySem.F.slot_dict_getitem.lookup (wpAny_getItem_heap (roomN (X := X) hu) (isNk I.hok hb) dd hp ?_) hs
  rw [hp2]
  exact ⟨z, H, I.tok _, rw', q⟩
def rNdSet (P : Program) (w : World) : TSet := fun o i v H Q => ∃ (b d : Addr) (e : En) (kvs : List (En × V)), o = .ref d ∧ i = .ref b ∧ EntH H b e ∧ ND P w H d kvs ∧ kvs.length < 100000 ∧
  ∀ H', ND P w H' d (putK kvs e v) → (∀ c, c ≠ d → H' c = H c) → KeepT H H' → Q H'
theorem set_nd (hu : X.A.units + 20 < cLine) : PSet X (rNdSet X.prog X.w) := by
  intro pins s σ H o i v ov iv u Q I ro ri rv h
  obtain ⟨b, d, e, kvs, rfl, rfl, hb, g, z, q⟩ := h
  cases ro
  cases ri
  exact nd_setItem hu I g z hb rv fun s' H' I' g' o' k' => ⟨H', I', q H' g' o' k'⟩
def tDNewN (P : Program) (w : World) : TE := fun _ H Q => ∀ p H', H p = none → ND P w H' p [] → (∀ c, c ≠ p → H' c = H c) → Q (.ref p) H'
theorem ndEmpty {P : Program} {w : World} {H : Hp} (h : Heap) (hb : sysModules < h.objs.size) : ObjOk P w H (h.push { cls := .type "dict", data := .dict #[] }) h.objs.size (NdO P w h.objs.size []) :=
  ndO_new (beq_eq_false_iff_ne.mpr (Ne.symm (Nat.ne_of_lt hb))) ⟨_, #[], 0, Heap.get?_push_size _ rfl, ⟨rfl, rfl, rfl⟩, rfl, rfl, fun x hx => (by cases hx), List.nodup_nil⟩
theorem pe_dnewN {pos : Pos} : PE X (.Dict [] [] pos) (tDNewN X.prog X.w) := ⟨fun pins s σ H Q I h =>
  wpAny_Dict_empty ⟨.ref s.heap.objs.size, _, I.laid (a := s.heap.objs.size) (o := NdO X.prog X.w s.heap.objs.size []) (t' := s.toks) (fun _ _ q => Heap.get?_push_of_some _ q) (Nat.le_refl _) (ndEmpty s.heap I.big), rfl,
    h _ _ (I.hok.fresh (Nat.le_refl _)) ⟨Nat.zero_le _, [], upd_same, .nil⟩ fun c hc => upd_ne hc⟩⟩
end
end Kb
/-! A dict of entries by a comprehension without tests; sorted of such a dict. -/
namespace Kb
open PySem PySem.Spec PyProof.Rows L2

/-- {k: v for tg in iter}: D is the new dict -/
def tDcN (P : Program) (w : World) (wi : TI) (g : TG) (tk tv : TE) (vs : List Nat) : TE := fun σ H Q => wi σ H fun J H1 => ∀ D H0, H1 D = none → ND P w H0 D [] → (∀ c, c ≠ D → H0 c = H1 c) →
  ∃ W : Nat → Nat → Hp → Prop, (∃ m, W 0 m H0) ∧ ∀ i m H, W i m H →
    (J.stop i H ∧ Q (.ref D) H) ∨ (J.go i H ∧ ∃ Nx : Hp → Prop, (∀ H', Nx H' → ∃ m', m' < m ∧ W (i + 1) m' H') ∧ ∀ x H', J.yld i H x H' → g x (wipe σ vs) H' fun σ2 H2 => wipe σ2 vs = wipe σ vs ∧
      tk σ2 H2 fun y H3 => tv σ2 H3 fun z H4 => ∃ (b : Addr) (e : En) (kvs : List (En × V)), y = .ref b ∧ EntH H4 b e ∧ ND P w H4 D kvs ∧ kvs.length < 100000 ∧
        ∀ H5, ND P w H5 D (putK kvs e z) → (∀ c, c ≠ D → H5 c = H4 c) → KeepT H4 H5 → Nx H5)
section
variable {X : Cx}
/-- the block's end: back in the def's own context -/
theorem blkEnd {pins : List (Addr × Obj)} {σ : L2.St} {H0 H' : Hp} {s3 s' : Shared} {scope : Scope} {ce : Env} {fp : List Addr} {τ : L2.St} (I3 : Inv X pins σ H0 s3) (f3 : ∀ b ∈ fp, FpOk X pins H0 b) (I' : Inv (X.blk s3 H0 scope ce fp) [] τ H' s') : Inv X pins σ H' s' :=
  I3.call' (ch := fp) I'.os I'.base I'.hok I'.bare fun b hb => ⟨(f3 b hb).2.2.2.1, (f3 b hb).2.1, (f3 b hb).2.2.2.2.1, (f3 b hb).2.2.2.2.2⟩
/-- within the block the iterator's records are the block's own -/
theorem blkFp {s3 : Shared} {H0 H' : Hp} {scope : Scope} {ce : Env} {fp : List Addr} {τ : L2.St} {s' : Shared} (I' : Inv (X.blk s3 H0 scope ce fp) [] τ H' s') (hn : ∀ b ∈ fp, H' b = none) : ∀ b ∈ fp, FpOk (X.blk s3 H0 scope ce fp) [] H' b := fun b hb =>
  ⟨hn b hb, (I'.ok.exf b hb).1, I'.ok.exfs b hb, .inl hb, (I'.ok.exf b hb).2, fun p hp => absurd (show p ∈ ([] : List (Addr × Obj)) ++ [] from hp) (by simp)⟩
theorem pe_dcN {kx vx tg iter : Expr} {scope : Scope} {own : List (Str × Nat)} {pos : Pos} {wi : TI} {g : TG} {tk tv : TE} (hu : X.A.units + 20 < cLine) (hc : X.calm = true) (hN : X.N.Nodup) (hi : PI X tg iter wi) (ok : BlkOk X.N X.env.scope scope own)
    (hg : ∀ (s : Shared) (H : Hp) (C : Addr) (cl : List (Str × Addr)) (fp : List Addr), PG (X.blk s H scope (compEnvC scope cl C X.env) fp) tg g)
    (hk : ∀ (s : Shared) (H : Hp) (C : Addr) (cl : List (Str × Addr)) (fp : List Addr), PE (X.blk s H scope (compEnvC scope cl C X.env) fp) kx tk)
    (he : ∀ (s : Shared) (H : Hp) (C : Addr) (cl : List (Str × Addr)) (fp : List Addr), PE (X.blk s H scope (compEnvC scope cl C X.env) fp) vx tv) (hs : ∀ x, foldedSetIterable iter X.env x = pure x := by intro _; rfl) :
    PE X (.DictComp kx vx [⟨tg, iter, [], 0⟩] scope pos) (tDcN X.prog X.w wi g tk tv (own.map (·.2))) := by
  refine ⟨fun pins s σ H Q I h => ?_⟩
  rw [arm_eval_DictComp]
  have hfree : ∀ y ∈ scope.names, y.2 = .free → ∃ c, X.env.cells.lookup y.1 = some c := fun y hy e => (ok.free y hy e).elim (fun k => I.ok.has _ (.inl k)) fun k => I.ok.has _ (.inr k)
  refine wpAny_comprehension_free (use := none) rfl hs (closure_ok hfree) ok.kind (fun y hy e => by rw [ok.uniq y hy, e])
    (thn (hi.run pins s σ H _ I h) fun xv s1 hx => thn hx fun itv s2 h2 => ?_)
  obtain ⟨it, fp, tn, J, H2, rfl, I2, T, st2, f2, q⟩ := h2
  refine wpAny_newObj_type (newEnv_comp ?_)
  generalize hD : s2.heap.objs.size = D
  have hDn : H2 D = none := I2.hok.fresh (Nat.le_of_eq hD)
  -- the new dict
  have hne : ∀ b ∈ fp, b ≠ D := fun b hb => by
    obtain ⟨o, e, _⟩ := T.obj _ _ st2 b hb
    rw [← hD]
    exact Nat.ne_of_lt (Heap.lt_size e)
  generalize hs3 : ({ s2 with heap := s2.heap.push { cls := .type "dict", data := .dict #[] } } : Shared) = s3
  have h3 : s3.heap = s2.heap.push { cls := .type "dict", data := .dict #[] } := by rw [← hs3]
  have I3 : Inv X pins σ (upd H2 D (NdO X.prog X.w D [])) s3 := by
    rw [← hs3]
    refine I2.laid (t' := s2.toks) (fun b o e => Heap.get?_push_of_some _ e) (Nat.le_of_eq hD) ?_
    rw [← hD]
    exact ndEmpty s2.heap I2.big
  obtain ⟨W, ⟨m0, w0⟩, turn⟩ := q D (upd H2 D (NdO X.prog X.w D [])) hDn ⟨Nat.zero_le _, [], upd_same, .nil⟩ fun c hc => upd_ne hc
  generalize hH3 : upd H2 D (NdO X.prog X.w D []) = H3 at I3 w0
  have n3 : ∀ b ∈ fp, H3 b = none := fun b hb => by
    rw [← hH3, upd_ne (hne b hb)]
    exact (f2 b hb).1
  have f3 : ∀ b ∈ fp, FpOk X pins H3 b := fun b hb => ⟨n3 b hb, (f2 b hb).2⟩
  have st3 : tn 0 s3.heap := T.keep _ _ _ st2 fun b _ o e => by rw [h3]; exact Heap.get?_push_of_some _ e
  have lt3 : ∀ b ∈ fp, b < s3.heap.objs.size := fun b hb => by
    obtain ⟨o, e, _⟩ := T.obj _ _ st3 b hb
    exact Heap.lt_size e
  have I4 := block_start I3 ok hN fun b hb => ⟨f3 b hb, lt3 b hb⟩
  have pg := hg s3 H3 s3.heap.objs.size (cellsFrom (s3.heap.objs.size + 1) scope.names (cloFrom X.env.cells scope.names [])) fp
  have pk := hk s3 H3 s3.heap.objs.size (cellsFrom (s3.heap.objs.size + 1) scope.names (cloFrom X.env.cells scope.names [])) fp
  have pv := he s3 H3 s3.heap.objs.size (cellsFrom (s3.heap.objs.size + 1) scope.names (cloFrom X.env.cells scope.names [])) fp
  show codeAny _ _ (.compStart (.DictComp kx vx [⟨tg, iter, [], 0⟩] scope pos) 0 (.ref it) (.ref D) (compEnvC scope (cellsFrom (s3.heap.objs.size + 1) scope.names (cloFrom X.env.cells scope.names [])) s3.heap.objs.size X.env))
    (compPost (model X.prog X.w) X.A X.xe none (EP X pins σ Q) (.ref D) s3.heap.objs.size) { s3 with heap := pushCells (s3.heap.push { cls := .type "dict", data := .dict #[] }) scope.names }
  generalize hce : compEnvC scope (cellsFrom (s3.heap.objs.size + 1) scope.names (cloFrom X.env.cells scope.names [])) s3.heap.objs.size X.env = ce at I4 pg pk pv ⊢
  have cL : ce.locals = s3.heap.objs.size := by subst hce; rfl
  generalize hs4 : ({ s3 with heap := pushCells (s3.heap.push { cls := .type "dict", data := .dict #[] }) scope.names } : Shared) = s4 at I4 ⊢
  have st4 : tn 0 s4.heap := T.keep _ _ _ st3 fun b _ o e => by rw [← hs4]; exact pushCells_keeps _ _ _ _ (Heap.get?_push_of_some _ e)
  have loop : codeAny (model X.prog X.w) X.A (.compLoop (.DictComp kx vx [⟨tg, iter, [], 0⟩] scope pos) 0 (.ref it) (.ref D) ce) (compPost (model X.prog X.w) X.A X.xe none (EP X pins σ Q) (.ref D) s3.heap.objs.size) s4 := by
    refine compLoop_anyD (fun n s' => ∃ i H', Inv (X.blk s3 H3 scope ce fp) [] (wipe σ (own.map (·.2))) H' s' ∧ tn i s'.heap ∧ (∀ b ∈ fp, H' b = none) ∧ W i n H') ?_ m0 ⟨0, H3, I4, st4, n3, w0⟩
    rintro n s5 ⟨i, H5, I5, st5, n5, w5⟩
    rcases turn i n H5 w5 with ⟨stop, qq⟩ | ⟨go, Nx, hNx, step⟩
    · -- no further item
      refine thnF (T.done (X.blk s3 H3 scope ce fp) rfl rfl rfl hc i [] s5 _ H5 (fun _ _ => False) I5 (blkFp I5 n5) st5 stop) fun r s6 ⟨hr, I6⟩ => ?_
      subst hr
      have I7 : Inv X pins σ H5 s6 := blkEnd I3 f3 I6
      have nC : H5 s3.heap.objs.size = none := by
        have z : H5 ce.locals = none := I6.free
        rw [cL] at z
        exact z
      obtain ⟨m, hn, _⟩ := I6.loc
      have hn : s6.heap.Ns ce.locals m := hn
      rw [cL] at hn
      obtain ⟨g0, g1, g2, g3, g4, g5⟩ := I3.fpOk (Nat.le_refl _) nC
      exact ⟨m, hn, fun h'' sb => ⟨.ref D, H5, I7.turned (t' := s6.toks) (fun b o hb e => (sb.2 b hb).trans e) g0 g1 g3 g4 g5, rfl, qq⟩⟩
    · -- an item: key, value, the store
      refine thnF (T.item (X.blk s3 H3 scope ce fp) rfl rfl rfl hc i [] s5 _ H5 (fun _ _ => False) I5 (blkFp I5 n5) st5 go) fun r s6 ⟨u, hr, h6⟩ => ?_
      subst hr
      refine thnF h6 fun _ s7 ⟨x, H7, I7, r7, y7, st7, n7⟩ => ?_
      have I7' := I7.pinned (blkFp I7 n7) (T.obj _ _ st7)
      refine thnF (pg.run _ s7 _ H7 x u _ I7' r7 (step x H7 y7)) fun _ s8 ⟨σ8, H8, I8, hw8, q8⟩ => ?_
      refine wpAny_tests_nil ?_
      simp only [if_true]
      refine thnF (pk.run _ s8 σ8 H8 _ I8 q8) fun z s9 ⟨yk, H9, I9, r9, q9⟩ => ?_
      refine thnF (pv.run _ s9 σ8 H9 _ I9 q9) fun z2 s10 ⟨yv, H10, I10, r10, b, e, kvs, ek, hbe, hnd, hz, nx⟩ => ?_
      subst ek
      cases r9
      refine nd_dictSet (X := X.blk s3 H3 scope ce fp) hu I10 hnd hz hbe r10 fun s11 H11 I11 nd11 o11 k11 => ?_
      obtain ⟨m', hm, w'⟩ := hNx H11 (nx H11 nd11 o11 k11)
      have pin' : ∀ c ∈ fp, ∀ o, s7.heap.get? c = some o → s11.heap.get? c = some o ∧ H11 c = none := fun c hcm o e =>
        let y := I11.pin (c, o) (List.mem_append_right _ (List.mem_append_right _ (mem_pinsAt hcm e)))
        ⟨y.1, y.2.1⟩
      have hl : (wipe σ (own.map (·.2))).length = σ8.length := by rw [← hw8, wipe_length]
      refine ⟨m', hm, i + 1, H11, (I11.unpinned (pins := [])).weak hl (fun j v e => ?_), T.keep _ _ _ st7 fun c hcm o e => (pin' c hcm o e).1, fun c hcm => ?_, w'⟩
      · rw [← hw8] at e
        exact (wipe_some e).1
      · obtain ⟨o, e, _⟩ := T.obj _ _ st7 c hcm
        exact (pin' c hcm o e).2
  exact codeAny_compStart_dict loop (T.self X.A 0 _ _ _ st4 loop)
/-- over a tuple that stays -/
theorem dcN_tup {P : Program} {w : World} {K : PySem.W.Frag} {a : Addr} {xs : List V} {g : TG} {tk tv : TE} {vs : List Nat} {σ : L2.St} {H0 : Hp} {D : Addr} {Qd : Hp → Prop} (Pv : Nat → Hp → Prop) (h0 : Pv 0 H0) (hl : ∀ i H, i ≤ xs.length → Pv i H → SqT K H a xs)
    (hs : ∀ i x H, xs[i]? = some x → Pv i H → g x (wipe σ vs) H fun σ2 H2 => wipe σ2 vs = wipe σ vs ∧ tk σ2 H2 fun y H3 => tv σ2 H3 fun z H4 => ∃ (b : Addr) (e : En) (kvs : List (En × V)), y = .ref b ∧ EntH H4 b e ∧ ND P w H4 D kvs ∧ kvs.length < 100000 ∧
        ∀ H5, ND P w H5 D (putK kvs e z) → (∀ c, c ≠ D → H5 c = H4 c) → KeepT H4 H5 → Pv (i + 1) H5) (hd : ∀ H, Pv xs.length H → Qd H) :
    ∃ W : Nat → Nat → Hp → Prop, (∃ m, W 0 m H0) ∧ ∀ i m H, W i m H →
      ((Itt K a).stop i H ∧ Qd H) ∨ ((Itt K a).go i H ∧ ∃ Nx : Hp → Prop, (∀ H', Nx H' → ∃ m', m' < m ∧ W (i + 1) m' H') ∧ ∀ x H', (Itt K a).yld i H x H' → g x (wipe σ vs) H' fun σ2 H2 => wipe σ2 vs = wipe σ vs ∧
        tk σ2 H2 fun y H3 => tv σ2 H3 fun z H4 => ∃ (b : Addr) (e : En) (kvs : List (En × V)), y = .ref b ∧ EntH H4 b e ∧ ND P w H4 D kvs ∧ kvs.length < 100000 ∧
          ∀ H5, ND P w H5 D (putK kvs e z) → (∀ c, c ≠ D → H5 c = H4 c) → KeepT H4 H5 → Nx H5) := by
  refine ⟨fun i m H => m = xs.length - i ∧ i ≤ xs.length ∧ Pv i H, ⟨xs.length, by simp, Nat.zero_le _, h0⟩, ?_⟩
  rintro i m H ⟨rfl, hi, p⟩
  have q := hl i H hi p
  by_cases hlt : i < xs.length
  · refine .inr ⟨⟨xs, xs[i], q, by simp [hlt]⟩, Pv (i + 1), fun H' p' => ⟨xs.length - (i + 1), by omega, rfl, hlt, p'⟩, fun x H' y => ?_⟩
    obtain ⟨e, y⟩ := y
    subst e
    exact hs i x _ (y xs q) p
  · have e : i = xs.length := by omega
    subst e
    exact .inl ⟨⟨xs, q, Nat.le_refl _⟩, hd H p⟩

/-! ### sorted(d) -/
theorem nrKeys {H : Hp} : ∀ {kvs : List (En × V)} {xs : NX}, NR H kvs xs → ∃ ks : List AE, ks.map (·.2) = kvs.map (·.1) ∧ (xs.map fun x => Value.ref x.2.1) = ks.map (fun k => Value.ref k.1) ∧ ∀ k ∈ ks, EntH H k.1 k.2
  | _, _, .nil => ⟨[], rfl, rfl, fun k hk => (by cases hk)⟩
  | _, _, .cons (a := p) (b := x) h t => by
    obtain ⟨ks, e1, e2, e3⟩ := nrKeys t
    refine ⟨(x.2.1, p.1) :: ks, by rw [List.map_cons, List.map_cons, e1], by rw [List.map_cons, List.map_cons, e2], fun k hk => ?_⟩
    rcases List.mem_cons.mp hk with z | z
    · rw [z]; exact h.2.1
    · exact e3 k z
def rSortND (P : Program) (w : World) : List V → Hp → VK → Prop := fun vs H Q => ∃ (d : Addr) (kvs : List (En × V)), vs = [V.ref d] ∧ ND P w H d kvs ∧
  ∀ (ks : List AE) (p : Addr), (ks.map (·.2)).Perm (kvs.map (·.1)) → (∀ k ∈ ks, EntH H k.1 k.2) → H p = none → Q (.ref p) (upd H p (.lst (ks.map fun k => V.ref k.1)))
theorem cr_sortND (hc : X.calm = true) (hu : X.A.units + 20 < cLine) : CallR X (.builtin "sorted") (rSortND X.prog X.w) := by
  intro pins s σ H vs us Q I r h
  obtain ⟨d, kvs, rfl, ⟨z, xs, hd, rel⟩, q⟩ := h
  rw [Vals.ref1 r]
  obtain ⟨lo, dd⟩ := ND.open I.hok hd rel
  obtain ⟨ks, e1, e2, e3⟩ := nrKeys rel
  obtain ⟨o, es, ep, h1, h2, h3, h4, _, _⟩ := dd
  have raw : s.heap.DictRaw d es ep := ⟨o, h1, h2, h3⟩
  have hks : es.toList.map (·.key) = ks.map fun k => Value.ref k.1 := by
    rw [h4, List.map_map, ← e2]
    rfl
  have hsz : es.size = ks.length := by
    have := congrArg List.length hks
    rw [List.length_map, List.length_map, Array.length_toList] at this
    exact this
  have hkl : ks.length = kvs.length := by
    have := congrArg List.length e1
    rw [List.length_map, List.length_map] at this
    exact this
  have hl : ks.length ≤ sizeLine := by rw [sizeLine_eq]; omega
  refine sortedCore (ks := ks) hu hl (fun R hR => ?_) (fun k hkm => readsE I.hok (e3 k hkm)) fun s1 s' p out c ks' k1 g1 o1 k g o hp hg hout pm => ?_
  · refine PySem.W.kdu_collect (A := X.A.in1) (KdlSrc.rawDict (es := es) (ep := ep) lo) (I.ok.hd hc) raw (by rw [hsz]; exact hl) fun h' tk acc hk hacc => ?_
    refine hR _ _ ks hk rfl rfl ?_ (List.Perm.refl _)
    · refine List.ext_getElem? fun j => ?_
      by_cases hj : j < es.size
      · have hja : j < acc.size := by rw [hacc.1]; exact hj
        obtain ⟨_, hv⟩ := hacc.2 j acc[j] (Array.getElem?_eq_getElem hja)
        rw [← hks, Array.getElem?_toList, Array.getElem?_eq_getElem hja, List.getElem?_map, Array.getElem?_toList, Array.getElem?_eq_getElem hj, hv]
        rfl
      · have a1 : acc.toList.length ≤ j := by rw [Array.length_toList, hacc.1]; omega
        rw [List.getElem?_eq_none a1, List.getElem?_eq_none (by rw [List.length_map, ← hsz]; omega)]
  · refine sortedEnd I k1 g1 o1 k g o hp hg hout (by rw [pm.length_eq]; exact hl) fun hn => q ks' p ?_ (fun k' hk' => e3 k' (pm.mem_iff.mp hk')) hn
    rw [← e1]
    exact pm.map _
end
end Kb
/-! Sets whose elements are objects that are told apart by ==: the search, the adding, the laying anew; told over any elements. -/
namespace Kb
open PySem PySem.Spec PyProof.Rows L2

/-- a set object that stands in order: a table of few rows, none of which was taken out -/
structure SetG (w : World) (h : Heap) (a : Addr) (es : Array (Int × Value)) (ep : Nat) (t : SetTable) : Prop where
  ob : ∃ o, h.get? a = some o ∧ o.ExactSet ∧ o.data = .set es ep t
  tab : TabOk t (es.toList.map (·.1))
  refs : ∀ p ∈ es.toList, ∃ c, p.2 = Value.ref c
  plain : t.plain = true
  led : w.params.followText "set-order" = true ∨ t.led = true
  room : es.size * 5 < t.mask * 3
  few : es.size < 64
/-- the c-th step of the search for a hash -/
abbrev stp (m : Nat) (h : Int) (c : Nat) : SetTable.Probe := nth m (runAt m (SetTable.bits h % (m + 1)) (SetTable.bits h)) c
theorem stp_dummy (m : Nat) (h : Int) (c : Nat) : (stp m h c).dummy = none := by
  have key : ∀ (n : Nat) (p : SetTable.Probe), p.dummy = none → (nth m p n).dummy = none := by
    intro n
    induction n with
    | zero => exact fun p q => q
    | succ n ih =>
      intro p q
      refine ih (adv m p) ?_
      unfold adv
      split <;> exact q
  exact key c _ rfl
theorem stp_add (m : Nat) (h : Int) (c q : Nat) : nth m (stp m h c) q = stp m h (c + q) := (nth_add m c _ q).symm

section
variable {P : Program} {w : World} {A : Around} {E : Value → Shared → Prop} {s : Shared} {a : Addr} {es : Array (Int × Value)} {ep : Nat} {t : SetTable}
theorem SetG.sz (R : SetG w s.heap a es ep t) : t.place.size = es.size := by
  have q := R.tab.sz
  rw [List.length_map, Array.length_toList] at q
  exact q
theorem SetG.fits (R : SetG w s.heap a es ep t) : t.fits es.size = true := by
  have h1 := R.sz
  have h3 := R.room
  unfold SetTable.fits SetTable.fill
  rw [R.tab.dm, Bool.and_eq_true, beq_iff_eq, decide_eq_true_eq]
  show t.place.size = es.size ∧ t.place.size + 0 ≤ t.mask
  omega
theorem SetG.stays (R : SetG w s.heap a es ep t) : ¬ t.gaveWay = true := by
  unfold SetTable.gaveWay
  rw [mask_odd R.tab.mok]
  decide
theorem hash_of {i : Nat} {p : Int × Value} (h : es[i]? = some p) : (es[i]?.map (·.1)).getD 0 = p.1 := by
  rw [h] <;> rfl
/-- the search from its c-th step on; hit tells which rows of that hash are equal to x -/
theorem searchG (R : SetG w s.heap a es ep t) {b : Addr} {h : Int} {hit : Nat → Bool} {K : Nat} (hKf : K < 10 * SetTable.turns t.mask)
    (hK : way t.mask h K ∉ t.place.toList) (hKb : ∀ c, c < K → way t.mask h c ∈ t.place.toList) {Q : SetFound → Shared → Prop}
    (heq : ∀ (i : Nat) (v : Value), es[i]? = some (h, v) → ∀ (Q : Bool → Shared → Prop), Q (hit i) s → wpAny (model P w) A (eqBool v (.ref b)) Q E s)
    (hseen : ∀ (Q : Bool → Shared → Prop), Q false s → wpAny (model P w) A (searchCouldBeSeen (.ref b) ((es.filter (·.1 == h)).toList.map (·.2))) Q E s)
    (hin : (∃ i v, es[i]? = some (h, v) ∧ hit i = true) → Q (.there none) s) (hout : (∀ (i : Nat) (v : Value), es[i]? = some (h, v) → hit i = false) → Q (.free (way t.mask h K) false) s) :
    ∀ (f c : Nat) (stand : Option SetTable.Probe), stand.getD (t.probeStart h) = stp t.mask h c → c ≤ K → K - c < f →
      (∀ (i : Nat) (v : Value), es[i]? = some (h, v) → hit i = true → ∃ c', c ≤ c' ∧ c' < K ∧ t.place.toList[i]? = some (way t.mask h c')) →
      wpAny (model P w) A (setSearchFrom a (.ref b) h true f stand) Q E s
  | 0, c, stand, _, _, hf, _ => absurd hf (Nat.not_lt_zero _)
  | f + 1, c, stand, hst, hc, hf, ahead => by
    obtain ⟨o, ho, hex, hd⟩ := R.ob
    rw [setSearchFrom_succ]
    refine wpAny_bind (wpAny_setState_of ho hd R.fits ?_)
    dsimp only
    refine wp_if_neg R.stays ?_
    try refine wpAny_bind (wpAny_pure ?_)
    have jj : ∀ q, (nth t.mask (stp t.mask h c) q).j = way t.mask h (c + q) := fun q => congrArg SetTable.Probe.j (stp_add t.mask h c q)
    have eK : c + (K - c) = K := by omega
    rcases go_spec t R.tab.ris R.tab.dm (fun i => (es[i]?.map (·.1)).getD 0) h (10 * SetTable.turns t.mask) (K - c) (stp t.mask h c) (stp_dummy _ _ _) (by omega)
      (fun q hq => by rw [jj]; exact hKb (c + q) (by omega)) (by rw [jj, eK]; exact hK) with ⟨q, i, hq, hi, hh, hno, hpr⟩ | ⟨hno, hpr⟩
    · -- a row with that hash
      rw [jj] at hi
      have step : t.probe (fun i => (es[i]?.map (·.1)).getD 0) h (stand.getD (t.probeStart h)) = some (.candidate (way t.mask h (c + q)) i (stp t.mask h (c + (q + 1)))) := by
        rw [hst, ← jj, ← stp_add]
        exact hpr
      rw [step]
      dsimp only
      have hil : i < es.size := by
        have h1 : i < t.place.toList.length := (List.getElem?_eq_some_iff.mp hi).1
        rw [Array.length_toList, R.sz] at h1
        exact h1
      obtain ⟨p, hp⟩ : ∃ p, es[i]? = some p := ⟨_, Array.getElem?_eq_getElem hil⟩
      have hp1 : p.1 = h := (hash_of hp).symm.trans hh
      obtain ⟨v1, v⟩ := p
      have hp1 : v1 = h := hp1
      subst hp1
      obtain ⟨cv, ev⟩ := R.refs (v1, v) (by rw [Array.mem_toList_iff]; exact Array.mem_of_getElem? hp)
      have ev : v = Value.ref cv := ev
      have rest : wpAny (model P w) A (searchRest a (.ref b) v1 true f es t (way t.mask v1 (c + q)) i (stp t.mask v1 (c + (q + 1)))) Q E s := by
        unfold searchRest
        rw [hp]
        dsimp only
        refine wpAny_bind (wpAny_holding (heq i v hp _ ?_))
        refine wpAny_bind (wpAny_setState_of ho hd R.fits ?_)
        dsimp only
        by_cases hk : hit i = true
        · refine wp_if_pos (by simp [hk]) ?_
          exact wpAny_pure (hin ⟨i, v, hp, hk⟩)
        · refine wp_if_neg (by simp [hk]) ?_
          try refine wpAny_bind (wpAny_pure ?_)
          rw [sameMem]
          dsimp only
          have hsl : t.slot (way t.mask v1 (c + q)) = .live i := slot_live R.tab.ris hi
          simp only [if_true, hsl, hp]
          rw [ev]
          refine wpAny_bind (wpAny_isSame_ref_self (wpAny_bind (wpAny_pure ?_)))
          simp only [if_true]
          refine wp_if_neg (by simp [hk]) ?_
          refine searchG R hKf hK hKb heq hseen hin hout f (c + (q + 1)) _ rfl (by omega) (by omega) fun i0 v0 h0 hk0 => ?_
          obtain ⟨c', a1, a2, a3⟩ := ahead i0 v0 h0 hk0
          refine ⟨c', ?_, a2, a3⟩
          rcases Nat.lt_trichotomy c' (c + q) with z | z | z
          · exfalso
            refine hno (c' - c) i0 (by omega) (by rw [jj, show c + (c' - c) = c' by omega]; exact a3) ?_
            exact hash_of h0
          · exfalso
            rw [z] at a3
            have s0 := slot_live R.tab.ris a3
            rw [hsl] at s0
            injection s0 with s0
            rw [← s0] at hk0
            exact hk hk0
          · omega
      by_cases hl : t.led = true
      · refine wp_if_neg (by simp [hl]) ?_
        try refine wpAny_bind (wpAny_pure ?_)
        exact rest
      · refine wp_if_pos (by simp [hl]) ?_
        refine wpAny_bind (hseen _ ?_)
        refine wp_if_neg (by decide) ?_
        try refine wpAny_bind (wpAny_pure ?_)
        exact rest
    · -- the empty slot
      have step : t.probe (fun i => (es[i]?.map (·.1)).getD 0) h (stand.getD (t.probeStart h)) = some (.empty (way t.mask h K) none) := by
        have e2 : way t.mask h K = (nth t.mask (stp t.mask h c) (K - c)).j := by rw [jj, eK]
        rw [hst, e2]
        exact hpr
      rw [step]
      dsimp only
      refine wpAny_pure (hout fun i v h0 => ?_)
      cases hk : hit i with
      | false => rfl
      | true =>
        exfalso
        obtain ⟨c', a1, a2, a3⟩ := ahead i v h0 hk
        refine hno (c' - c) i (by omega) (by rw [jj, show c + (c' - c) = c' by omega]; exact a3) ?_
        exact hash_of h0
/-- the search as adding asks for it -/
theorem searchAt (R : SetG w s.heap a es ep t) {b : Addr} {h : Int} {hit : Nat → Bool} {Q : SetFound → Shared → Prop}
    (heq : ∀ (i : Nat) (v : Value), es[i]? = some (h, v) → ∀ (Q : Bool → Shared → Prop), Q (hit i) s → wpAny (model P w) A (eqBool v (.ref b)) Q E s)
    (hseen : ∀ (Q : Bool → Shared → Prop), Q false s → wpAny (model P w) A (searchCouldBeSeen (.ref b) ((es.filter (·.1 == h)).toList.map (·.2))) Q E s)
    (hin : (∃ i v, es[i]? = some (h, v) ∧ hit i = true) → Q (.there none) s)
    (hout : ∀ K, (∀ (i : Nat) (v : Value), es[i]? = some (h, v) → hit i = false) → way t.mask h K ∉ t.place.toList → (∀ c, c < K → way t.mask h c ∈ t.place.toList) → Q (.free (way t.mask h K) false) s) :
    wpAny (model P w) A (setSearch a (.ref b) h true) Q E s := by
  have hroom := R.room
  obtain ⟨K, hKf, hK, hKb⟩ := R.tab.first (by rw [List.length_map, Array.length_toList]; omega) h
  have hbig : K < 100000 := by
    have : 10 * SetTable.turns t.mask ≤ 1420 := by
      unfold SetTable.turns
      rcases R.tab.mok with e | e | e <;> omega
    omega
  unfold setSearch
  refine searchG R hKf hK hKb heq hseen hin (fun hn => hout K hn hK hKb) 100000 0 none rfl (Nat.zero_le _) (by omega) fun i v hp _ => ?_
  have hi : (es.toList.map (·.1))[i]? = some h := by rw [List.getElem?_map, Array.getElem?_toList, hp] <;> rfl
  have hil : i < t.place.toList.length := by
    have h1 : i < es.size := (Array.getElem?_eq_some_iff.mp hp).1
    rw [Array.length_toList, R.sz]
    exact h1
  have hj := List.getElem?_eq_getElem hil
  obtain ⟨c, hc, e⟩ := R.tab.before hK hi hj
  exact ⟨c, Nat.zero_le _, hc, by rw [hj, e]⟩

/-! ### the table laid anew -/
theorem range_get {α : Type} : ∀ l : List α, (List.range l.length).filterMap (fun i => l[i]?) = l
  | [] => rfl
  | x :: l => by
    rw [List.length_cons, List.range_succ_eq_map, List.filterMap_cons_some (show (x :: l)[0]? = some x from rfl), List.filterMap_map]
    congr 1
    exact range_get l
theorem picked {es : Array (Int × Value)} {order : Array Nat} (hp : order.toList.Perm (List.range es.size)) :
    (order.filterMap (es[·]?)).toList.Perm es.toList ∧ ((order.filterMap (es[·]?)).toList.map (·.1)) = order.toList.map fun i => (es.map (·.1)).getD i 0 := by
  have e1 : (order.filterMap (es[·]?)).toList = order.toList.filterMap fun i => es.toList[i]? := by
    rw [Array.toList_filterMap]
    refine congrArg (fun g => order.toList.filterMap g) (funext fun i => ?_)
    rw [Array.getElem?_toList]
  refine ⟨?_, ?_⟩
  · rw [e1]
    have h1 := hp.filterMap (fun i => es.toList[i]?)
    rw [show es.size = es.toList.length from (Array.length_toList ..).symm, range_get] at h1
    exact h1
  · rw [e1]
    have hb : ∀ i ∈ order.toList, i < es.size := fun i hi => List.mem_range.mp (hp.mem_iff.mp hi)
    generalize order.toList = l at hb
    induction l with
    | nil => rfl
    | cons i l ih =>
      have hi := hb i List.mem_cons_self
      rw [List.filterMap_cons_some (show es.toList[i]? = some es[i] by rw [Array.getElem?_toList]; exact Array.getElem?_eq_getElem hi), List.map_cons, List.map_cons, ih fun j hj => hb j (List.mem_cons_of_mem _ hj)]
      congr 1
      have e2 : (es.map (·.1))[i]? = some es[i].1 := by rw [Array.getElem?_map, Array.getElem?_eq_getElem hi] <;> rfl
      simp [Array.getD_eq_getD_getElem?, e2]
theorem relayG {o : Obj} (ho : s.heap.get? a = some o) (hex : o.ExactSet) (hd : o.data = .set es ep t) (hsz : t.place.size = es.size) (hdm : t.dummies = #[]) (hfl : es.size ≤ t.mask) (refs : ∀ p ∈ es.toList, ∃ c, p.2 = Value.ref c)
    (pl : t.plain = true) (ld : w.params.followText "set-order" = true ∨ t.led = true) (few : es.size < 64) {wanted M : Nat} (hw : SetTable.sizeAbove wanted - 1 = M) (hM : MaskOk M) (hw2 : SetTable.sizeAbove wanted ≤ 128) (hn : es.size * 5 < M * 3) {Q : Unit → Shared → Prop}
    (hQ : ∀ h' es' ep' t', Heap.SameBut a s.heap h' → SetG w h' a es' ep' t' → es'.toList.Perm es.toList → Q () { s with heap := h' }) : wpAny (model P w) A (setRelay a wanted) Q E s := by
  have hfits : t.fits es.size = true := by
    unfold SetTable.fits SetTable.fill
    rw [hdm, Bool.and_eq_true, beq_iff_eq, decide_eq_true_eq]
    show t.place.size = es.size ∧ t.place.size + 0 ≤ t.mask
    omega
  obtain ⟨t', order, e, hp, T, em, el, epl, ed⟩ := relaid_ok t (hs := es.map (·.1)) (wanted := wanted) hw hM (by rw [Array.size_map]; omega)
  rw [Array.size_map] at hp
  obtain ⟨pm, hh⟩ := picked hp
  rw [← hh] at T
  have hs2 : (order.filterMap (es[·]?)).size = es.size := by
    have q := pm.length_eq
    rw [Array.length_toList, Array.length_toList] at q
    exact q
  rw [setRelay_eq]
  refine wpAny_bind (wpAny_setState_of ho hd hfits ?_)
  dsimp only
  refine wp_if_neg (by rw [sizeLine_eq]; omega) ?_
  try refine wpAny_bind (wpAny_pure ?_)
  rw [e]
  dsimp only
  refine wpAny_bind ?_
  refine wp_if_neg (by rw [hs2]; simp) ?_
  try refine wpAny_bind (wpAny_pure ?_)
  refine wpAny_pure ?_
  dsimp only
  refine wpAny_storeSet_of ho hd ?_ (by rw [hs2, sizeLine_eq]; omega)
  refine hQ _ (order.filterMap (es[·]?)) (ep + 1) t' (Heap.SameBut.update ..) ⟨⟨_, store_at ho hd, ⟨hex.1, hex.2.1, hex.2.2⟩, rfl⟩, T, fun p hpm => refs p (pm.mem_iff.mp hpm), by rw [epl]; exact pl, by rw [el]; exact ld, ?_, by rw [hs2]; exact few⟩ pm
  rw [hs2, em]
  exact hn

/-! ### adding -/
theorem addG (R : SetG w s.heap a es ep t) {b : Addr} {h : Int} {hit : Nat → Bool} (hfew : es.size + 1 < 64) {Q : Bool → Shared → Prop}
    (heq : ∀ (i : Nat) (v : Value), es[i]? = some (h, v) → ∀ (Q : Bool → Shared → Prop), Q (hit i) s → wpAny (model P w) A (eqBool v (.ref b)) Q E s)
    (hseen : ∀ (Q : Bool → Shared → Prop), Q false s → wpAny (model P w) A (searchCouldBeSeen (.ref b) ((es.filter (·.1 == h)).toList.map (·.2))) Q E s)
    (hby : ∀ (Q : Bool → Shared → Prop), Q true s → wpAny (model P w) A (hashByValue 8 (.ref b)) Q E s)
    (hQ : ∀ (r : Bool) h' es' ep' t', Heap.SameBut a s.heap h' → SetG w h' a es' ep' t' → ((∃ i v, es[i]? = some (h, v) ∧ hit i = true) ∧ es' = es ∨ es'.toList.Perm ((h, Value.ref b) :: es.toList)) → Q r { s with heap := h' }) :
    wpAny (model P w) A (setAddHashed a (.ref b) h) Q E s := by
  obtain ⟨o, ho, hex, hd⟩ := R.ob
  have hroom := R.room
  unfold setAddHashed
  refine wpAny_holding ?_
  rw [show (100000 : Nat) = 99999 + 1 from rfl, setAddHashedIn_succ]
  refine wpAny_bind (wpAny_setState_of ho hd R.fits ?_)
  dsimp only
  refine wp_if_neg (by simp [byScan, Value.scannable]) ?_
  try refine wpAny_bind (wpAny_pure ?_)
  refine wpAny_bind (searchAt R heq hseen (fun hm => ?_) fun K hm hK hb => ?_)
  · dsimp only
    exact wpAny_pure (hQ false s.heap es ep t (Heap.SameBut.refl a s.heap) R (.inl ⟨hm, rfl⟩))
  · dsimp only
    refine wpAny_bind (wpAny_setState_of ho hd R.fits ?_)
    dsimp only
    obtain ⟨q1, q2, q3, q4, q5, q6, q7, q8, q9⟩ := R.tab.put hK hb
    have pl1 : (t.put (way t.mask h K)).1.plain = true := by rw [q6]; exact R.plain
    generalize hpt : t.put (way t.mask h K) = pt at q1 q3 q4 q5 q6 q7 q8 q9 pl1 ⊢
    obtain ⟨t1, p⟩ := pt
    dsimp only at q1 q3 q4 q5 q6 q7 q8 q9 pl1 ⊢
    subst q1
    first
      | (refine wpAny_bind ?_; refine wp_if_pos pl1 ?_; refine hby _ ?_)
      | refine wp_if_pos pl1 (wpAny_bind (hby _ ?_))
    simp only [if_true]
    generalize SetTable.below t.place (way t.mask h K) = p at q2 q3 ⊢
    have hin : (SetTable.insertAt es p (h, Value.ref b)).toList = es.toList.take p ++ (h, Value.ref b) :: es.toList.drop p := SetTable.toList_insertAt ..
    have pm : (SetTable.insertAt es p (h, Value.ref b)).toList.Perm ((h, Value.ref b) :: es.toList) := by
      rw [hin]
      have q : (es.toList.take p ++ (h, Value.ref b) :: es.toList.drop p).Perm ((h, Value.ref b) :: (es.toList.take p ++ es.toList.drop p)) := List.perm_middle
      rw [List.take_append_drop] at q
      exact q
    have T1 : TabOk t1 ((SetTable.insertAt es p (h, Value.ref b)).toList.map (·.1)) := by
      rw [hin, List.map_append, List.map_cons, List.map_take, List.map_drop]
      exact q3
    have hes : (SetTable.insertAt es p (h, Value.ref b)).size = es.size + 1 := by
      have q := pm.length_eq
      rw [Array.length_toList, List.length_cons, Array.length_toList] at q
      exact q
    generalize SetTable.insertAt es p (h, Value.ref b) = es1 at hin pm T1 hes ⊢
    have refs1 : ∀ p ∈ es1.toList, ∃ c, p.2 = Value.ref c := fun p hp => by
      rcases List.mem_cons.mp (pm.mem_iff.mp hp) with e | hp
      · exact ⟨b, by rw [e]⟩
      · exact R.refs p hp
    refine wpAny_bind (wpAny_storeSet_of ho hd ?_ (by rw [hes, sizeLine_eq]; omega))
    have sb : Heap.SameBut a s.heap (s.heap.update a (Obj.putSet es1 t1)) := Heap.SameBut.update ..
    have ho1 := store_at (es' := es1) (t' := t1) ho hd
    generalize s.heap.update a (Obj.putSet es1 t1) = h1 at sb ho1 ⊢
    have ld1 : w.params.followText "set-order" = true ∨ t1.led = true := by rw [q5]; exact R.led
    have fill : t1.fill = es.size + 1 := by rw [q9, List.length_map, Array.length_toList]
    by_cases hf : t1.tooFull = true
    · first
        | (refine wpAny_bind ?_; refine wp_if_pos (by simp [hf]) ?_)
        | (refine wp_if_pos (by simp [hf]) ?_; refine wpAny_bind ?_)
      have hfull : (es.size + 1) * 5 ≥ t1.mask * 3 := by
        have q := hf
        unfold SetTable.tooFull at q
        rw [decide_eq_true_eq, fill] at q
        exact q
      have hsz1 : t1.place.size = es1.size := by
        have q := T1.sz
        rw [List.length_map, Array.length_toList] at q
        exact q
      have two : (t.mask = 7 ∧ es.size = 4) ∨ (t.mask = 31 ∧ es.size = 18) := by
        rcases R.tab.mok with e | e | e
        · left; rw [q4, e] at hfull; rw [e] at hroom; exact ⟨e, by omega⟩
        · right; rw [q4, e] at hfull; rw [e] at hroom; exact ⟨e, by omega⟩
        · exfalso; rw [q4, e] at hfull; omega
      have go : ∀ M, SetTable.sizeAbove (SetTable.grown (es.size + 1)) - 1 = M → MaskOk M → SetTable.sizeAbove (SetTable.grown (es.size + 1)) ≤ 128 → (es.size + 1) * 5 < M * 3 →
          wpAny (model P w) A (setRelay a (SetTable.grown (es.size + 1))) (fun _ s' => wpAny (model P w) A (pure true) Q E s') E { s with heap := h1 } := fun M g1 g2 g3 g4 => by
        refine relayG (s := { s with heap := h1 }) ho1 ⟨hex.1, hex.2.1, hex.2.2⟩ rfl hsz1 T1.dm (by rw [hes, q4]; rcases two with ⟨e, e2⟩ | ⟨e, e2⟩ <;> omega) refs1 pl1 ld1 (by rw [hes]; exact hfew) g1 g2 g3 (by rw [hes]; exact g4) ?_
        intro h2 es2 ep2 t2 sb2 R2 pm2
        exact wpAny_pure (hQ true h2 es2 ep2 t2 (sb.trans sb2) R2 (.inr (pm2.trans pm)))
      rcases two with ⟨_, e2⟩ | ⟨_, e2⟩
      · exact go 31 (by rw [e2, size_20]) (.inr (.inl rfl)) (by rw [e2, size_20]; decide) (by omega)
      · exact go 127 (by rw [e2, size_76]) (.inr (.inr rfl)) (by rw [e2, size_76]; decide) (by omega)
    · first
        | refine wp_if_neg (by simp [hf]) ?_
        | (refine wpAny_bind ?_; refine wp_if_neg (by simp [hf]) ?_; refine wpAny_pure ?_)
      refine wpAny_pure (hQ true h1 es1 (ep + 1) t1 sb ⟨⟨_, ho1, ⟨hex.1, hex.2.1, hex.2.2⟩, rfl⟩, T1, refs1, pl1, ld1, ?_, by rw [hes]; exact hfew⟩ (.inr pm))
      have q := hf
      unfold SetTable.tooFull at q
      rw [decide_eq_true_eq, fill] at q
      rw [hes]
      omega
end
end Kb
/-! set(t) of a tuple of entries, sorted of such a set. -/
namespace Kb
open PySem PySem.Spec PyProof.Rows L2

section
variable {P : Program} {w : World} {A : Around} {E : Value → Shared → Prop} {s : Shared}
/-- the entry's hash -/
abbrev eh (P : Program) (w : World) (e : En) : Int := (nestedKind P w).hash (nk e)
abbrev IsE (P : Program) (w : World) (h : Heap) (e : En) (b : Addr) : Prop := (nestedKind P w).is h (nk e) b
/-- a value that two questions answer at once -/
def Calm (P : Program) (w : World) (s : Shared) (n : Nat) (v : Value) : Prop := ∀ (A : Around) (E : Value → Shared → Prop),
  (∀ Q : Bool → Shared → Prop, Q false s → wpAny (model P w) A (ofAClassStatement n v) Q E s) ∧ ∀ Q : Bool → Shared → Prop, Q true s → wpAny (model P w) A (hashByValue n v) Q E s
theorem calmNum {n : Nat} {i : Int} {v : Value} {h : Heap} (x : NestedIs h (.num i) v) : Calm P w s n v := fun A E => by
  cases x with
  | bool e => exact ⟨fun Q q => by cases n <;> exact wpAny_pure q, fun Q q => by cases n <;> exact wpAny_pure q⟩
  | int i t => exact ⟨fun Q q => by cases n <;> exact wpAny_pure q, fun Q q => by cases n <;> exact wpAny_pure q⟩
theorem calmTup {n : Nat} {b : Addr} {o : Obj} {items : Array Value} {m : Nat} (ho : s.heap.get? b = some o) (hc : o.cls = .type "tuple") (hd : o.data = .seq items m) (hi : ∀ v ∈ items.toList, Calm P w s n v) : Calm P w s (n + 1) (.ref b) := fun A E => by
  have hT : s.TypeIs (.ref b) "tuple" := ⟨o, ho, hc⟩
  refine ⟨fun Q q => ?_, fun Q q => ?_⟩
  · unfold ofAClassStatement
    refine wpAny_bind (wpAny_typeOf hT ?_)
    dsimp only
    have e : (("tuple" : String) == "tuple") = true := by decide
    simp only [e, if_true, Bool.not_true, Bool.false_eq_true, if_false]
    try refine wpAny_bind (wpAny_pure ?_)
    try simp only [Bool.not_true, Bool.false_eq_true, if_false]
    show wpAny _ _ (seqItems? (.ref b) >>= _) _ _ s
    refine wpAny_bind (wpAny_seqItems ho hd ?_)
    dsimp only
    refine wpAny_bind ?_
    show wpAny _ _ (forIn items _ _) _ _ s
    rw [← Array.forIn_toList]
    refine wpAny_forIn_list _ (fun rest r s' => r.1 = none ∧ s' = s ∧ ∀ v ∈ rest, Calm P w s n v) _ ?_ ?_ _ _ ⟨rfl, rfl, hi⟩
    · rintro v rest r s' ⟨hr, rfl, hall⟩
      refine wpAny_bind ((hall v List.mem_cons_self A _).1 _ ?_)
      simp only [Bool.false_eq_true, if_false]
      exact wpAny_pure ⟨rfl, rfl, fun u hu => hall u (List.mem_cons_of_mem _ hu)⟩
    · rintro ⟨r1, r2⟩ s' ⟨hr, rfl, _⟩
      simp only at hr
      subst hr
      exact wpAny_pure q
  · unfold hashByValue
    refine wpAny_bind (wpAny_specialOf hT F.slot_tuple_hash.lookup ?_)
    show wpAny _ _ (seqItems? (.ref b) >>= _) _ _ s
    refine wpAny_bind (wpAny_seqItems ho hd ?_)
    refine wpAny_bind ?_
    show wpAny _ _ (forIn items _ _) _ _ s
    rw [← Array.forIn_toList]
    refine wpAny_forIn_list _ (fun rest r s' => r.1 = none ∧ s' = s ∧ ∀ v ∈ rest, Calm P w s n v) _ ?_ ?_ _ _ ⟨rfl, rfl, hi⟩
    · rintro v rest r s' ⟨hr, rfl, hall⟩
      refine wpAny_bind ((hall v List.mem_cons_self A _).2 _ ?_)
      simp only [Bool.not_true, Bool.false_eq_true, if_false]
      exact wpAny_pure ⟨rfl, rfl, fun u hu => hall u (List.mem_cons_of_mem _ hu)⟩
    · rintro ⟨r1, r2⟩ s' ⟨hr, rfl, _⟩
      simp only at hr
      subst hr
      exact wpAny_pure q
theorem calmNums {n : Nat} {h : Heap} : ∀ (ns : List Int) (vs : List Value), NestedAll h (ns.map .num) vs → ∀ v ∈ vs, Calm P w s n v
  | [], _, x, v, hv => by cases x; cases hv
  | k :: ns, _, x, v, hv => by
    cases x with
    | cons a b =>
      rcases List.mem_cons.mp hv with e | hv
      · rw [e]; exact calmNum a
      · exact calmNums ns _ b v hv
theorem calmE {e : En} {b : Addr} (x : IsE P w s.heap e b) : Calm P w s 8 (.ref b) := by
  obtain ⟨x, _⟩ := x
  cases x with
  | tup ho hc hd hk =>
    refine calmTup (n := 7) ho hc hd fun v hv => ?_
    generalize Array.toList _ = l at hk hv
    cases hk with
    | cons a r =>
      cases r with
      | cons a2 r2 =>
        cases r2
        rcases List.mem_cons.mp hv with e1 | hv
        · rw [e1]; exact calmNum a
        · rw [List.mem_singleton.mp hv]
          cases a2 with
          | tup ho2 hc2 hd2 hk2 => exact calmTup (n := 6) ho2 hc2 hd2 (calmNums e.2 _ hk2)
/-- the search shows nothing -/
theorem seenE {e : En} {b : Addr} (hb : IsE P w s.heap e b) {ys : List Value} (hy : ∀ y ∈ ys, ∃ e' c, y = Value.ref c ∧ IsE P w s.heap e' c) {Q : Bool → Shared → Prop} (h : Q false s) :
    wpAny (model P w) A (searchCouldBeSeen (.ref b) ys) Q E s := by
  unfold searchCouldBeSeen
  refine wpAny_bind ?_
  refine wpAny_forIn_list _ (fun rest r s' => r.1 = none ∧ s' = s ∧ ∀ y ∈ rest, ∃ e' c, y = Value.ref c ∧ IsE P w s.heap e' c) _ ?_ ?_ _ _ ⟨rfl, rfl, hy⟩
  · rintro v rest r s' ⟨hr, rfl, hall⟩
    obtain ⟨e', c, rfl, hc⟩ := hall v List.mem_cons_self
    have more : ∀ y ∈ rest, ∃ e' c, y = Value.ref c ∧ IsE P w s'.heap e' c := fun u hu => hall u (List.mem_cons_of_mem _ hu)
    dsimp only
    by_cases hv : (b == c || (carriedByValue (.ref b) && carriedByValue (.ref c))) = true
    · refine wp_if_pos hv ?_
      exact wpAny_pure ⟨rfl, rfl, more⟩
    · refine wp_if_neg hv ?_
      refine wpAny_bind ((nestedKind P w).quiet hb ?_)
      simp only [Bool.not_true, Bool.false_eq_true, if_false]
      refine wpAny_bind ((nestedKind P w).quiet hc ?_)
      simp only [Bool.not_true, Bool.false_eq_true, if_false]
      refine wpAny_bind ((calmE hb A _).1 _ ?_)
      simp only [Bool.false_eq_true, if_false]
      refine wpAny_bind ((calmE hc A _).1 _ ?_)
      simp only [Bool.false_eq_true, if_false]
      exact wpAny_pure ⟨rfl, rfl, more⟩
  · rintro ⟨r1, r2⟩ s' ⟨hr, rfl, _⟩
    simp only at hr
    subst hr
    exact wpAny_pure h

/-- a set of some of the entries ks -/
structure SetE (P : Program) (w : World) (ks : List AE) (h : Heap) (a : Addr) (es : Array (Int × Value)) : Prop where
  ok : ∃ ep t, SetG w h a es ep t
  sub : ∀ r ∈ es.toList, ∃ p ∈ ks, r = (eh P w p.2, Value.ref p.1)
theorem isE_same {h h' : Heap} {e : En} {a b : Addr} (x : IsE P w h e b) (k : ∀ c o vs m, h.get? c = some o → o.data = .seq vs m → h'.get? c = some o) : IsE P w h' e b := nestedKind_stays.stays k x
/-- one more entry -/
theorem addE {ks : List AE} {a : Addr} {es : Array (Int × Value)} (R : SetE P w ks s.heap a es) (hk : ∀ p ∈ ks, IsE P w s.heap p.2 p.1) {p : AE} (hp : p ∈ ks) (hu : A.units + 20 < cLine) (hfew : es.size + 1 < 64) {Q : Bool → Shared → Prop}
    (hQ : ∀ (r : Bool) h' es', Heap.SameBut a s.heap h' → SetE P w ks h' a es' → es'.size ≤ es.size + 1 → Q r { s with heap := h' }) : wpAny (model P w) A (setAddHashed a (.ref p.1) (eh P w p.2)) Q E s := by
  obtain ⟨⟨ep, t, G⟩, sub⟩ := R
  have room : (nestedKind P w).room A := by show A.units + 8 < cLine; omega
  have row : ∀ (i : Nat) (v : Value), es[i]? = some (eh P w p.2, v) → ∃ q ∈ ks, v = Value.ref q.1 := fun i v hv => by
    obtain ⟨q, hq, e⟩ := sub _ (by rw [Array.mem_toList_iff]; exact Array.mem_of_getElem? hv)
    exact ⟨q, hq, congrArg Prod.snd e⟩
  refine addG (hit := fun i => open Classical in decide (∃ q ∈ ks, es[i]?.map (·.2) = some (Value.ref q.1) ∧ q.2 = p.2)) G hfew (fun i v hv Q q => ?_) (fun Q q => ?_) (fun Q q => (calmE (hk p hp) A _).2 Q q) fun r h' es' ep' t' sb G' ch => ?_
  · obtain ⟨q1, hq1, ev⟩ := row i v hv
    rw [ev]
    refine (nestedKind P w).eqBool room (hk q1 hq1) (hk p hp) ?_
    have e : (open Classical in decide (∃ q ∈ ks, es[i]?.map (·.2) = some (Value.ref q.1) ∧ q.2 = p.2)) = decide (nk q1.2 = nk p.2) := by
      by_cases c : nk q1.2 = nk p.2
      · rw [decide_eq_true c, decide_eq_true_eq]
        exact ⟨q1, hq1, by rw [hv, ev] <;> rfl, nk_inj c⟩
      · rw [decide_eq_false c, decide_eq_false_iff_not]
        rintro ⟨q2, hq2, e2, e3⟩
        rw [hv, ev] at e2
        have e4 : q1.1 = q2.1 := by
          have := Option.some.inj e2
          injection this
        have k1 := hk q1 hq1
        rw [e4] at k1
        exact c ((nestedKind P w).inj k1 (hk q2 hq2) |>.trans (by rw [e3]))
    rw [← e]
    exact q
  · refine seenE (hk p hp) (fun y hy => ?_) q
    obtain ⟨r, hr, er⟩ := List.mem_map.mp hy
    have hr2 : r ∈ es.toList := by
      have : r ∈ es ∧ (r.1 == eh P w p.2) = true := by simpa using hr
      exact Array.mem_toList_iff.mpr this.1
    obtain ⟨q1, hq1, e1⟩ := sub r hr2
    exact ⟨q1.2, q1.1, by rw [← er, e1], hk q1 hq1⟩
  · rcases ch with ⟨_, e⟩ | pm
    · subst e
      exact hQ r h' es' sb ⟨⟨ep', t', G'⟩, sub⟩ (Nat.le_succ _)
    · refine hQ r h' es' sb ⟨⟨ep', t', G'⟩, fun r hr => ?_⟩ ?_
      · rcases List.mem_cons.mp (pm.mem_iff.mp hr) with e | hr
        · exact ⟨p, hp, e⟩
        · exact sub r hr
      · have q := pm.length_eq
        rw [Array.length_toList, List.length_cons, Array.length_toList] at q
        omega

abbrev freshSet (w : World) : Obj := { cls := .type "set", dict := none, data := .set #[] 0 (.fresh 0 0 (!w.params.followText "set-order")) }
theorem setE_fresh {ks : List AE} {h : Heap} {a : Addr} (ho : h.get? a = some (freshSet w)) : SetE P w ks h a #[] where
  ok := ⟨0, _, ⟨_, ho, ⟨rfl, rfl, rfl⟩, rfl⟩, ⟨List.Pairwise.nil, rfl, rfl, .inl rfl, fun x hx => (by cases hx), fun i h j hi => (by simp at hi)⟩, fun p hp => (by simp at hp), rfl,
    (by
      show _ ∨ (!w.params.followText "set-order") = true
      cases w.params.followText "set-order"
      · exact .inr rfl
      · exact .inl rfl), (by show 0 * 5 < 7 * 3; decide), (by show 0 < 64; decide)⟩
  sub := fun r hr => by simp at hr
theorem SetE.keep {ks : List AE} {h h' : Heap} {a : Addr} {es : Array (Int × Value)} (R : SetE P w ks h a es) (ha : ∀ o, h.get? a = some o → h'.get? a = some o) : SetE P w ks h' a es :=
  let ⟨ep, t, G⟩ := R.ok
  ⟨⟨ep, t, let ⟨o, ho, r⟩ := G.ob; ⟨o, ha o ho, r⟩, G.tab, G.refs, G.plain, G.led, G.room, G.few⟩, R.sub⟩

/-- the loop of set.update over some walk of the entries -/
theorem updateLoop {I : Addr} {fp wr : List Addr} {G : Array GenState → Array GenState → Prop} {n : Nat} {Pv : Nat → Value → Prop} {St : Nat → Shared → Prop} {R : Result → Shared → Prop}
    (W : WalksS P w A.in1 I fp wr G n Pv St) (S : Addr) (hSf : S ∉ fp) (ks : List AE) (hfew : n < 63) (hval : ∀ i v, Pv i v → ∃ p ∈ ks, v = .ref p.1)
    (h0 : Heap) (hk : ∀ p ∈ ks, IsE P w h0 p.2 p.1) (hS0 : h0.get? S = none) (hw0 : ∀ b ∈ wr, h0.get? b = none) (hu : A.in1.units + 20 < cLine) :
    ∀ (k i : Nat) (s : Shared), n - i = k → i ≤ n → St i s → (∀ b o, h0.get? b = some o → s.heap.get? b = some o) → (∃ es, SetE P w ks s.heap S es ∧ es.size ≤ i) →
      (∀ s' es, Moved (S :: wr) G s s' → SetE P w ks s'.heap S es → (∀ b o, h0.get? b = some o → s'.heap.get? b = some o) → R (.ok (.ret .none)) s') →
      codeAny (model P w) A (.builtin "set.update.loop" ⟨[.ref S, .ref I], []⟩) R s := by
  have hSw : S ∉ wr := fun h => hSf (W.sub _ h)
  have hsub : ∀ b ∈ wr, b ∈ S :: wr := fun b hb => List.mem_cons_of_mem _ hb
  have keepM : ∀ {s s' : Shared}, Moved wr G s s' → (∀ b o, h0.get? b = some o → s.heap.get? b = some o) → ∀ b o, h0.get? b = some o → s'.heap.get? b = some o := fun hm hkp b o e =>
    hm.heap b o (fun hb => by rw [hw0 b hb] at e; cases e) (hkp b o e)
  intro k
  induction k with
  | zero =>
    intro i s hk' hi hst hkp ⟨es, hS, _⟩ hR
    have hin : i = n := by omega
    subst hin
    refine codeAny_builtin F.entry_set_update_loop ?_
    rw [Around.under_plainId F.plain_set_update_loop _]
    show wpAny _ A.in1 (pyNext (.ref I) >>= _) _ _ s
    refine wpAny_bind (W.done s _ _ hst fun s' hm => ?_)
    show wpAny _ A.in1 (ret Value.none) _ _ s'
    exact wpAny_pure (hR s' es (hm.mono hsub) (hS.keep fun o e => hm.heap S o hSw e) (keepM hm hkp))
  | succ k ih =>
    intro i s hk' hi hst hkp ⟨es, hS, hes⟩ hR
    have hlt : i < n := by omega
    refine codeAny_builtin F.entry_set_update_loop ?_
    rw [Around.under_plainId F.plain_set_update_loop _]
    show wpAny _ A.in1 (pyNext (.ref I) >>= _) _ _ s
    refine wpAny_bind (W.item i s _ _ hlt hst fun v s' hP hst' hm => ?_)
    obtain ⟨p, hp, rfl⟩ := hval i v hP
    have hkp' := keepM hm hkp
    have hS' : SetE P w ks s'.heap S es := hS.keep fun o e => hm.heap S o hSw e
    have hk1 : ∀ q ∈ ks, IsE P w s'.heap q.2 q.1 := fun q hq => isE_same (a := S) (hk q hq) fun c o _ _ e _ => hkp' c o e
    show wpAny _ A.in1 (holding [Value.ref p.1] (setAdd S (.ref p.1)) >>= _) _ _ s'
    refine wpAny_bind (wpAny_holding ?_)
    unfold setAdd
    refine wpAny_holding ?_
    refine wpAny_bind ((nestedKind P w).pyHash (show A.in1.units + 8 < cLine by omega) (hk1 p hp) ?_)
    refine addE (s := { s' with toks := s'.toks + (nestedKind P w).draws (nk p.2) }) hS' hk1 hp hu (by omega) fun b h' es' hsb hS2 hsz => ?_
    have hkp2 : ∀ b o, h0.get? b = some o → h'.get? b = some o := fun b o e => (hsb.2 b (fun z => by rw [z, hS0] at e; cases e)).trans (hkp' b o e)
    refine wpAny_pure ⟨plainId_quiet F.plain_set_update_loop _, ih (i + 1) _ (by omega) hlt (W.frame _ s' _ _ hst' (Nat.le_add_right _ _) fun b hb o e => ?_) hkp2 ⟨es', hS2, by omega⟩ fun s'' es2 hm'' hS'' hkp'' => ?_⟩
    · rw [hsb.2 b (fun h : b = S => hSf (by rw [← h]; exact hb))]; exact e
    · refine hR s'' es2 (Moved.trans W.gtrans ((hm.mono hsub).then_heap (Nat.le_add_right _ _) fun b o hb e => ?_) hm'') hS'' hkp''
      rw [hsb.2 b (fun h : b = S => hb (by rw [h]; exact List.mem_cons_self))]; exact e

/-- set(t), t a tuple of entries -/
theorem callSetE {l : Addr} {items : Array Value} (ks : List AE) {Q : Value → Shared → Prop} (hh : A.handled = none) (hl : s.heap.IsTuple l items) (hit : items.toList = ks.map fun p => Value.ref p.1)
    (hk : ∀ p ∈ ks, IsE P w s.heap p.2 p.1) (hfew : ks.length < 63) (hu : A.units + 40 < cLine)
    (h : ∀ (h' : Heap) (tk : Nat) es, SetE P w ks h' s.heap.objs.size es → (∀ b o, s.heap.get? b = some o → h'.get? b = some o) → Q (.ref s.heap.objs.size) { s with heap := h', toks := tk }) :
    wpAny (model P w) A (call (.type "set") [.ref l]) Q E s := by
  have hisz : items.size = ks.length := by
    have q := congrArg List.length hit
    rw [Array.length_toList, List.length_map] at q
    exact q
  obtain ⟨c, tl, hmro⟩ := F.called_set.mro
  have hmade := F.called_set.made
  have hsub := F.called_set.sub
  refine wpAny_call (codeAny_of_tree ?_)
  show wpAny _ _ (callAny (.type "set") _) _ _ _
  refine wpAny_pure ⟨Code.quiet_builtin _ (by decide +kernel), codeAny_builtin F.entry_type_call ?_⟩
  rw [Around.under_plain (weight_type_call_type "set" [.ref l] []) rfl]
  have h1 := F.called_set.notType
  have h2 := F.called_set.canCreate
  have hct := F.typeCall_set_1 (.ref l)
  repeat (any_goals (first | assumption | wp_step))
  refine codeAny_mono (code_set_led1 (.ref l) (E := E) (Q₁ := fun obj s₁ => obj = .ref s.heap.objs.size ∧ s₁ = { s with heap := s.heap.push (freshSet w) }) ⟨rfl, rfl⟩) fun r s₁ hr => ?_
  cases r with
  | error e => exact hr
  | ok fl =>
    cases fl with
    | ret obj =>
      obtain ⟨rfl, rfl⟩ := hr
      have hS : (s.heap.push (freshSet w)).get? s.heap.objs.size = some (freshSet w) := Heap.get?_push_size _ rfl
      have hT : Shared.TypeIs { s with heap := s.heap.push (freshSet w) } (.ref s.heap.objs.size) "set" := ⟨_, hS, rfl⟩
      have hli := F.called_set.init.lookup
      have hbi := F.called_set.init.bind (.ref s.heap.objs.size)
      repeat (any_goals (first | assumption | wp_step))
      refine codeAny_mono (codeAny_call_builtin (R := wants (fun r s₂ => r = .none ∧ ∃ h' tk es, s₂ = { s with heap := h', toks := tk } ∧ SetE P w ks h' s.heap.objs.size es ∧ (∀ b o, s.heap.get? b = some o → h'.get? b = some o)) E)
        F.called_set.init.plain F.entry_set_init (check_set_init_1 hT ?_)) fun r₂ s₂ hr₂ => ?_
      · obtain ⟨ol, hol, hcl, nl, hdl⟩ := hl
        obtain ⟨ocls, odict, odata, oslots⟩ := ol
        simp only at hcl hdl
        subst hcl; subst hdl
        have hol' : (s.heap.push (freshSet w)).get? l = some { cls := .type "tuple", dict := odict, data := .seq items nl, slots := oslots } := Heap.get?_push_of_some _ hol
        have hsls := F.sub_tuple_set
        have hslf := F.sub_tuple_frozenset
        have hne : (Value.type "tuple" == Value.type "dict") = false := by decide
        have hl1 : (s.heap.push (freshSet w)).IsTuple l items := ⟨_, hol', rfl, nl, rfl⟩
        unfold Builtin.«set.__init__» noKeywords Builtin.Frozenset.updateFrom
        generalize hPI : pyIter = PI
        wp_walk
        subst hPI
        refine wpAny_pyIter_tuple hl1 ?_
        refine wpAny_bind (wpAny_runValue ?_)
        have hlS : l < s.heap.objs.size := Heap.lt_size hol
        have hh3 : A.in1.in1.in1.handled = none := by simp [hh]
        have hz1 : (s.heap.push (freshSet w)).objs.size = s.heap.objs.size + 1 := Heap.size_push ..
        have hneI : l ≠ (s.heap.push (freshSet w)).objs.size := by
          rw [Heap.size_push]; exact Nat.ne_of_lt (Nat.lt_succ_of_lt hlS)
        have hSf : s.heap.objs.size ∉ [(s.heap.push (freshSet w)).objs.size, l] := by
          rw [Heap.size_push]; simp only [List.mem_cons, List.mem_singleton, List.not_mem_nil, or_false, not_or]
          exact ⟨Nat.ne_of_lt (Nat.lt_succ_self _), Nat.ne_of_gt hlS⟩
        have hval : ∀ (i : Nat) (v : Value), items[i]? = some v → ∃ p ∈ ks, v = .ref p.1 := fun i v hv => by
          have q : v ∈ items.toList := by rw [Array.mem_toList_iff]; exact Array.mem_of_getElem? hv
          rw [hit] at q
          obtain ⟨p, hp, e⟩ := List.mem_map.mp q
          exact ⟨p, hp, e.symm⟩
        have none_of : ∀ b, s.heap.objs.size ≤ b → s.heap.get? b = none := fun b hb => by
          cases q : s.heap.get? b with
          | none => rfl
          | some o => exact absurd (Nat.lt_of_lt_of_le (Heap.lt_size q) hb) (Nat.lt_irrefl _)
        refine updateLoop ((Walks.tuple hh3 _ l hneI items).toS) s.heap.objs.size
          hSf ks (by rw [hisz]; exact hfew) hval s.heap hk (none_of _ (Nat.le_refl _)) (fun b hb => none_of b (by
            rw [List.mem_singleton.mp hb, Heap.size_push]
            exact Nat.le_succ _)) (by show A.units + 1 + 1 + 1 + 20 < cLine; omega) (items.size - 0) 0 _ (by omega) (Nat.zero_le _)
          ⟨⟨_, Heap.get?_push_size _ rfl, rfl, rfl⟩, (hl1.push _)⟩ (fun b o e => Heap.get?_push_of_some _ (Heap.get?_push_of_some _ e)) ?hS0 ?hR
        case hS0 =>
          have hget : ((s.heap.push (freshSet w)).push { cls := .type "tuple_iterator", data := .fields #[.ref l, .int 0 0] }).get? s.heap.objs.size = some (freshSet w) := Heap.get?_push_of_some _ hS
          exact ⟨#[], setE_fresh hget, Nat.le_refl 0⟩
        case hR =>
          intro s' es hm hS' hkp
          obtain ⟨h', g2, d', tk', os'⟩ := s'
          have eg : g2 = s.gens := hm.gens
          have ed : d' = s.drawn := hm.drawn
          have eo : os' = s.os := hm.os
          subst eg; subst ed; subst eo
          show wpAny _ _ _ _ _ _
          refine wpAny_pure ?_
          show wpAny _ _ (ret Value.none) _ _ _
          exact wpAny_pure ⟨rfl, h', tk', es, rfl, hS', hkp⟩
      · cases r₂ with
        | error e => exact hr₂
        | ok fl₂ =>
          cases fl₂ with
          | ret r =>
            obtain ⟨rfl, h', tk, es, rfl, hS', hk'⟩ := hr₂
            repeat (any_goals (first | assumption | wp_step))
            exact h _ _ _ hS' hk'
          | _ => exact hr₂.elim
    | _ => exact hr.elim
end
end Kb
/-! set(t), sorted(set(t)) as rules by values. -/
namespace Kb
open PySem PySem.Spec PyProof.Rows L2

def SetEO (P : Program) (w : World) (ks : List AE) (a : Addr) : HO := .ext fun h => ∃ es, SetE P w ks h a es
theorem setEO_new {P : Program} {w : World} {ks : List AE} {H : Hp} {h : Heap} {a : Addr} {es : Array (Int × Value)} (R : SetE P w ks h a es) : ObjOk P w H h a (SetEO P w ks a) := by
  refine ⟨⟨es, R⟩, ?_, fun h1 h2 p k => ?_⟩
  · obtain ⟨ep, t, G⟩ := R.ok
    obtain ⟨o, ho, _⟩ := G.ob
    exact ⟨o, ho⟩
  · obtain ⟨es1, R1⟩ := p
    exact ⟨es1, R1.keep k⟩
section
variable {X : Cx}
def rSetE (K : PySem.W.Frag) (P : Program) (w : World) : List V → Hp → VK → Prop := fun xs H Q => ∃ (l : Addr) (ks : List AE), xs = [V.ref l] ∧ SqT K H l (ks.map fun k => V.ref k.1) ∧ (∀ k ∈ ks, EntH H k.1 k.2) ∧ ks.length < 63 ∧
  ∀ a, H a = none → Q (.ref a) (upd H a (SetEO P w ks a))
theorem cr_setE (hc : X.calm = true) (hu : X.A.units + 40 < cLine) : CallR X (.type "set") (rSetE X.K X.prog X.w) := by
  intro pins s σ H xs us Q I r h
  obtain ⟨l, ks, rfl, hl, hk, hf, q⟩ := h
  rw [Vals.ref1 r]
  obtain ⟨its, rv, pt, hz⟩ := I.tuple hl
  refine callSetE (P := X.prog) (w := X.w) ks (I.ok.hd hc) (show s.heap.IsTuple l its.toArray from pt) (by simpa using refsVals rv) (fun p hp => isNk I.hok (hk p hp)) hf hu fun h' tk es R k => ?_
  exact ⟨.ref s.heap.objs.size, upd H s.heap.objs.size (SetEO X.prog X.w ks s.heap.objs.size), I.laid (t' := tk) k (Nat.le_refl _) (setEO_new R), rfl, q _ (I.hok.fresh (Nat.le_refl _))⟩
theorem pickRows {P : Program} {w : World} {ks : List AE} : ∀ l : List (Int × Value), (∀ r ∈ l, ∃ p ∈ ks, r = (eh P w p.2, Value.ref p.1)) → ∃ ks1 : List AE, (l.map (·.2)) = ks1.map (fun k => Value.ref k.1) ∧ ∀ k ∈ ks1, k ∈ ks
  | [], _ => ⟨[], rfl, fun k hk => (by cases hk)⟩
  | r :: l, h => by
    obtain ⟨p, hp, e⟩ := h r List.mem_cons_self
    obtain ⟨ks1, e1, h1⟩ := pickRows l fun x hx => h x (List.mem_cons_of_mem _ hx)
    refine ⟨p :: ks1, by rw [List.map_cons, List.map_cons, e1, e], fun k hk => ?_⟩
    rcases List.mem_cons.mp hk with z | z
    · rw [z]; exact hp
    · exact h1 k z
/-- a permutation of addresses comes from one of the entries -/
theorem liftPerm : ∀ (vs : List Value) (ks : List AE), vs.Perm (ks.map fun k => Value.ref k.1) → ∃ ks1 : List AE, vs = ks1.map (fun k => Value.ref k.1) ∧ ks1.Perm ks := by
  intro vs ks h
  generalize hm : (ks.map fun k => Value.ref k.1) = us at h
  induction h generalizing ks with
  | nil =>
    cases ks with
    | nil => exact ⟨[], rfl, List.Perm.refl _⟩
    | cons k ks => simp at hm
  | @cons x l1 l2 _ ih =>
    cases ks with
    | nil => simp at hm
    | cons k ks =>
      rw [List.map_cons] at hm
      injection hm with e1 e2
      obtain ⟨ks1, a, b⟩ := ih ks e2
      exact ⟨k :: ks1, by rw [List.map_cons, e1, a], b.cons k⟩
  | @swap x y l =>
    cases ks with
    | nil => simp at hm
    | cons k ks =>
      cases ks with
      | nil => simp at hm
      | cons k2 ks =>
        rw [List.map_cons, List.map_cons] at hm
        injection hm with e1 e2
        injection e2 with e2 e3
        exact ⟨k2 :: k :: ks, by rw [List.map_cons, List.map_cons, e1, e2, e3], List.Perm.swap _ _ _⟩
  | @trans l1 l2 l3 _ _ ih1 ih2 =>
    obtain ⟨ks2, a, b⟩ := ih2 ks hm
    obtain ⟨ks1, a1, b1⟩ := ih1 ks2 a.symm
    exact ⟨ks1, a1, b1.trans b⟩
def rSortSetE (P : Program) (w : World) : List V → Hp → VK → Prop := fun vs H Q => ∃ (a : Addr) (ks : List AE), vs = [V.ref a] ∧ H a = some (SetEO P w ks a) ∧ (∀ k ∈ ks, EntH H k.1 k.2) ∧
  ∀ (ks' : List AE) (p : Addr), (∀ k ∈ ks', k ∈ ks) → ks'.length < 64 → H p = none → Q (.ref p) (upd H p (.lst (ks'.map fun k => V.ref k.1)))
theorem cr_sortSetE (hc : X.calm = true) (hu : X.A.units + 20 < cLine) : CallR X (.builtin "sorted") (rSortSetE X.prog X.w) := by
  intro pins s σ H vs us Q I r h
  obtain ⟨a, ks, rfl, ha, hk, q⟩ := h
  rw [Vals.ref1 r]
  obtain ⟨es, R⟩ := (show ∃ es, SetE X.prog X.w ks s.heap a es from (I.hok a _ ha).1)
  obtain ⟨ep, t, G⟩ := R.ok
  obtain ⟨ks1, e1, h1⟩ := pickRows es.toList R.sub
  have hl1 : ks1.length = es.size := by
    have z := congrArg List.length e1
    rw [List.length_map, List.length_map, Array.length_toList] at z
    exact z.symm
  have hfew := G.few
  have hl : ks1.length ≤ sizeLine := by rw [sizeLine_eq]; omega
  refine sortedCore (ks := ks1) hu hl (fun R hR => ?_) (fun k hkm => readsE I.hok (hk k (h1 k hkm))) fun s1 s' p out c ks' k1 g1 o1 k g o hp hg hout pm => ?_
  · obtain ⟨ob, ho, hex, hd⟩ := G.ob
    refine collect_set (A := X.A.in1) (I.ok.hd hc) ⟨ob, ho, hex.1, hd⟩ G.fits (by unfold scanBound; omega) G.tab.ris G.led fun s1 vs k1 hz g1 o1 pm => ?_
    rw [e1] at pm
    obtain ⟨ks2, a1, a2⟩ := liftPerm vs ks1 pm
    exact hR s1 vs ks2 k1 g1 o1 a1 a2
  · exact sortedEnd I k1 g1 o1 k g o hp hg hout (by rw [pm.length_eq]; exact hl) fun hn => q ks' p (fun x hx => h1 x (pm.mem_iff.mp hx)) (by rw [pm.length_eq]; omega) hn
end
end Kb
/-! enumerate(tuple), zip(tuple, list): iterators of new pairs. -/
namespace Kb
open PySem PySem.Spec PyProof.Rows L2
section
theorem meets_enumB {v : Value} {o : Obj} {H : Heap → Prop} (B : Begins v o H) :
    Meets (Builtin.«enumerate.__new__» ⟨[.type "enumerate", v], []⟩) (fun _ R s => H s.heap ∧
      R (.ok (.ret (.ref (s.heap.push o).objs.size))) { s with heap := (s.heap.push o).push { cls := .type "enumerate", data := .fields #[.none, .bool false, .ref s.heap.objs.size, rawInt 0, .none, .none] } }) :=
  .of_wp fun prog w A R s h => by
    obtain ⟨hp, g, d, tk, os⟩ := s; obtain ⟨h1, h⟩ := h
    have hsub := sub_enumerate
    have q1 : ∀ {A' : Around} {E : Value → Shared → Prop} {Q : Value → Shared → Prop}, Q (.ref hp.objs.size) ⟨hp.push o, g, d, tk, os⟩ → wpAny (model prog w) A' (pyIter v) Q E ⟨hp, g, d, tk, os⟩ :=
      fun q => B.iter prog w _ _ ⟨hp, g, d, tk, os⟩ _ h1 q
    wp_walk using q1
    refine wpAny_stack_any fun st => wpAny_pure ?_
    split
    · rename_i c _ _ _ _ _
      cases (c == Value.type "enumerate")
      · wp_walk using q1
        exact ⟨_, rfl, h⟩
      · wp_walk using q1
        exact ⟨_, rfl, h⟩
    · wp_walk using q1
      exact ⟨_, rfl, h⟩
variable {prog : Program} {w : World} {A : Around} {E : Value → Shared → Prop} {s : Shared}
theorem call_enumB {v : Value} {o : Obj} {H : Heap → Prop} {Q : Value → Shared → Prop} (B : Begins v o H) (h1 : H s.heap)
    (h : ∀ h', IsEnum h' (s.heap.objs.size + 1) s.heap.objs.size 0 .none → h'.get? s.heap.objs.size = some o → h'.objs.size = s.heap.objs.size + 2 →
      (∀ b o, s.heap.get? b = some o → h'.get? b = some o) → Q (.ref (s.heap.objs.size + 1)) { s with heap := h' }) :
    wpAny (model prog w) A (call (.type "enumerate") [v]) Q E s := by
  refine callType_new F.called_enumerate (by decide) (F.typeCall_enumerate_1 _) (F.newCall_enumerate_1 _) (fun obj => F.args_object_init_2 obj _) F.entry_enumerate_new
    (meets_enumB B) ⟨h1, ?_⟩
  have hz : (s.heap.push o).objs.size = s.heap.objs.size + 1 := Heap.size_push ..
  show _ ∧ _
  rw [hz]
  have he : IsEnum ((s.heap.push o).push { cls := .type "enumerate", data := .fields #[.none, .bool false, .ref s.heap.objs.size, rawInt 0, .none, .none] }) (s.heap.objs.size + 1) s.heap.objs.size 0 .none := by
    have := Heap.get?_push_size (s.heap.push o) (o := { cls := .type "enumerate", data := .fields #[.none, .bool false, .ref s.heap.objs.size, rawInt 0, .none, .none] }) rfl
    rw [hz] at this; exact this
  refine ⟨⟨_, he, rfl⟩, h _ he (Heap.get?_push_of_some _ (Heap.get?_push_size _ B.free)) (by rw [Heap.size_push, hz]) fun b o x => Heap.get?_push_of_some _ (Heap.get?_push_of_some _ x)⟩
end
/-- the tuple at a, each item in a new pair -/
def IteT (K : PySem.W.Frag) (a : Addr) : It :=
  ⟨fun i H => ∃ (xs : List V) (x : V), SqT K H a xs ∧ xs[i]? = some x, fun i H v H' => ∃ T x, v = .ref T ∧ H T = none ∧ H' = upd H T (.tup [.int (i : Nat), x]) ∧ ∀ xs, SqT K H a xs → xs[i]? = some x, fun i H => ∃ xs : List V, SqT K H a xs ∧ xs.length = i⟩
theorem turn_enumT {P : Program} {w : World} {K : PySem.W.Frag} {elts : List Expr} {kk : Nat} {tpos : Pos} (a e it : Addr) (hne : e ≠ it) (hai : a ≠ it) (hae : a ≠ e) :
    Turn P w K (.Tuple elts kk tpos) (IteT K a) [e, it] e (fun i h => (∃ old, IsEnum h e it ((i : Nat) : Int) old) ∧ h.IsTupleIter it a i) where
  mem := by simp
  obj := fun i h st b hb => by
    obtain ⟨⟨old, he⟩, ⟨o, ho, hc, hd⟩⟩ := st
    have e' : b = e ∨ b = it := by simpa using hb
    rcases e' with z | z
    · rw [z]; exact ⟨_, he, fun v q => nomatch q⟩
    · rw [z]; exact ⟨o, ho, fun v q => by rw [hd] at q; cases q⟩
  keep := fun i h h' st k => let ⟨⟨old, he⟩, hi⟩ := st; ⟨⟨old, k e (by simp) _ he⟩, hi.at fun o q => k it (by simp) o q⟩
  item := by
    intro X hP hw hK hc i pins s σ H E I hf st hg
    subst hP hw hK
    obtain ⟨⟨old, he⟩, hit⟩ := st
    obtain ⟨xs, x, hq, hx⟩ := hg
    obtain ⟨its, rv, p, hz⟩ := I.tuple hq
    obtain ⟨u, hu, ru⟩ := rv.get hx
    have hel : e < s.heap.objs.size := Heap.lt_size he
    have hil : it < s.heap.objs.size := by obtain ⟨_, q, _⟩ := hit; exact Heap.lt_size q
    have D := Draws.tuple (prog := X.prog) (w := X.w) (A := X.A.in1) (I.ok.hd hc) it a hai its.toArray
    have G := GoesN.enumFrom (A := X.A) (elts := elts) (x1 := kk) (pos := tpos) 0 D e hne (by simp [hne, Ne.symm hae]) (by simp)
    have hlt : i < its.toArray.size := by
      obtain ⟨h1, _⟩ := List.getElem?_eq_some_iff.mp hu
      simpa using h1
    refine G.goes i s (fun u s2 => ∃ x H', Inv X pins σ H' s2 ∧ RelV x u ∧ (IteT X.K a).yld i H x H' ∧ ((∃ old, IsEnum s2.heap e it (((i + 1 : Nat)) : Int) old) ∧ s2.heap.IsTupleIter it a (i + 1)) ∧ ∀ b ∈ [e, it], H' b = none) E hlt ⟨⟨old, by rw [Int.zero_add]; exact he⟩, hit, p⟩ ?_
    rintro v h' tk ⟨T, t, y, rfl, hT, hy, hTup⟩ ⟨⟨old', he'⟩, hit', _⟩ hk htk
    have ey : y = u := by
      have h1 : its[i]? = some y := by simpa using hy
      exact Option.some.inj (h1.symm.trans hu)
    subst ey
    rw [Int.zero_add] at hTup he'
    have new : ObjOk X.prog X.w (upd H T (.tup [.int (i : Nat), x])) h' T (.tup [.int (i : Nat), x]) :=
      ⟨by show 2 ≤ sizeLine; decide, [.int i t, y], .cons ⟨_, rfl⟩ (.cons ru .nil), hTup⟩
    have I1 : Inv X pins σ (upd H T (.tup [.int (i : Nat), x])) { s with heap := h', toks := tk } :=
      I.turnedNew (ch := [e, it]) (fun b ob hb q => hk b ob hb q) hf hT new
    refine ⟨.ref T, _, I1, rfl, ⟨T, x, rfl, I.hok.fresh hT, rfl, fun ys hy => by rw [I.tuple_inj hy hq]; exact hx⟩, ⟨⟨old', he'⟩, hit'⟩, fun b hb => ?_⟩
    have hb' : b < s.heap.objs.size := by
      have e' : b = e ∨ b = it := by simpa using hb
      rcases e' with z | z
      · rw [z]; exact hel
      · rw [z]; exact hil
    rw [upd_ne (Nat.ne_of_lt (Nat.lt_of_lt_of_le hb' hT))]
    exact (hf b hb).1
  done := by
    intro X hP hw hK hc i pins s σ H E I hf st hg
    subst hP hw hK
    obtain ⟨⟨old, he⟩, hit⟩ := st
    obtain ⟨xs, hq, hx⟩ := hg
    obtain ⟨its, rv, p, hz⟩ := I.tuple hq
    have hl := rv.length
    have hn : i = its.toArray.size := by simp; omega
    have D := Draws.tuple (prog := X.prog) (w := X.w) (A := X.A.in1) (I.ok.hd hc) it a hai its.toArray
    have G := GoesN.enumFrom (A := X.A) (elts := elts) (x1 := kk) (pos := tpos) 0 D e hne (by simp [hne, Ne.symm hae]) (by simp)
    subst hn
    exact G.stops s _ E ⟨⟨old, by rw [Int.zero_add]; exact he⟩, hit, p⟩ fun h' tk hk htk => I.turnedL (t' := tk) (ch := [e, it]) (fun b o hb q => hk b o hb q) hf
  self := fun A i s Q E st h => let ⟨⟨_, he⟩, _⟩ := st; wpAny_pyIter_enum he h
def iEnumT (K : PySem.W.Frag) (ta : TA) : TI := fun σ H R => ta σ H fun vs H1 => ∃ a xs, vs = [.ref a] ∧ SqT K H1 a xs ∧ R (IteT K a) H1
theorem pi_enumT {X : Cx} {e : Expr} {ta : TA} {p pos tpos : Pos} {elts : List Expr} {kk : Nat} (hg : Gl X "enumerate") (hm : X.mg "enumerate" = none) (ha : PA X [e] ta) (hs : starEach [e] X.env = [(false, eval e X.env)] := by rfl) :
    PI X (.Tuple elts kk tpos) (.Call (.Name "enumerate" p) [e] [] pos) (iEnumT X.K ta) := by
  refine ⟨fun pins s σ H R I h => ?_⟩
  refine Call_ (ld_blt I hg hm boot_enumerate (PyProof.Rows.callWith_type1 (thn (ha.run pos pins s σ H _ I h) fun us s1 ⟨vs, H1, I1, r1, q1⟩ => ?_) hs rfl))
  obtain ⟨a, xs, ex, hq, q⟩ := q1
  subst ex
  cases r1 with
  | cons r rr =>
    cases rr
    cases r
    obtain ⟨its, rv, p', hz⟩ := I1.tuple hq
    have hal : a < s1.heap.objs.size := by
      obtain ⟨o1, ho1, _⟩ := id p'
      exact Heap.lt_size ho1
    refine call_enumB (begins_tuple a its.toArray) p' fun h' he hit hsz hk => wpAny_pyIter_enum he ?_
    have I2 : Inv X pins σ H1 { s1 with heap := h' } := I1.kept (t' := s1.toks) hk
    refine ⟨s1.heap.objs.size + 1, [s1.heap.objs.size + 1, s1.heap.objs.size], _, _, H1, rfl, I2, turn_enumT a (s1.heap.objs.size + 1) s1.heap.objs.size (Nat.succ_ne_self _) (Nat.ne_of_lt hal) (Nat.ne_of_lt (Nat.lt_succ_of_lt hal)), ⟨⟨.none, he⟩, ⟨_, hit, rfl, rfl⟩⟩, fun b hb => ?_, q⟩
    have e' : b = s1.heap.objs.size + 1 ∨ b = s1.heap.objs.size := by simpa using hb
    have hle : s1.heap.objs.size ≤ b := by
      rcases e' with z | z
      · rw [z]; exact Nat.le_add_right _ _
      · rw [z]; exact Nat.le_refl _
    exact I1.fpOk hle (I1.hok.fresh hle)
theorem walk_enumT {K : PySem.W.Frag} {a : Addr} {xs : List V} : Walk (IteT K a) xs.length (fun H => SqT K H a xs) (YPair (fun i => some (.int (i : Nat))) (fun i => xs[i]?)) := by
  refine ⟨fun i _ hi q => ⟨xs, xs[i], q, by simp [hi]⟩, fun _ q => ⟨xs, q, rfl⟩, fun i H v H' _ q y => ?_⟩
  obtain ⟨T, x, h1, h2, h3, h4⟩ := y
  exact ⟨T, .int (i : Nat), x, h1, h2, h3, rfl, h4 xs q⟩
theorem walk_zipT {K : PySem.W.Frag} {a b : Addr} {xs ys : List V} {n : Nat} (hn : n = min xs.length ys.length) : Walk (RZ.ItzT K a b) n (fun H => SqT K H a xs ∧ SqT K H b ys) (YPair (fun i => xs[i]?) (fun i => ys[i]?)) := by
  subst hn
  refine ⟨fun i _ hi q => ?_, fun _ q => ⟨xs, ys, q.1, q.2, by omega⟩, fun i H v H' _ q y => ?_⟩
  · have h1 : i < xs.length := by omega
    have h2 : i < ys.length := by omega
    exact ⟨xs, ys, xs[i], ys[i], q.1, q.2, by simp [h1], by simp [h2]⟩
  · obtain ⟨T, x, z, h1, h2, h3, h4, h5⟩ := y
    exact ⟨T, x, z, h1, h2, h3, h4 xs q.1, h5 ys q.2⟩
/-! ### zip(tuple, list) -/
def ItzM (K : PySem.W.Frag) (a b : Addr) : It :=
  ⟨fun i H => ∃ (xs ys : List V) (x y : V), SqT K H a xs ∧ SqL K H b ys ∧ xs[i]? = some x ∧ ys[i]? = some y,
    fun i H v H' => ∃ T x y, v = .ref T ∧ H T = none ∧ H' = upd H T (.tup [x, y]) ∧ (∀ xs, SqT K H a xs → xs[i]? = some x) ∧ ∀ ys, SqL K H b ys → ys[i]? = some y,
    fun i H => ∃ xs ys : List V, SqT K H a xs ∧ SqL K H b ys ∧ i = min xs.length ys.length⟩
theorem turn_zipM {P : Program} {w : World} {K : PySem.W.Frag} {elts : List Expr} {kk : Nat} {tpos : Pos} {a b N : Addr} (ha : a < N) (hb : b < N) :
    Turn P w K (.Tuple elts kk tpos) (ItzM K a b) [N + 4, N + 2, N + 3, N, N + 1] (N + 4) (fun i h => IsZip h (N + 4) (N + 2) (N + 3) .none ∧ IsTupOf2 h (N + 2) (.ref N) (.ref (N + 1)) ∧ (∃ x y, IsTupOf2 h (N + 3) x y) ∧ h.IsTupleIter N a i ∧ h.IsListIter (N + 1) b i) where
  mem := by simp
  obj := fun i h st c hc => by
    obtain ⟨hz, hTI, ⟨x, y, hTO⟩, ⟨o1, e1, _, d1⟩, ⟨o2, e2, _, d2⟩⟩ := st
    have e' : c = N + 4 ∨ c = N + 2 ∨ c = N + 3 ∨ c = N ∨ c = N + 1 := by simpa using hc
    rcases e' with q | q | q | q | q
    · rw [q]; exact ⟨_, hz, fun v q => nomatch q⟩
    · rw [q]; exact ⟨_, hTI, fun v q => nomatch q⟩
    · rw [q]; exact ⟨_, hTO, fun v q => nomatch q⟩
    · rw [q]; exact ⟨o1, e1, fun v q => by rw [d1] at q; cases q⟩
    · rw [q]; exact ⟨o2, e2, fun v q => by rw [d2] at q; cases q⟩
  keep := fun i h h' st k => by
    obtain ⟨hz, hTI, ⟨x, y, hTO⟩, h1, h2⟩ := st
    exact ⟨k _ (by simp) _ hz, k _ (by simp) _ hTI, ⟨x, y, k _ (by simp) _ hTO⟩, h1.at fun o q => k N (by simp) o q, h2.at fun o q => k (N + 1) (by simp) o q⟩
  item := by
    intro X hP hw hK hc i pins s σ H E I hf st hg
    subst hP hw hK
    obtain ⟨hz, hTI, ⟨x0, y0, hTO⟩, h1, h2⟩ := st
    obtain ⟨xs, ys, x, y, hqx, hqy, hx, hy⟩ := hg
    obtain ⟨its, rv, p, _⟩ := I.tuple hqx
    obtain ⟨its2, rv2, p2, _⟩ := I.list hqy
    obtain ⟨u, hu, ru⟩ := rv.get hx
    obtain ⟨u2, hu2, ru2⟩ := rv2.get hy
    have D1 := Draws.tuple (prog := X.prog) (w := X.w) (A := X.A.in1) (I.ok.hd hc) N a (Nat.ne_of_lt ha) its.toArray
    have D2 := Draws.list (prog := X.prog) (w := X.w) (A := X.A.in1) (I.ok.hd hc) (N + 1) b (Nat.ne_of_lt (Nat.lt_succ_of_lt hb)) its2.toArray
    have G := GoesN.zip2 (A := X.A) (elts := elts) (x1 := kk) (pos := tpos) (zip_sep2 (N := N) (fp1 := [a]) (fp2 := [b]) (by simpa using ha) (by simpa using hb)) D1 D2
    have hlt : i < min its.toArray.size its2.toArray.size := by
      obtain ⟨z1, _⟩ := List.getElem?_eq_some_iff.mp hu
      obtain ⟨z2, _⟩ := List.getElem?_eq_some_iff.mp hu2
      simp
      omega
    refine G.goes i s (fun u s2 => ∃ x H', Inv X pins σ H' s2 ∧ RelV x u ∧ (ItzM X.K a b).yld i H x H' ∧ (IsZip s2.heap (N + 4) (N + 2) (N + 3) .none ∧ IsTupOf2 s2.heap (N + 2) (.ref N) (.ref (N + 1)) ∧ (∃ x y, IsTupOf2 s2.heap (N + 3) x y) ∧ s2.heap.IsTupleIter N a (i + 1) ∧ s2.heap.IsListIter (N + 1) b (i + 1)) ∧ ∀ b ∈ [N + 4, N + 2, N + 3, N, N + 1], H' b = none) E hlt ⟨hz, hTI, ⟨x0, y0, hTO⟩, ⟨h1, p⟩, ⟨h2, p2.isList⟩⟩ ?_
    rintro v h' tk ⟨T, v1, v2, rfl, hT, hy1, hy2, hTup⟩ ⟨hz', hTI', hTO', ⟨h1', _⟩, ⟨h2', _⟩⟩ hk htk
    have ey1 : v1 = u := by
      have h1 : its[i]? = some v1 := by simpa using hy1
      exact Option.some.inj (h1.symm.trans hu)
    have ey2 : v2 = u2 := by
      have h1 : its2[i]? = some v2 := by simpa using hy2
      exact Option.some.inj (h1.symm.trans hu2)
    subst ey1
    subst ey2
    have new : ObjOk X.prog X.w (upd H T (.tup [x, y])) h' T (.tup [x, y]) :=
      ⟨by show 2 ≤ sizeLine; decide, [v1, v2], .cons ru (.cons ru2 .nil), hTup⟩
    have I1 : Inv X pins σ (upd H T (.tup [x, y])) { s with heap := h', toks := tk } :=
      I.turnedNew (ch := [N + 4, N + 2, N + 3, N, N + 1]) (fun b ob hb q => hk b ob (fun z => hb (by
        simp only [List.mem_cons, List.not_mem_nil, or_false] at z ⊢
        rcases z with z | z | z | z
        · exact .inl z
        · exact .inr (.inr (.inl z))
        · exact .inr (.inr (.inr (.inl z)))
        · exact .inr (.inr (.inr (.inr z))))) q) hf hT new
    refine ⟨.ref T, _, I1, rfl, ⟨T, x, y, rfl, I.hok.fresh hT, rfl, fun l hl => by rw [I.tuple_inj hl hqx]; exact hx, fun l hl => by rw [I.list_inj hl hqy]; exact hy⟩, ⟨hz', hTI', hTO', h1', h2'⟩, fun c hcm => ?_⟩
    have hlt : c < s.heap.objs.size := by
      have e' : c = N + 4 ∨ c = N + 2 ∨ c = N + 3 ∨ c = N ∨ c = N + 1 := by simpa using hcm
      have hzl : N + 4 < s.heap.objs.size := Heap.lt_size hz
      have g : ∀ j : Nat, j ≤ 4 → N + j < s.heap.objs.size := fun j hj => Nat.lt_of_le_of_lt (Nat.add_le_add_left hj N) hzl
      rcases e' with q | q | q | q | q
      · rw [q]; exact hzl
      · rw [q]; exact g 2 (by decide)
      · rw [q]; exact g 3 (by decide)
      · rw [q]; exact g 0 (by decide)
      · rw [q]; exact g 1 (by decide)
    rw [upd_ne (Nat.ne_of_lt (Nat.lt_of_lt_of_le hlt hT))]
    exact (hf c hcm).1
  done := by
    intro X hP hw hK hc i pins s σ H E I hf st hg
    subst hP hw hK
    obtain ⟨hz, hTI, ⟨x0, y0, hTO⟩, h1, h2⟩ := st
    obtain ⟨xs, ys, hqx, hqy, hend⟩ := hg
    obtain ⟨its, rv, p, _⟩ := I.tuple hqx
    obtain ⟨its2, rv2, p2, _⟩ := I.list hqy
    have l1 := rv.length
    have l2 := rv2.length
    have hn : i = min its.toArray.size its2.toArray.size := by simp; omega
    have D1 := Draws.tuple (prog := X.prog) (w := X.w) (A := X.A.in1) (I.ok.hd hc) N a (Nat.ne_of_lt ha) its.toArray
    have D2 := Draws.list (prog := X.prog) (w := X.w) (A := X.A.in1) (I.ok.hd hc) (N + 1) b (Nat.ne_of_lt (Nat.lt_succ_of_lt hb)) its2.toArray
    have G := GoesN.zip2 (A := X.A) (elts := elts) (x1 := kk) (pos := tpos) (zip_sep2 (N := N) (fp1 := [a]) (fp2 := [b]) (by simpa using ha) (by simpa using hb)) D1 D2
    subst hn
    exact G.stops s _ E ⟨hz, hTI, ⟨x0, y0, hTO⟩, ⟨h1, p⟩, ⟨h2, p2.isList⟩⟩ fun h' tk hk htk => I.turnedL (t' := tk) (ch := [N + 4, N + 2, N + 3, N, N + 1]) (fun b o hb q => hk b o (fun z => hb (by
        simp only [List.mem_cons, List.not_mem_nil, or_false] at z ⊢
        rcases z with z | z | z | z
        · exact .inl z
        · exact .inr (.inr (.inl z))
        · exact .inr (.inr (.inr (.inl z)))
        · exact .inr (.inr (.inr (.inr z))))) q) hf
  self := fun A i s Q E st h => wpAny_pyIter_zip st.1 h
def iZipM (K : PySem.W.Frag) (ta : TA) : TI := fun σ H R => ta σ H fun vs H1 => ∃ a b xs ys, vs = [.ref a, .ref b] ∧ SqT K H1 a xs ∧ SqL K H1 b ys ∧ R (ItzM K a b) H1
theorem pi_zipM {X : Cx} {e e2 : Expr} {ta : TA} {p pos tpos : Pos} {elts : List Expr} {kk : Nat} (hg : Gl X "zip") (hm : X.mg "zip" = none) (ha : PA X [e, e2] ta)
    (hs : starEach [e, e2] X.env = (false, eval e X.env) :: starEach [e2] X.env := by rfl) (hpl : (backTo pos (starEach [e2] X.env)).any (·.1) = false := by rfl) :
    PI X (.Tuple elts kk tpos) (.Call (.Name "zip" p) [e, e2] [] pos) (iZipM X.K ta) := by
  refine ⟨fun pins s σ H R I h => ?_⟩
  refine Call_ (ld_blt I hg hm PyProof.Rows.boot_zip (PyProof.Rows.callWith_type1 (thn (ha.run pos pins s σ H _ I h) fun us s1 ⟨vs, H1, I1, r1, q1⟩ => ?_) hs hpl))
  obtain ⟨a, b, xs, ys, ex, hqx, hqy, q⟩ := q1
  subst ex
  cases r1 with
  | cons r rr =>
    cases rr with
    | cons r' rr =>
      cases rr
      cases r
      cases r'
      obtain ⟨its, rv, p1, _⟩ := I1.tuple hqx
      obtain ⟨its2, rv2, p2, _⟩ := I1.list hqy
      have hal : a < s1.heap.objs.size := by
        obtain ⟨o1, ho1, _⟩ := id p1
        exact Heap.lt_size ho1
      refine zip_begins2 (begins_tuple a its.toArray) (begins_list b its2.toArray) p1 p2.isList fun h' hz hTI hTO h1 h2 hsz hk => wpAny_pyIter_zip hz ?_
      have I2 : Inv X pins σ H1 { s1 with heap := h' } := I1.kept (t' := s1.toks) hk
      refine ⟨s1.heap.objs.size + 4, [s1.heap.objs.size + 4, s1.heap.objs.size + 2, s1.heap.objs.size + 3, s1.heap.objs.size, s1.heap.objs.size + 1], _, _, H1, rfl, I2, turn_zipM hal p2.lt, ⟨hz, hTI, ⟨_, _, hTO⟩, ⟨_, h1, rfl, rfl⟩, ⟨_, h2, rfl, rfl⟩⟩, fun c hcm => ?_, q⟩
      have e' : c = s1.heap.objs.size + 4 ∨ c = s1.heap.objs.size + 2 ∨ c = s1.heap.objs.size + 3 ∨ c = s1.heap.objs.size ∨ c = s1.heap.objs.size + 1 := by simpa using hcm
      have hle : s1.heap.objs.size ≤ c := by
        rcases e' with z | z | z | z | z
        · rw [z]; exact Nat.le_add_right _ _
        · rw [z]; exact Nat.le_add_right _ _
        · rw [z]; exact Nat.le_add_right _ _
        · rw [z]; exact Nat.le_refl _
        · rw [z]; exact Nat.le_add_right _ _
      exact I1.fpOk hle (I1.hok.fresh hle)
theorem walk_zipM {K : PySem.W.Frag} {a b : Addr} {xs ys : List V} {n : Nat} (hn : n = min xs.length ys.length) : Walk (ItzM K a b) n (fun H => SqT K H a xs ∧ SqL K H b ys) (YPair (fun i => xs[i]?) (fun i => ys[i]?)) := by
  subst hn
  refine ⟨fun i _ hi q => ?_, fun _ q => ⟨xs, ys, q.1, q.2, rfl⟩, fun i H v H' _ q y => ?_⟩
  · have h1 : i < xs.length := by omega
    have h2 : i < ys.length := by omega
    exact ⟨xs, ys, xs[i], ys[i], q.1, q.2, by simp [h1], by simp [h2]⟩
  · obtain ⟨T, x, z, h1, h2, h3, h4, h5⟩ := y
    exact ⟨T, x, z, h1, h2, h3, h4 xs q.1, h5 ys q.2⟩
end Kb
/-! Small rules: >= of entries, t[::-1], len(set(list)), repr of a bool. -/
namespace Kb
open PySem PySem.Spec PyProof.Rows L2
section
variable {X : Cx}
/-! ### near >= far, both entries -/
def geD (e e' : En) : Bool := !PySem.W.dataLt (encE e) (encE e')
def rGeE : R2 := fun x y H Q => ∃ a b e e', x = .ref a ∧ y = .ref b ∧ EntH H a e ∧ EntH H b e' ∧ Q (.bl (geD e e')) H
theorem op_geE (hu : X.A.units + 20 < cLine) : OpR X (compareOp .GtE) rGeE := by
  intro pins s σ H x y v u Q I rx ry h
  obtain ⟨a, b, e, e', rfl, rfl, h1, h2, q⟩ := h
  cases rx
  cases ry
  refine PySem.W.ge_data (readsE I.hok h1) (readsE I.hok h2) (alikeE e e') (by intro z; cases z) ?_ ⟨.bl _, H, I, rfl, q⟩
  have := depthE e
  omega
/-! ### t[::-1] -/
theorem adjust_rev (n : Nat) : Builtin.Slice.sliceAdjust none none (-1) (n : Int) = ((n : Int) - 1, -1) := rfl
theorem places_rev (n : Nat) : Builtin.Slice.slicePlaces ((n : Int) - 1) (-1) (-1) = n := by
  unfold Builtin.Slice.slicePlaces
  have h1 : ¬ ((-1 : Int) > 0) := by decide
  simp only [h1, if_false]
  by_cases h : (n : Int) - 1 > -1
  · simp only [h, if_true]
    rw [show (- -1 : Int) = 1 by decide, Int.ediv_one]
    omega
  · simp only [h, if_false]
    have e : n = 0 := by omega
    subst e
    rfl
theorem pick_rev (xs : Array Value) : ((List.range xs.size).filterMap fun (m : Nat) => xs[(((xs.size : Int) - 1) + (m : Int) * (-1)).toNat]?).toArray = xs.toList.reverse.toArray := by
  have e : (List.range xs.size).filterMap (fun (m : Nat) => xs[(((xs.size : Int) - 1) + (m : Int) * (-1)).toNat]?) = ((List.range xs.size).map fun k => xs.size - 1 - k).filterMap (xs[·]?) := by
    rw [List.filterMap_map]
    have g : ∀ l : List Nat, (∀ m ∈ l, m < xs.size) → l.filterMap (fun (m : Nat) => xs[(((xs.size : Int) - 1) + (m : Int) * (-1)).toNat]?) = l.filterMap ((fun x => xs[x]?) ∘ fun k => xs.size - 1 - k) := by
      intro l
      induction l with
      | nil => intro _; rfl
      | cons m l ih =>
        intro hl
        have hlt := hl m List.mem_cons_self
        have e : (((xs.size : Int) - 1) + (m : Int) * (-1)).toNat = xs.size - 1 - m := by omega
        rw [List.filterMap_cons, List.filterMap_cons, ih fun k hk => hl k (List.mem_cons_of_mem _ hk)]
        rw [e]
        rfl
    exact g _ fun m hm => List.mem_range.mp hm
  rw [e, PySem.W.krv_range, List.filterMap_reverse, PySem.W.krv_all]
section
variable {prog : Program} {w : World} {A : Around} {E : Value → Shared → Prop} {s : Shared}
theorem sliceApplied_rev {sl : Addr} {t : Tok} {n : Nat} {Q : Int × Int × Nat → Shared → Prop} (hs : s.heap.IsSliceOf sl .none .none (.int (-1) t))
    (h : Q ((n : Int) - 1, -1, n) s) : wpAny (model prog w) A (Builtin.Slice.sliceApplied (.ref sl) (pure (n : Int))) Q E s := by
  obtain ⟨os, hos, hcs, hds⟩ := id hs
  unfold Builtin.Slice.sliceApplied Builtin.Slice.sliceFields
  refine wpAny_bind (wpAny_bind (wpAny_field hos hds (x := .none) rfl (wpAny_bind (wpAny_field hos hds (x := .none) rfl (wpAny_bind (wpAny_field hos hds (x := .int (-1) t) rfl (wpAny_pure ?_)))))))
  refine wpAny_bind (slicePart_int ?_)
  show wpAny _ _ (if ((-1 : Int) == 0) = true then _ else _) _ _ s
  rw [if_neg (by decide)]
  refine wpAny_bind (slicePart_none (wpAny_bind (slicePart_none (wpAny_bind (wpAny_pure ?_)))))
  show wpAny _ _ (match Builtin.Slice.sliceAdjust none none (-1) (n : Int) with | (lo, hi) => pure (lo, (-1 : Int), Builtin.Slice.slicePlaces lo hi (-1))) _ _ s
  rw [adjust_rev n]
  show wpAny _ _ (pure ((n : Int) - 1, (-1 : Int), Builtin.Slice.slicePlaces ((n : Int) - 1) (-1) (-1))) _ _ s
  rw [places_rev]
  exact wpAny_pure h
theorem getItem_tuple_rev {t sl : Addr} {items : Array Value} {tk : Tok} {Q : Value → Shared → Prop} (ht : PyProof.Rows.IsTup s.heap t items) (hs : s.heap.IsSliceOf sl .none .none (.int (-1) tk))
    (h : Q (.ref s.heap.objs.size) { s with heap := s.heap.push { cls := .type "tuple", data := .seq items.toList.reverse.toArray } })
    (hsz : items.size ≤ sizeLine) : wpAny (model prog w) A (getItem (.ref t) (.ref sl)) Q E s := by
  have htake : sizeOk (.seq items.toList.reverse.toArray) := by
    show items.toList.reverse.toArray.size ≤ sizeLine
    rw [List.size_toArray, List.length_reverse, Array.length_toList]
    omega
  obtain ⟨os, hos, hcs, hds⟩ := id hs
  have hTs : s.TypeIs (.ref sl) "slice" := ⟨os, hos, hcs⟩
  unfold getItem
  try with_reducible refine wpAny_holding ?_
  first | refine wpAny_bind (wpAny_pure ?_) | skip
  refine wpAny_bind (wpAny_sequenceKey ht.typeIs (by decide) ?_)
  refine wpAny_bind (wpAny_callSpecial?_slot (name := Str.ofString "__getitem__") ht.typeIs PyProof.Rows.slot_tuple_getitem
    (wpAny_call_entry PyProof.Rows.slot_tuple_getitem ht.typeIs entry_tuple_getitem ?_ (args_tuple_getitem _ _)))
  show wpAny _ _ (Builtin.Tuple.tupleItemsOf (.ref t) >>= _) _ _ s
  refine wpAny_bind (tupleItemsOf_ ht ?_)
  refine wpAny_bind (wpAny_typeOf hTs ?_)
  rw [if_pos (by decide)]
  refine wpAny_bind (sliceApplied_rev hs ?_)
  have hno : ¬ ((((items.size : Int) - 1) == 0 && (-1 : Int) == 1 && items.size == items.size) = true) := by
    intro q
    rw [Bool.and_eq_true, Bool.and_eq_true] at q
    exact absurd q.1.2 (by decide)
  show wpAny _ _ (if (((items.size : Int) - 1) == 0 && (-1 : Int) == 1 && items.size == items.size) = true then _ else _) _ _ s
  rw [if_neg hno, pick_rev]
  first
    | exact wpAny_bind (m := Builtin.Tuple.tupleExact _) (wpAny_newObj_type (wpAny_pure ⟨_, rfl, wpAny_pure h⟩) htake)
    | exact wpAny_bind (m := Builtin.Tuple.tupleExact _) (wpAny_newObj_type (wpAny_bind (wpAny_pure (wpAny_pure ⟨_, rfl, wpAny_pure h⟩))) htake)
    | exact wpAny_bind (wpAny_bind (m := Builtin.Tuple.tupleExact _) (wpAny_newObj_type (wpAny_pure (wpAny_pure ⟨_, rfl, wpAny_pure h⟩)) htake))
    | exact wpAny_bind (wpAny_bind (m := Builtin.Tuple.tupleExact _) (wpAny_newObj_type (wpAny_pure ⟨_, rfl, wpAny_pure h⟩) htake))
end
def tRevT (K : PySem.W.Frag) (te : TE) : TE := fun σ H Q => te σ H fun x H1 => ∃ a xs, x = .ref a ∧ SqT K H1 a xs ∧ ∀ p, H1 p = none → Q (.ref p) (upd H1 p (.tup xs.reverse))
theorem pe_revT {e : Expr} {te : TE} {k : Nat} {p1 p2 p3 pos : Pos} (he : PE X e te) : PE X (.Subscript e (.Slice none none (some (.UnaryOp .USub (.Constant (.int 1) k p1) p2)) p3) pos) (tRevT X.K te) := by
  refine ⟨fun pins s σ H Q I h => ?_⟩
  refine Subscript_ (thn (he.run pins s σ H _ I h) fun v s1 ⟨x, H1, I1, r1, q1⟩ => ?_)
  obtain ⟨a, xs, ex, hx, q⟩ := q1
  subst ex
  cases r1
  have hst : PO X (some (.UnaryOp .USub (.Constant (.int 1) k p1) p2)) (tPart (tUn (rU fun i => .int (-i)) (tC (.int 1)))) := po_some (pe_un un_neg pe_int)
  refine wpAny_Slice (thn (po_none.run pins s1 σ H1 (fun o H2 => o = none ∧ H2 = H1) I1 ⟨rfl, rfl⟩) fun vl s2 ⟨l, H2, I2, pl, el, e2⟩ => ?_)
  subst el e2
  refine thn (po_none.run pins s2 σ H2 (fun o H3 => o = none ∧ H3 = H2) I2 ⟨rfl, rfl⟩) fun vu s3 ⟨u, H3, I3, pu, eu, e3⟩ => ?_
  subst eu e3
  refine thn (hst.run pins s3 σ H3 (fun o H4 => o = some (-1) ∧ H4 = H3) I3 ⟨1, rfl, -1, rfl, rfl, rfl⟩) fun vs s4 ⟨o, H4, I4, ps, eo, e4⟩ => ?_
  subst eo e4
  have I5 : Inv X pins σ H4 { s4 with heap := s4.heap.push { cls := .type "slice", data := .fields #[vl, vu, vs] } } := I4.kept (t' := s4.toks) fun b ob q => Heap.get?_push_of_some _ q
  obtain ⟨its, r, ht, hz⟩ := I5.tuple hx
  have hlen := r.length
  show wpAny (model X.prog X.w) X.A (subscriptTail e (.Slice none none (some (.UnaryOp .USub (.Constant (.int 1) k p1) p2)) p3) (.ref a) (.ref s4.heap.objs.size)) (EP X pins σ Q) X.xe { s4 with heap := s4.heap.push { cls := .type "slice", data := .fields #[vl, vu, vs] } }
  refine tail_any (ops := [.ref a, .ref s4.heap.objs.size]) ht.typeIs (PyProof.Rows.slot_tuple_getitem.lookup) ?_ (by with_unfolding_all rfl)
  cases pl
  cases pu
  cases ps with
  | int i t =>
    refine getItem_tuple_rev ht (Heap.IsSliceOf.new _ .none .none _) ?_ (by rw [List.size_toArray]; omega)
    refine ⟨.ref _, _, I5.laid (t' := s4.toks) (o := .tup xs.reverse) (fun b ob q => Heap.get?_push_of_some _ q) (Nat.le_refl _) ?_, rfl, q _ (I5.hok.fresh (Nat.le_refl _))⟩
    exact ⟨by rw [List.length_reverse]; exact hz, _, r.reverse, ⟨_, Heap.get?_push_size _ rfl, rfl, _, rfl⟩⟩
/-! ### len(set(xs)) -/
theorem two_of {l : List Int} (nd : l.Nodup) (h : ∀ x ∈ l, x = 0 ∨ x = 1) : l.length = 2 ↔ (0 ∈ l ∧ 1 ∈ l) := by
  match l, nd, h with
  | [], _, _ => simp
  | [a], _, _ =>
    simp
    intro h1 h2
    omega
  | [a, b], nd, h =>
    have ha := h a (by simp)
    have hb := h b (by simp)
    have hab : a ≠ b := by
      intro e
      subst e
      simp at nd
    simp
    rcases ha with rfl | rfl <;> rcases hb with rfl | rfl <;> simp_all
  | a :: b :: c :: r, nd, h =>
    exfalso
    have ha := h a (by simp)
    have hb := h b (by simp)
    have hc := h c (by simp)
    simp only [List.nodup_cons, List.mem_cons, not_or] at nd
    omega
theorem firstMet_nd (val : Nat → Int) : ∀ i, (firstMet val i).Nodup
  | 0 => by rw [firstMet_zero]; exact List.nodup_nil
  | i + 1 => by
    rw [firstMet_succ]
    unfold step_dedup
    have ih := firstMet_nd val i
    split
    · exact ih
    · rename_i hno
      rw [List.nodup_append]
      refine ⟨ih, by simp, fun a ha b hb => ?_⟩
      simp at hb
      subst hb
      intro e
      subst e
      exact hno (List.any_eq_true.mpr ⟨_, ha, by simp⟩)
theorem firstMet_two {ns : List Int} (h : ∀ x ∈ ns, x = 0 ∨ x = 1) : (firstMet (fun i => ns.getD i 0) ns.length).length = 2 ↔ (0 ∈ ns ∧ 1 ∈ ns) := by
  have hm : ∀ k : Int, k ∈ firstMet (fun i => ns.getD i 0) ns.length ↔ k ∈ ns := fun k => by
    have e := firstMet_any (fun i => ns.getD i 0) ns.length k
    have e2 : (List.range ns.length).map (fun i => ns.getD i 0) = ns := by
      refine List.ext_getElem (by simp) fun i h1 h2 => ?_
      simp [List.getElem?_eq_getElem h2]
    rw [e2] at e
    constructor
    · intro hk
      have : (firstMet (fun i => ns.getD i 0) ns.length).any (· == k) = true := List.any_eq_true.mpr ⟨k, hk, by simp⟩
      rw [e] at this
      obtain ⟨y, hy, ey⟩ := List.any_eq_true.mp this
      rw [← eq_of_beq ey]
      exact hy
    · intro hk
      have : ns.any (· == k) = true := List.any_eq_true.mpr ⟨k, hk, by simp⟩
      rw [← e] at this
      obtain ⟨y, hy, ey⟩ := List.any_eq_true.mp this
      rw [← eq_of_beq ey]
      exact hy
  rw [two_of (firstMet_nd _ _) fun x hx => h x ((hm x).mp hx), hm, hm]
def tLenSetB (K : PySem.W.Frag) (ta : TE) : TE := fun σ H Q => ta σ H fun x H1 => ∃ (l : Addr) (ns : List Int), x = .ref l ∧ SqL K H1 l (ns.map V.int) ∧ (∀ x ∈ ns, x = 0 ∨ x = 1) ∧ ns.length ≤ 4000 ∧ ∀ k : Nat, (k = 2 ↔ (0 ∈ ns ∧ 1 ∈ ns)) → Q (.int (k : Nat)) H1
theorem pe_lenSetB {a : Expr} {ta : TE} {p p2 q pos : Pos} (hg : Gl X "len") (hm : X.mg "len" = none) (hg2 : Gl X "set") (hm2 : X.mg "set" = none) (ha : PE X a ta) (hc : X.calm = true := by rfl)
    (na : starEach [a] X.env = (false, eval a X.env) :: starEach [] X.env := by rfl) : PE X (.Call (.Name "len" p) [.Call (.Name "set" p2) [a] [] q] [] pos) (tLenSetB X.K ta) := by
  refine ⟨fun pins s σ H Q I h => ?_⟩
  refine Call_ (ld_blt I hg hm boot_len ?_)
  refine PyProof.Rows.callWith_builtin1 (PyProof.Rows.args_cons ?_ rfl) rfl rfl
  refine Call_ (ld_blt I hg2 hm2 boot_set ?_)
  refine PyProof.Rows.callWith_type1 (PyProof.Rows.args_cons (thn (ha.run pins s σ H _ I h) fun v s1 ⟨x, H1, I1, r1, q1⟩ => PyProof.Rows.args_nil ?_) na) na rfl
  obtain ⟨l, ns, rfl, hq, hb, hl, q1⟩ := q1
  cases r1
  obtain ⟨its, r, pl, hz⟩ := I1.list hq
  have hlen : its.toArray.size = ns.length := by rw [List.size_toArray, ← r.length, List.length_map]
  refine call_set_list (I1.ok.hd hc) pl.isList (by simpa using RZ.intsAre_vals r) (by rw [hlen]; unfold scanBound; omega) fun h' tk hS hk => ?_
  refine PyProof.Rows.args_nil ?_
  rw [hlen] at hS
  obtain ⟨o, es, ep, t, ho, hex, hd, _, _, _, hf, hn⟩ := hS
  have I2 : Inv X pins σ H1 { s1 with heap := h', toks := tk } := I1.kept fun b o e => hk b o (Heap.lt_size e) e
  have hle : (firstMet (fun i => ns.getD i 0) ns.length).length ≤ ns.length := firstMet_length_le _ _
  exact call_len_set ho hex hd hf (by rw [hn]; omega) ⟨.int (firstMet (fun i => ns.getD i 0) ns.length).length, H1, I2.tok _, ⟨_, by rw [hn]⟩, q1 _ (firstMet_two hb)⟩
/-! ### repr(bool) -/
theorem call_reprB : CallR X (.builtin "repr") (fun xs H Q => ∃ b : Bool, xs = [.bl b] ∧ Q (.str (if b then "True" else "False")) H) := by
  intro pins s σ H xs us Q I r h
  obtain ⟨b, rfl, q⟩ := h
  obtain ⟨u, rfl, rx⟩ := vals1 r
  cases rx
  exact PySem.P.repr_of_bool ⟨.str _, H, I.tok _, ⟨_, rfl⟩, q⟩
end
end Kb
/-! The program's defs by their places. -/
namespace Kb
open PySem PySem.Spec PyProof.Rows L2
def topS (i : Nat) : Stmt := PySem.Challenge.pw_saidbetween_k70_whole_books_of_cubes_jud.main.body.getD i (.Pass ⟨0, 0, 0, 0⟩)
def nmOf : Stmt → Str
  | .FunctionDef n .. => n
  | _ => "-"
theorem names_top : ([8, 9, 10, 15, 16, 17, 18, 19, 20, 21, 22, 23, 24, 25, 26, 27, 28, 29, 30, 31].map fun i => nmOf (topS i)) =
  (["is_from", "check_many", "check_values", "cube_so", "free_bits", "half_so", "halves_of", "kinds_so", "fewest_so", "tree_so", "entries_so", "least_so", "is_entry", "is_entry_set", "lies_within", "stands_so", "is_book_so", "check_few", "least_asks", "is_cube_book"] : List String).map Str.ofString := by decide +kernel
theorem names_law : ([33, 34, 35, 36, 37, 38, 39, 40, 41, 42, 43, 44, 45, 46, 47, 48, 49, 50, 51, 52, 53, 54, 55, 56, 57].map fun i => nmOf (topS i)) =
  (["_law_mixed", "_law_begin", "_law_draw", "_law_of", "_law_power", "_law_bits_of", "_law_worths", "_law_like", "_law_fits", "_law_lines_in", "_law_is_both", "_law_half", "_law_asks_for", "_law_high", "_law_wood", "_law_cubes", "_law_less_cube", "_law_is_cube_entry", "_law_cube_stands", "_law_is_cube_book", "_law_whole_book", "_law_bent", "_law_odd", "_law_right", "law"] : List String).map Str.ofString := by decide +kernel
abbrev s_is_from : Stmt := topS 8
abbrev s_check_many : Stmt := topS 9
abbrev s_check_values : Stmt := topS 10
abbrev s_cube_so : Stmt := topS 15
abbrev s_free_bits : Stmt := topS 16
abbrev s_half_so : Stmt := topS 17
abbrev s_halves_of : Stmt := topS 18
abbrev s_kinds_so : Stmt := topS 19
abbrev s_fewest_so : Stmt := topS 20
abbrev s_tree_so : Stmt := topS 21
abbrev s_entries_so : Stmt := topS 22
abbrev s_least_so : Stmt := topS 23
abbrev s_is_entry : Stmt := topS 24
abbrev s_is_entry_set : Stmt := topS 25
abbrev s_lies_within : Stmt := topS 26
abbrev s_stands_so : Stmt := topS 27
abbrev s_is_book_so : Stmt := topS 28
abbrev s_check_few : Stmt := topS 29
abbrev s_least_asks : Stmt := topS 30
abbrev s_is_cube_book : Stmt := topS 31
abbrev s_mixed : Stmt := topS 33
abbrev s_begin : Stmt := topS 34
abbrev s_draw : Stmt := topS 35
abbrev s_of : Stmt := topS 36
abbrev s_power : Stmt := topS 37
abbrev s_bits_of : Stmt := topS 38
abbrev s_worths : Stmt := topS 39
abbrev s_like : Stmt := topS 40
abbrev s_fits : Stmt := topS 41
abbrev s_lines_in : Stmt := topS 42
abbrev s_is_both : Stmt := topS 43
abbrev s_half : Stmt := topS 44
abbrev s_asks_for : Stmt := topS 45
abbrev s_cubes : Stmt := topS 48
abbrev s_less_cube : Stmt := topS 49
abbrev s_l_is_entry : Stmt := topS 50
abbrev s_cube_stands : Stmt := topS 51
abbrev s_l_is_book : Stmt := topS 52
abbrev s_whole_book : Stmt := topS 53
abbrev s_bent : Stmt := topS 54
abbrev s_odd : Stmt := topS 55
abbrev s_right : Stmt := topS 56
abbrev s_law : Stmt := topS 57
end Kb
/-! Parts of heaps; tuples' operators with one outcome; dicts as lists of keys. -/
namespace Kb
open PySem PySem.Spec PyProof.Rows L2
theorem ifT {b : Bool} {A B : Prop} (e : b = true) (h : A) : if b = true then A else B := by
  rw [if_pos e]; exact h
theorem ifF {b : Bool} {A B : Prop} (e : b = false) (h : B) : if b = true then A else B := by
  rw [e]; exact h
theorem if2 {b : Bool} {A B : Prop} (h1 : b = true → A) (h2 : b = false → B) : if b = true then A else B := by
  cases b with
  | true => exact h1 rfl
  | false => exact h2 rfl
/-! ### parts of heaps -/
/-- a cube at c -/
def CubeH (H : Hp) (c : Addr) (cs : List Int) : Prop := H c = some (.tup (cs.map V.int))
theorem CubeH.keep {H H' : Hp} {c : Addr} {cs : List Int} (h : CubeH H c cs) (k : KeepT H H') : CubeH H' c cs := k _ _ h
/-- tuples stay; all that is tracked stays but what stands at the addresses of l -/
structure But (l : List Addr) (H H' : Hp) : Prop where
  tup : KeepT H H'
  rest : ∀ b o, b ∉ l → H b = some o → H' b = some o
theorem But.refl (l : List Addr) (H : Hp) : But l H H := ⟨KeepT.refl H, fun _ _ _ h => h⟩
theorem But.trans {l : List Addr} {H H1 H2 : Hp} (a : But l H H1) (b : But l H1 H2) : But l H H2 := ⟨a.tup.trans b.tup, fun c o hc h => b.rest c o hc (a.rest c o hc h)⟩
theorem But.mono {l l' : List Addr} {H H1 : Hp} (a : But l H H1) (h : ∀ b ∈ l, b ∈ l') : But l' H H1 := ⟨a.tup, fun c o hc e => a.rest c o (fun z => hc (h c z)) e⟩
theorem But.same {l : List Addr} {H H1 : Hp} (a : Same H H1) : But l H H1 := ⟨fun b xs e => a _ _ e, fun c o _ e => a c o e⟩
theorem same_tup {H H1 : Hp} (a : Same H H1) : KeepT H H1 := fun b xs e => a _ _ e
theorem But.toSame {H H1 : Hp} (a : But [] H H1) : Same H H1 := fun c o e => a.rest c o (by simp) e
theorem same_upd {H : Hp} {p : Addr} {o : HO} (h : H p = none) : Same H (upd H p o) := fun b x e => by
  rw [upd_ne (ne_of_none e h)]
  exact e
theorem But.new {l : List Addr} {H : Hp} {p : Addr} {o : HO} (h : H p = none) : But l H (upd H p o) := But.same (same_upd h)
theorem But.at {l : List Addr} {H : Hp} {p : Addr} {o u : HO} (hp : p ∈ l) (hu : H p = some u) (hn : ∀ xs, u ≠ .tup xs) : But l H (upd H p o) := by
  refine ⟨fun b xs e => ?_, fun b x hb e => ?_⟩
  · rw [upd_ne]
    · exact e
    · intro z
      subst z
      rw [e] at hu
      exact hn xs (Option.some.inj hu).symm
  · rw [upd_ne]
    · exact e
    · intro z
      subst z
      exact hb hp
theorem small_size {n : Nat} (h : n ≤ 1000) : n ≤ sizeLine := Nat.le_of_lt (small1000 h)
theorem But.ent {l : List Addr} {H H1 : Hp} {r : Addr} {e : En} (a : But l H H1) (h : EntH H r e) : EntH H1 r e := h.keep a.tup
/-- a book: a tuple of entries -/
def BookH (H : Hp) (t : Addr) (ks : List AE) : Prop := H t = some (.tup (ks.map fun k => V.ref k.1)) ∧ ∀ k ∈ ks, EntH H k.1 k.2
theorem BookH.keep {H H' : Hp} {t : Addr} {ks : List AE} (h : BookH H t ks) (k : KeepT H H') : BookH H' t ks := ⟨k _ _ h.1, fun x hx => (h.2 x hx).keep k⟩
theorem sqt {K : PySem.W.Frag} {H : Hp} {a : Addr} {xs : List V} (h : H a = some (.tup xs)) : SqT K H a xs := SqT.of h

/-! ### tuples' operators -/
section
variable {X : Cx}
def rCatS : R2 := fun x y H Q => ∃ a b xs ys, x = .ref a ∧ y = .ref b ∧ H a = some (.tup xs) ∧ H b = some (.tup ys) ∧ xs.length + ys.length ≤ 1000 ∧
  ∀ p H', Same H H' → H' p = some (.tup (xs ++ ys)) → Q (.ref p) H'
theorem op_catS : OpR X (binaryOp .Add) rCatS := by
  intro pins s σ H x y v u Q I rx ry h
  obtain ⟨a, b, xs, ys, rfl, rfl, ha, hb, hz, q⟩ := h
  refine op_catA pins s σ H _ _ v u Q I rx ry ⟨a, b, xs, ys, rfl, rfl, sqt ha, sqt hb, small_size hz, fun e => ?_, fun _ e => ?_, fun _ _ p hp => ?_⟩
  · subst e
    exact q b H (fun _ _ e => e) hb
  · subst e
    exact q a H (fun _ _ e => e) (by rw [List.append_nil]; exact ha)
  · exact q p _ (same_upd hp) upd_same
def rSlS : V → Option Int → Option Int → Hp → VK → Prop := fun x lo hi H Q => ∃ a xs, x = .ref a ∧ H a = some (.tup xs) ∧ ∀ p H', Same H H' → H' p = some (.tup (cutV xs lo hi)) → Q (.ref p) H'
theorem sl_tupS : SlR X rSlS := by
  intro pins s σ H x v vl vu lo hi sl Q I rx hs pl pu h
  obtain ⟨a, xs, rfl, hx, q⟩ := h
  refine sl_tupA pins s σ H _ v vl vu lo hi sl Q I rx hs pl pu ⟨a, xs, rfl, sqt hx, fun e => ?_, fun _ p hp => q p _ (same_upd hp) upd_same⟩
  refine q a H (fun _ _ e => e) ?_
  have : cutV xs lo hi = xs := by
    unfold cutV
    rw [e.1, e.2, List.drop_zero, Nat.sub_zero, List.take_of_length_le (Nat.le_refl _)]
  rw [this]
  exact hx
end
theorem cut_to {xs : List V} {i : Nat} (h : i ≤ xs.length) : cutV xs none (some (i : Int)) = xs.take i := by
  unfold cutV
  rw [HT.sIx_none, HT.sIx_nat, List.drop_zero, Nat.sub_zero, Nat.min_eq_left h]
theorem cut_from {xs : List V} {i : Nat} (h : i ≤ xs.length) : cutV xs (some (i : Int)) none = xs.drop i := by
  unfold cutV
  rw [HT.sIx_none, HT.sIx_nat, Nat.min_eq_left h, List.take_of_length_le (by rw [List.length_drop]; exact Nat.le_refl _)]
theorem set_cut {cs : List Int} {i : Nat} {b : Int} (h : i < cs.length) : (cs.map V.int).take i ++ [V.int b] ++ (cs.map V.int).drop (i + 1) = (cs.set i b).map V.int := by
  rw [List.map_set, List.set_eq_take_append_cons_drop, if_pos (by rw [List.length_map]; exact h), List.append_assoc]
  rfl

/-! ### isinstance of the kinds that stand here -/
def isaB (t T : String) : Bool := t == T || (t == "bool" && T == "int")
section
variable {X : Cx}
def rIsB (K : PySem.W.Frag) : List V → Hp → VK → Prop := fun xs H Q => ∃ (x : V) (t T : String), xs = [x, .ty T] ∧ TyX K H x (.type t) ∧ t ∈ ["int", "bool", "list", "tuple", "str", "NoneType"] ∧ T ∈ ["int", "bool", "tuple"] ∧ Q (.bl (isaB t T)) H
theorem kitAll : ∀ t ∈ ["int", "bool", "list", "tuple", "str", "NoneType"], ∀ T ∈ ["int", "bool", "tuple"], kitB t T = some (isaB t T) := by decide +kernel
theorem cr_isB : CallR X (.builtin "isinstance") (rIsB X.K) := by
  intro pins s σ H xs us Q I r h
  obtain ⟨x, t, T, rfl, ty, ht, hT, q⟩ := h
  exact call_isi pins s σ H _ us Q I r ⟨x, .ty T, .type t, .type T, _, rfl, .ty T, ty, kit_ty (kitAll t ht T hT), q⟩
end

/-! ### tables as lists of keys -/
theorem nodup_le {α : Type} [DecidableEq α] : ∀ {l m : List α}, l.Nodup → (∀ x ∈ l, x ∈ m) → l.length ≤ m.length
  | [], m, _, _ => Nat.zero_le _
  | a :: l, m, nd, h => by
    have ha : a ∈ m := h a List.mem_cons_self
    have nd' := List.nodup_cons.mp nd
    have ih : l.length ≤ (m.erase a).length := nodup_le nd'.2 fun x hx => (List.mem_erase_of_ne (fun e => nd'.1 (by rw [← e]; exact hx))).mpr (h x (List.mem_cons_of_mem _ hx))
    rw [List.length_erase_of_mem ha] at ih
    have : 0 < m.length := List.length_pos_of_mem ha
    rw [List.length_cons]
    omega
section
variable {α κ : Type} [DecidableEq α] [DecidableEq κ]
def mkG (g : α → κ) (f : α → V) (ks : List α) : List (κ × V) := ks.map fun a => (g a, f a)
theorem mkG_any {g : α → κ} (hg : ∀ a b, g a = g b → a = b) (f : α → V) (a : α) : ∀ ks : List α, ((mkG g f ks).any fun kv => decide (kv.1 = g a)) = decide (a ∈ ks)
  | [] => by simp [mkG]
  | k :: ks => by
    have ih := mkG_any hg f a ks
    unfold mkG at ih ⊢
    rw [List.map_cons, List.any_cons, ih]
    by_cases e : k = a
    · subst e; simp
    · have e1 : ¬ g k = g a := fun z => e (hg _ _ z)
      have e2 : ¬ a = k := fun z => e z.symm
      simp [e1, e2]
theorem mkG_val {g : α → κ} (hg : ∀ a b, g a = g b → a = b) (f : α → V) (a : α) : ∀ ks : List α, valV (mkG g f ks) (g a) = if a ∈ ks then some (f a) else none
  | [] => by simp [mkG, valV_nil]
  | k :: ks => by
    have ih := mkG_val hg f a ks
    unfold mkG at ih ⊢
    rw [List.map_cons]
    by_cases e : k = a
    · subst e
      rw [valV_pos rfl]; simp
    · have e1 : ¬ g k = g a := fun z => e (hg _ _ z)
      rw [valV_neg e1, ih]
      have e2 : ¬ a = k := fun z => e z.symm
      simp [e2]
def addK (a : α) (ks : List α) : List α := if a ∈ ks then ks else ks ++ [a]
theorem mkG_put {g : α → κ} (hg : ∀ a b, g a = g b → a = b) (f : α → V) (a : α) (ks : List α) : putK (mkG g f ks) (g a) (f a) = mkG g f (addK a ks) := by
  unfold putK addK
  rw [mkG_any hg]
  by_cases h : a ∈ ks
  · simp only [h, decide_true, if_true]
    unfold mkG
    rw [List.map_map]
    refine List.map_congr_left fun k _ => ?_
    show (if g k = g a then (g k, f a) else (g k, f k)) = (g k, f k)
    by_cases e : g k = g a
    · rw [if_pos e, hg _ _ e]
    · rw [if_neg e]
  · simp only [h, decide_false, if_false]
    rw [if_neg (by decide)]
    unfold mkG
    rw [List.map_append]
    rfl
theorem mkG_length {g : α → κ} {f : α → V} (ks : List α) : (mkG g f ks).length = ks.length := List.length_map _
theorem addK_nodup {a : α} {ks : List α} (h : ks.Nodup) : (addK a ks).Nodup := by
  unfold addK
  by_cases e : a ∈ ks
  · rw [if_pos e]; exact h
  · rw [if_neg e, List.nodup_append]
    refine ⟨h, by simp, fun x hx y hy => ?_⟩
    simp at hy
    subst hy
    exact fun z => e (z ▸ hx)
theorem addK_mem {a x : α} {ks : List α} : x ∈ addK a ks ↔ x ∈ ks ∨ x = a := by
  unfold addK
  by_cases e : a ∈ ks
  · rw [if_pos e]
    constructor
    · exact .inl
    · rintro (h | h)
      · exact h
      · rw [h]; exact e
  · rw [if_neg e]; simp
end
/-! ### cubes -/
def cubesL : Nat → List (List Int)
  | 0 => [[]]
  | n + 1 => (cubesL n).flatMap fun c => [0, 1, 2].map fun x => c ++ [x]
theorem mem_cubesL : ∀ {n : Nat} {cs : List Int}, cs.length = n → Dig cs → cs ∈ cubesL n
  | 0, cs, h, _ => by
    have : cs = [] := List.eq_nil_of_length_eq_zero h
    rw [this]; exact List.mem_cons_self
  | n + 1, cs, h, d => by
    have hne : cs ≠ [] := by
      intro e
      rw [e] at h
      cases h
    have e := List.dropLast_concat_getLast hne
    have d1 : Dig cs.dropLast := fun x hx => d x ((List.dropLast_sublist _).subset hx)
    have l1 : cs.dropLast.length = n := by rw [List.length_dropLast]; omega
    unfold cubesL
    refine List.mem_flatMap.mpr ⟨cs.dropLast, mem_cubesL l1 d1, List.mem_map.mpr ⟨cs.getLast hne, ?_, e⟩⟩
    have := d (cs.getLast hne) (List.getLast_mem hne)
    simp
    omega
theorem of_cubesL : ∀ {n : Nat} {cs : List Int}, cs ∈ cubesL n → cs.length = n ∧ Dig cs
  | 0, cs, h => by
    have : cs = [] := by simpa [cubesL] using h
    rw [this]
    exact ⟨rfl, fun x hx => by cases hx⟩
  | n + 1, cs, h => by
    unfold cubesL at h
    obtain ⟨c, hc, h⟩ := List.mem_flatMap.mp h
    obtain ⟨x, hx, rfl⟩ := List.mem_map.mp h
    obtain ⟨h1, h2⟩ := of_cubesL hc
    refine ⟨by rw [List.length_append, h1]; rfl, fun y hy => ?_⟩
    rcases List.mem_append.mp hy with z | z
    · exact h2 y z
    · have e : y = x := by simpa using z
      rw [e]
      simp at hx
      omega
/-- all entries that may stand in a found book -/
def EL (n : Nat) : List En := (cubesL n).flatMap fun cs => (List.range (free cs).length).map fun a => ((a : Nat), cs)
theorem EL_len {n : Nat} (h : n = 2 ∨ n = 3) : (EL n).length ≤ 27 := by
  rcases h with rfl | rfl
  · decide +kernel
  · decide +kernel
theorem cubesL_len {n : Nat} (h : n = 2 ∨ n = 3) : (cubesL n).length ≤ 27 := by
  rcases h with rfl | rfl
  · decide +kernel
  · decide +kernel
theorem mem_EL {n : Nat} {a : Int} {cs : List Int} (h : cs.length = n) (d : Dig cs) (h0 : 0 ≤ a) (h1 : a < (free cs).length) : (a, cs) ∈ EL n := by
  refine List.mem_flatMap.mpr ⟨cs, mem_cubesL h d, List.mem_map.mpr ⟨a.toNat, List.mem_range.mpr (by omega), ?_⟩⟩
  rw [Int.toNat_of_nonneg h0]
theorem EL_lo {n : Nat} (h : n = 2 ∨ n = 3) {e : En} (he : e ∈ EL n) : e.1 ≤ 3 := by
  unfold EL at he
  obtain ⟨cs, hc, h2⟩ := List.mem_flatMap.mp he
  obtain ⟨a, ha, rfl⟩ := List.mem_map.mp h2
  have h3 := List.mem_range.mp ha
  have h4 := free_len cs
  have h5 := (of_cubesL hc).1
  show (a : Int) ≤ 3
  omega
/-- an entry of a found book: its level leaves room for one more -/
def EnLo (n : Nat) (e : En) : Prop := EnOk n e ∧ e.1 ≤ 3
/-- the entries that is asked for -/
def AL (n : Nat) : List En := (cubesL n).flatMap fun cs => (List.range 5).map fun a => ((a : Nat), cs)
theorem AL_len {n : Nat} (h : n = 2 ∨ n = 3) : (AL n).length ≤ 135 := by
  rcases h with rfl | rfl
  · decide +kernel
  · decide +kernel
theorem mem_AL {n : Nat} {a : Int} {cs : List Int} (h : cs.length = n) (d : Dig cs) (h0 : 0 ≤ a) (h1 : a ≤ 4) : (a, cs) ∈ AL n := by
  refine List.mem_flatMap.mpr ⟨cs, mem_cubesL h d, List.mem_map.mpr ⟨a.toNat, List.mem_range.mpr (by omega), ?_⟩⟩
  rw [Int.toNat_of_nonneg h0]
/-! ### dicts of cubes -/
def kc (cs : List Int) : List Key := cs.map Sum.inl
theorem kc_inj : ∀ a b : List Int, kc a = kc b → a = b
  | [], [], _ => rfl
  | [], _ :: _, h => by simp [kc] at h
  | _ :: _, [], h => by simp [kc] at h
  | x :: a, y :: b, h => by
    unfold kc at h
    rw [List.map_cons, List.map_cons] at h
    injection h with h1 h2
    injection h1 with h1
    rw [h1, kc_inj a b h2]
theorem kc_V (cs : List Int) : (kc cs).map kV = cs.map V.int := by
  unfold kc
  rw [List.map_map]
  rfl
/-- at d a dict of the cubes ks (of n places) with the values f -/
structure CD (f : List Int → Int) (n : Nat) (H : Hp) (d : Addr) (ks : List (List Int)) : Prop where
  at_ : H d = some (.dT (mkG kc (fun cs => V.int (f cs)) ks))
  nd : ks.Nodup
  ok : ∀ cs ∈ ks, cs.length = n ∧ Dig cs
theorem CD.len {f : List Int → Int} {n : Nat} {H : Hp} {d : Addr} {ks : List (List Int)} (c : CD f n H d ks) (hn : n = 2 ∨ n = 3) : ks.length ≤ 27 :=
  Nat.le_trans (nodup_le c.nd fun x hx => mem_cubesL (c.ok x hx).1 (c.ok x hx).2) (cubesL_len hn)
theorem CD.empty {f : List Int → Int} {n : Nat} {H : Hp} {d : Addr} (h : H d = some (.dT [])) : CD f n H d [] := ⟨h, List.nodup_nil, fun _ h => by cases h⟩
theorem CD.but {f : List Int → Int} {n : Nat} {H H' : Hp} {d : Addr} {ks : List (List Int)} {l : List Addr} (c : CD f n H d ks) (b : But l H H') (h : d ∉ l) : CD f n H' d ks := ⟨b.rest _ _ h c.at_, c.nd, c.ok⟩
theorem CD.get {f : List Int → Int} {n : Nat} {H : Hp} {d c : Addr} {ks : List (List Int)} {cs : List Int} (x : CD f n H d ks) (hc : CubeH H c cs) : ∃ o, DGet H d (.ref c) o ∧ (cs ∈ ks → o = some (V.int (f cs))) ∧ (cs ∉ ks → o = none) := by
  have := DGet.t (k := kc cs) x.at_ (b := c) (by rw [kc_V]; exact hc)
  rw [mkG_val kc_inj] at this
  exact ⟨_, this, fun h => if_pos h, fun h => if_neg h⟩
theorem CD.get_in {f : List Int → Int} {n : Nat} {H : Hp} {d c : Addr} {ks : List (List Int)} {cs : List Int} (x : CD f n H d ks) (hc : CubeH H c cs) (h : cs ∈ ks) : DGet H d (.ref c) (some (V.int (f cs))) := by
  obtain ⟨o, h1, h2, _⟩ := x.get hc
  rw [h2 h] at h1
  exact h1
/-- a store -/
theorem CD.put {f : List Int → Int} {n : Nat} {H : Hp} {d c : Addr} {ks : List (List Int)} {cs : List Int} (x : CD f n H d ks) (hn : n = 2 ∨ n = 3) (hc : CubeH H c cs) (hl : cs.length = n) (hd : Dig cs) :
    ∃ H' ks', DPut H d (.ref c) (.int (f cs)) H' ∧ CD f n H' d ks' ∧ But [d] H H' ∧ (∀ z, z ∈ ks' ↔ z ∈ ks ∨ z = cs) := by
  have hz := x.len hn
  refine ⟨_, addK cs ks, DPut.t (k := kc cs) x.at_ (b := c) (by rw [kc_V]; exact hc) (by rw [mkG_length]; exact small1000 (by omega)), ⟨?_, addK_nodup x.nd, fun z hz => ?_⟩, But.at List.mem_cons_self x.at_ (fun _ z => by cases z), fun z => addK_mem⟩
  · rw [upd_same, mkG_put kc_inj (f := fun cs => V.int (f cs))]
  · rcases addK_mem.mp hz with h | h
    · exact x.ok z h
    · rw [h]; exact ⟨hl, hd⟩
end Kb
/-! The program's small defs: is_from, cube_so, free_bits, half_so, halves_of. -/
namespace Kb
open PySem PySem.Spec PyProof.Rows L2
abbrev g2 (K : PySem.W.Frag) (i j : Nat) : TG := gTup K 2 (gCons (gName i) (gCons (gName j) gNil))
section
variable {P : Program} {w : World} {K : PySem.W.Frag} {mg : Str → Option Value} {base : Heap}
/-! ### half_so, _law_half -/
theorem scHalf : FnScope ["cube", "place", "bit"] ["cube", "place", "bit"] (defScope s_half_so) := ⟨rfl, rfl, rfl, by decide +kernel, rfl, by decide +kernel, by decide +kernel⟩
theorem scHalfL : FnScope ["_law_cube", "_law_place", "_law_bit"] ["_law_cube", "_law_place", "_law_bit"] (defScope s_half) := ⟨rfl, rfl, rfl, by decide +kernel, rfl, by decide +kernel, by decide +kernel⟩
def spHalf : Sp := fun vs H Q _ => ∃ (c : Addr) (cs : List Int) (i : Nat) (b : Int), vs = [.ref c, .int i, .int b] ∧ CubeH H c cs ∧ i < cs.length ∧ cs.length ≤ 100 ∧ ∀ p H', Same H H' → CubeH H' p (cs.set i b) → Q (.ref p) H'
theorem half_read {c : Addr} {cs : List Int} {i : Nat} {b : Int} {H : Hp} {Q : VK} (hc : CubeH H c cs) (hi : i < cs.length) (hl : cs.length ≤ 100) (q : ∀ p H', Same H H' → CubeH H' p (cs.set i b) → Q (.ref p) H') :
    ∀ p1 H1, Same H H1 → H1 p1 = some (.tup (cutV (cs.map V.int) none (some (i : Int)))) → ∀ t, H1 t = none → rCatS (.ref p1) (.ref t) (upd H1 t (.tup [.int b])) fun x H2 => ∀ p3 H3, Same H2 H3 → H3 p3 = some (.tup (cutV (cs.map V.int) (some ((i : Int) + 1)) none)) → rCatS x (.ref p3) H3 Q := by
  intro p1 H1 s1 e1 t ht
  have hlm : (cs.map V.int).length = cs.length := List.length_map _
  rw [cut_to (by omega)] at e1
  have s2 : Same H1 (upd H1 t (.tup [.int b])) := same_upd ht
  refine ⟨p1, t, _, _, rfl, rfl, s2 _ _ e1, upd_same, by rw [List.length_take, hlm]; simp; omega, fun p H2 s3 e2 => ?_⟩
  intro p3 H3 s4 e3
  rw [show ((i : Int) + 1) = ((i + 1 : Nat) : Int) by omega, cut_from (by omega)] at e3
  refine ⟨p, p3, _, _, rfl, rfl, s4 _ _ e2, e3, ?_, fun p5 H5 s5 e5 => q p5 H5 (s1.trans (s2.trans (s3.trans (s4.trans s5)))) ?_⟩
  · simp only [List.length_append, List.length_take, List.length_drop, hlm, List.length_cons, List.length_nil]
    omega
  · show H5 p5 = _
    rw [e5, set_cut hi]
theorem ok_half_so {f : Addr} {fd : FuncData} (F : Fun K "half_so" "half_so" s_half_so f fd) : FnOk P w K mg base CX0 1 f fd ["cube", "place", "bit"] spHalf := by
  refine F.ok scHalf (fun vs H Q E h => ?_) (fun cdv A outer s H vs Q E hr h => ?_)
  · obtain ⟨c, cs, i, b, rfl, _⟩ := h
    rfl
  obtain ⟨c, cs, i, b, rfl, hc, hi, hl, q⟩ := h
  refine ⟨_, pss_one (ps_ret (pe_op op_catS (pe_op op_catS (pe_slice sl_tupS (pv 0) po_none (po_some (pv 1))) (pe_tup (pa_cons (pv 2) pa_nil))) (pe_slice sl_tupS (pv 0) (po_some (pe_op op_add (pv 1) pe_int)) po_none))), ?_⟩
  refine ⟨_, rfl, _, rfl, _, rfl, c, _, rfl, hc, fun p1 H1 s1 e1 => ?_⟩
  refine ⟨_, rfl, (by show 1 ≤ sizeLine; decide), fun t ht => ?_⟩
  have r := half_read hc hi hl q p1 H1 s1 e1 t ht
  obtain ⟨a, b', xs, ys, z1, z2, z3, z4, z5, z6⟩ := r
  refine ⟨a, b', xs, ys, z1, z2, z3, z4, z5, fun p H2 s2 e2 => ?_⟩
  refine ⟨_, rfl, _, rfl, _, _, rfl, rfl, _, rfl, c, cs.map V.int, rfl, ?_, fun p3 H3 s3 e3 => ?_⟩
  · exact s2 _ _ (same_upd ht _ _ (s1 _ _ hc))
  · exact z6 p H2 s2 e2 p3 H3 s3 e3
theorem ok_half_l {f : Addr} {fd : FuncData} (F : Fun K "_law_half" "_law_half" s_half f fd) : FnOk P w K mg base CX0 1 f fd ["_law_cube", "_law_place", "_law_bit"] spHalf := by
  refine F.ok scHalfL (fun vs H Q E h => ?_) (fun cdv A outer s H vs Q E hr h => ?_)
  · obtain ⟨c, cs, i, b, rfl, _⟩ := h
    rfl
  obtain ⟨c, cs, i, b, rfl, hc, hi, hl, q⟩ := h
  refine ⟨_, pss_one (ps_ret (pe_op op_catS (pe_op op_catS (pe_slice sl_tupS (pv 0) po_none (po_some (pv 1))) (pe_tup (pa_cons (pv 2) pa_nil))) (pe_slice sl_tupS (pv 0) (po_some (pe_op op_add (pv 1) pe_int)) po_none))), ?_⟩
  refine ⟨_, rfl, _, rfl, _, rfl, c, _, rfl, hc, fun p1 H1 s1 e1 => ?_⟩
  refine ⟨_, rfl, (by show 1 ≤ sizeLine; decide), fun t ht => ?_⟩
  have r := half_read hc hi hl q p1 H1 s1 e1 t ht
  obtain ⟨a, b', xs, ys, z1, z2, z3, z4, z5, z6⟩ := r
  refine ⟨a, b', xs, ys, z1, z2, z3, z4, z5, fun p H2 s2 e2 => ?_⟩
  refine ⟨_, rfl, _, rfl, _, _, rfl, rfl, _, rfl, c, cs.map V.int, rfl, ?_, fun p3 H3 s3 e3 => ?_⟩
  · exact s2 _ _ (same_upd ht _ _ (s1 _ _ hc))
  · exact z6 p H2 s2 e2 p3 H3 s3 e3
/-! ### halves_of -/
theorem scHalves : FnScope ["cube", "place"] ["cube", "place"] (defScope s_halves_of) := ⟨rfl, rfl, rfl, by decide +kernel, rfl, by decide +kernel, by decide +kernel⟩
def spHalves : Sp := fun vs H Q _ => ∃ (c : Addr) (cs : List Int) (i : Nat), vs = [.ref c, .int i] ∧ CubeH H c cs ∧ i < cs.length ∧ cs.length ≤ 100 ∧
  ∀ t p q H', Same H H' → H' t = some (.tup [.ref p, .ref q]) → CubeH H' p (cs.set i 1) → CubeH H' q (cs.set i 0) → Q (.ref t) H'
theorem ok_halves {f g : Addr} {fd gd : FuncData} (F : Fun K "halves_of" "halves_of" s_halves_of f fd) (G : FnOk P w K mg base CX0 1 g gd ["cube", "place", "bit"] spHalf) (kG : PySem.W.keepIn K (.ref g) = true) (bG : Binds K gd ["cube", "place", "bit"] []) (mG : mg "half_so" = some (.ref g)) :
    FnOk P w K mg base CX0 2 f fd ["cube", "place"] spHalves := by
  refine F.ok scHalves (fun vs H Q E h => ?_) (fun cdv A outer s H vs Q E hr h => ?_)
  · obtain ⟨c, cs, i, rfl, _⟩ := h
    rfl
  obtain ⟨c, cs, i, rfl, hc, hi, hl, q⟩ := h
  refine ⟨_, pss_one (ps_ret (pe_tup (pa_cons (pe_call G hr (by rfl) mG kG bG .nil pass0 (pa_cons (pv 0) (pa_cons (pv 1) (pa_cons pe_int pa_nil)))) (pa_cons (pe_call G hr (by rfl) mG kG bG .nil pass0 (pa_cons (pv 0) (pa_cons (pv 1) (pa_cons pe_int pa_nil)))) pa_nil)))), ?_⟩
  refine ⟨_, rfl, _, rfl, c, cs, i, 1, rfl, hc, hi, hl, fun p1 H1 s1 e1 => ?_⟩
  refine ⟨_, rfl, _, rfl, c, cs, i, 0, rfl, s1 _ _ hc, hi, hl, fun p2 H2 s2 e2 => ?_⟩
  refine ⟨(by show 2 ≤ sizeLine; decide), fun t ht => ?_⟩
  have s3 := same_upd (o := .tup [.ref p1, .ref p2]) ht
  exact q t p1 p2 _ (s1.trans (s2.trans s3)) upd_same (s3 _ _ (s2 _ _ e1)) (s3 _ _ e2)
/-! ### cube_so -/
theorem scCube : FnScope ["many"] ["many"] (defScope s_cube_so) := ⟨rfl, rfl, rfl, by decide +kernel, rfl, by decide +kernel, by decide +kernel⟩
def spCube : Sp := fun vs H Q _ => ∃ (n : Nat), vs = [.int n] ∧ 2 ≤ n ∧ n ≤ 100 ∧ ∀ p H', Same H H' → CubeH H' p (List.replicate n 2) → Q (.ref p) H'
theorem rep_one (n : Nat) (x : V) : (List.replicate n [x]).flatten = List.replicate n x := by
  induction n with
  | zero => rfl
  | succ n ih => rw [List.replicate_succ, List.flatten_cons, ih, List.replicate_succ]; rfl
theorem ok_cube {f : Addr} {fd : FuncData} {t0 : Tok} (F : Fun K "cube_so" "cube_so" s_cube_so f fd) (mF : mg "FREE" = some (.int 2 t0)) : FnOk P w K mg base CX0 1 f fd ["many"] spCube := by
  refine F.ok scCube (fun vs H Q E h => ?_) (fun cdv A outer s H vs Q E hr h => ?_)
  · obtain ⟨n, rfl, _⟩ := h
    rfl
  obtain ⟨n, rfl, h2, hl, q⟩ := h
  refine ⟨_, pss_one (ps_ret (pe_op op_repT (pe_tup (pa_cons (pe_glob (v := .int 2) rfl mF ⟨_, rfl⟩) pa_nil)) (pv 0))), ?_⟩
  refine ⟨(by show 1 ≤ sizeLine; decide), fun t ht => ?_⟩
  refine ⟨_, rfl, t, (n : Int), [.int 2], rfl, rfl, sqt upd_same, by simp, by omega, by omega, by simp, fun p hp => ?_⟩
  have s1 := same_upd (o := .tup [.int 2]) ht
  refine q p _ (s1.trans (same_upd hp)) ?_
  show _ = _
  rw [upd_same, Int.toNat_natCast, rep_one, List.map_replicate]
/-! ### free_bits -/
theorem scFree : FnScope ["cube", "place", "thing"] ["cube"] (defScope s_free_bits) := ⟨rfl, rfl, rfl, by decide +kernel, rfl, by decide +kernel, by decide +kernel⟩
def spFree : Sp := fun vs H Q _ => ∃ (c : Addr) (cs : List Int), vs = [.ref c] ∧ CubeH H c cs ∧ cs.length ≤ 100 ∧
  ∀ l H', H l = none → Same H H' → H' l = some (.lst ((free cs).map fun i : Nat => V.int i)) → Q (.ref l) H'
theorem free_take {cs : List Int} {i : Nat} {x : Int} (h : cs[i]? = some x) : freeFrom 0 (cs.take (i + 1)) = freeFrom 0 (cs.take i) ++ (if x = 2 then [i] else []) := by
  have g : ∀ (cs : List Int) (k i : Nat) (x : Int), cs[i]? = some x → freeFrom k (cs.take (i + 1)) = freeFrom k (cs.take i) ++ (if x = 2 then [k + i] else []) := by
    intro cs
    induction cs with
    | nil => intro k i x h; simp at h
    | cons y r ih =>
      intro k i x h
      cases i with
      | zero =>
        have e : y = x := by simpa using h
        subst e
        simp [freeFrom]
      | succ i =>
        have h' : r[i]? = some x := by simpa using h
        have := ih (k + 1) i x h'
        rw [List.take_succ_cons, List.take_succ_cons]
        show (if y = 2 then k :: freeFrom (k + 1) (r.take (i + 1)) else freeFrom (k + 1) (r.take (i + 1))) = (if y = 2 then k :: freeFrom (k + 1) (r.take i) else freeFrom (k + 1) (r.take i)) ++ _
        rw [this, show k + 1 + i = k + (i + 1) by omega]
        by_cases hy : y = 2
        · rw [if_pos hy, if_pos hy]; rfl
        · rw [if_neg hy, if_neg hy]
  have := g cs 0 i x h
  rw [Nat.zero_add] at this
  exact this
theorem int_at {cs : List Int} {i : Nat} (h : i < cs.length) : (cs.map V.int)[i]? = some (V.int cs[i]) := by
  rw [List.getElem?_map, List.getElem?_eq_getElem h]
  rfl
theorem enum_ints {cs : List Int} {i : Nat} {H H' : Hp} {v : V} (h : i < cs.length) (y : YPair (fun i => some (.int (i : Nat))) (fun i => (cs.map V.int)[i]?) i H v H') :
    ∃ T, v = .ref T ∧ H T = none ∧ H' = upd H T (.tup [.int (i : Nat), .int cs[i]]) := by
  obtain ⟨T, a, b, rfl, nT, rfl, ea, eb⟩ := y
  have eb : (cs.map V.int)[i]? = some b := eb
  rw [int_at h] at eb
  cases ea
  cases eb
  exact ⟨T, rfl, nT, rfl⟩
theorem ok_free {f : Addr} {fd : FuncData} {t0 : Tok} (F : Fun K "free_bits" "free_bits" s_free_bits f fd) (mF : mg "FREE" = some (.int 2 t0)) (mz : mg "enumerate" = none) : FnOk P w K mg base CX0 1 f fd ["cube"] spFree := by
  refine F.ok scFree (fun vs H Q E h => ?_) (fun cdv A outer s H vs Q E hr h => ?_)
  · obtain ⟨c, cs, rfl, _⟩ := h
    rfl
  obtain ⟨c, cs, rfl, hc, hl, q⟩ := h
  refine ⟨_, pss_one (ps_ret (pe_lc (own := [("place", 1), ("thing", 2)]) (g := g2 K 1 2) rfl scFree.nd (pi_enumT (by rfl) mz (pa_cons (pv 0) pa_nil)) (blkOk_by (N := ["cube", "place", "thing"]) (sc := defScope s_free_bits) (by decide +kernel))
    (fun _ _ _ _ _ => pg_tup rfl (pgs_cons (pg_name (i := 1) scFree.nd rfl (Or.inl rfl) (Or.inr rfl)) (pgs_cons (pg_name (i := 2) scFree.nd rfl (Or.inl rfl) (Or.inr rfl)) pgs_nil)))
    (fun _ _ _ _ _ => pts_one (pt_cmpR op_eq (pv 2) (pe_glob (v := .int 2) rfl mF ⟨_, rfl⟩) (nomark _))) (fun _ _ _ _ _ => pv 1))), ?_⟩
  refine ⟨_, rfl, c, _, rfl, sqt hc, fun D hD => ?_⟩
  have hlm : (cs.map V.int).length = cs.length := List.length_map _
  refine lc_it (walk_enumT (xs := cs.map V.int)) (fun i H' => Same H H' ∧ H' D = some (.lst ((freeFrom 0 (cs.take i)).map fun i : Nat => V.int i))) ⟨same_upd hD, upd_same⟩ (fun i H' _ p => sqt (p.1 _ _ hc)) (fun i x H1 H2 hi p y => ?_) (fun H' p => q D H' hD p.1 ?_)
  · have hi' : i < cs.length := by omega
    obtain ⟨T, rfl, nT, rfl⟩ := enum_ints hi' y
    have s1 := same_upd (o := .tup [.int (i : Nat), .int cs[i]]) nT
    have hDT : D ≠ T := ne_of_none p.2 nT
    refine ⟨T, _, rfl, sqt upd_same, rfl, _, _, rfl, _, _, rfl, rfl, rfl, ?_⟩
    refine ⟨_, rfl, rfl, _, rfl, ?_⟩
    have tk := free_take (List.getElem?_eq_getElem hi')
    by_cases e : cs[i] = 2
    · have e2 : decide (V.int cs[i] = V.int 2) = true := decide_eq_true (by rw [e])
      refine ifT e2 ?_
      refine ⟨_, rfl, _, by rw [upd_ne hDT]; exact p.2, ?_, fun b z eb => ?_, ?_⟩
      · rw [List.length_map]
        exact small1000 (Nat.le_trans (freeFrom_len _ _) (by rw [List.length_take]; omega))
      · have nb : b ≠ D := fun z2 => by
          subst z2
          rw [eb] at hD
          cases hD
        rw [upd_ne nb]
        exact s1 _ _ (p.1 _ _ eb)
      · rw [upd_same, tk, if_pos e, List.map_append]
        rfl
    · have e2 : decide (V.int cs[i] = V.int 2) = false := decide_eq_false fun z => e (V.int.inj z)
      refine ifF e2 ?_
      refine ⟨p.1.trans s1, ?_⟩
      rw [upd_ne hDT, p.2, tk, if_neg e, List.append_nil]
  · have := p.2
    rw [hlm, List.take_length] at this
    exact this
end
end Kb
/-! kinds_so, fewest_so. -/
namespace Kb
open PySem PySem.Spec PyProof.Rows L2
/-- a table of 2^n values at v -/
structure ValsH (H : Hp) (v : Addr) (vals : List Int) (n : Nat) : Prop where
  at_ : H v = some (.tup (vals.map V.int))
  len : vals.length = 2 ^ n
  dig : ∀ x ∈ vals, x = 0 ∨ x = 1
theorem ValsH.keep {H H' : Hp} {v : Addr} {vals : List Int} {n : Nat} (h : ValsH H v vals n) (k : KeepT H H') : ValsH H' v vals n := ⟨k _ _ h.at_, h.len, h.dig⟩
theorem bitOr_KD {vals cs : List Int} {i : Nat} (h : i ∈ free cs) : Builtin.bitOr (KD vals (cs.set i 1)) (KD vals (cs.set i 0)) = KD vals cs := by
  have h' := memFree.mp h
  unfold KD
  rw [hasV_split (vals := vals) 0 h', hasV_split (vals := vals) 1 h']
  cases hasV vals (cs.set i 1) 0 <;> cases hasV vals (cs.set i 1) 1 <;> cases hasV vals (cs.set i 0) 0 <;> cases hasV vals (cs.set i 0) 1 <;> decide
/-- the bits in their places -/
def shlL : Nat → List Int → List Int
  | _, [] => []
  | k, x :: r => x * 2 ^ k :: shlL (k + 1) r
theorem shlL_take : ∀ (cs : List Int) (k i : Nat) (x : Int), cs[i]? = some x → shlL k (cs.take (i + 1)) = shlL k (cs.take i) ++ [x * 2 ^ (k + i)]
  | [], _, _, _, h => by simp at h
  | y :: r, k, 0, x, h => by
    have e : y = x := by simpa using h
    subst e
    simp [shlL]
  | y :: r, k, i + 1, x, h => by
    have h' : r[i]? = some x := by simpa using h
    have := shlL_take r (k + 1) i x h'
    rw [List.take_succ_cons, List.take_succ_cons]
    show y * 2 ^ k :: shlL (k + 1) (r.take (i + 1)) = y * 2 ^ k :: shlL (k + 1) (r.take i) ++ _
    rw [this, show k + 1 + i = k + (i + 1) by omega]
    rfl
theorem shlL_len : ∀ (cs : List Int) (k : Nat), (shlL k cs).length = cs.length
  | [], _ => rfl
  | _ :: r, k => by
    show (shlL (k + 1) r).length + 1 = r.length + 1
    rw [shlL_len r]
theorem shlL_sum : ∀ (cs : List Int) (k : Nat), (∀ x ∈ cs, x = 0 ∨ x = 1) → (shlL k cs).sum = (rowOf cs : Nat) * 2 ^ k
  | [], k, _ => by
    show (0 : Int) = ((0 : Nat) : Int) * 2 ^ k
    simp
  | x :: r, k, h => by
    have ih := shlL_sum r (k + 1) fun y hy => h y (List.mem_cons_of_mem _ hy)
    show (x * 2 ^ k :: shlL (k + 1) r).sum = ((x.toNat + 2 * rowOf r : Nat) : Int) * 2 ^ k
    rw [List.sum_cons, ih]
    have hx : ((x.toNat : Nat) : Int) = x := by
      rcases h x List.mem_cons_self with e | e <;> rw [e] <;> decide
    rw [Int.natCast_add, Int.natCast_mul, hx, Int.add_mul, Int.pow_succ]
    congr 1
    rw [Int.mul_comm (2 ^ k) 2, ← Int.mul_assoc, Int.mul_comm (rowOf r : Int) 2]
    rfl
theorem max_if (i j : Int) : (if j > i then j else i) = max i j := by
  by_cases h : j > i
  · rw [if_pos h]; omega
  · rw [if_neg h]; omega
section
variable {P : Program} {w : World} {K : PySem.W.Frag} {mg : Str → Option Value} {base : Heap}
/-! ### kinds_so -/
theorem scKinds : FnScope ["values", "cube", "known", "places", "row", "near", "far", "place", "bit"] ["values", "cube", "known"] (defScope s_kinds_so) := ⟨rfl, rfl, rfl, by decide +kernel, rfl, by decide +kernel, by decide +kernel⟩
def spKinds (k : Nat) : Sp := fun vs H Q _ => ∃ (v c d : Addr) (vals cs : List Int) (n : Nat) (ks : List (List Int)), vs = [.ref v, .ref c, .ref d] ∧ (n = 2 ∨ n = 3) ∧ ValsH H v vals n ∧ CubeH H c cs ∧ cs.length = n ∧ Dig cs ∧ (free cs).length < k ∧
  CD (KD vals) n H d ks ∧ ∀ H' ks', But [d] H H' → CD (KD vals) n H' d ks' → (∀ x ∈ ks, x ∈ ks') → cs ∈ ks' → Q (.int (KD vals cs)) H'
theorem ok_kinds {j k : Nat} {f f1 f2 : Addr} {fd fd1 fd2 : FuncData} (hj : 2 ≤ j) (F : Fun K "kinds_so" "kinds_so" s_kinds_so f fd) (bF : Binds K fd ["values", "cube", "known"] []) (kF : PySem.W.keepIn K (.ref f) = true) (mF : mg "kinds_so" = some (.ref f))
    (G : FnOk P w K mg base CX0 j f fd ["values", "cube", "known"] (spKinds k))
    (G1 : FnOk P w K mg base CX0 1 f1 fd1 ["cube"] spFree) (b1 : Binds K fd1 ["cube"] []) (k1 : PySem.W.keepIn K (.ref f1) = true) (m1 : mg "free_bits" = some (.ref f1))
    (G2 : FnOk P w K mg base CX0 2 f2 fd2 ["cube", "place"] spHalves) (b2 : Binds K fd2 ["cube", "place"] []) (k2 : PySem.W.keepIn K (.ref f2) = true) (m2 : mg "halves_of" = some (.ref f2))
    (ml : mg "len" = none) (ms : mg "sum" = none) (me : mg "enumerate" = none) : FnOk P w K mg base CX0 (j + 1) f fd ["values", "cube", "known"] (spKinds (k + 1)) := by
  refine F.ok scKinds (fun vs H Q E h => ?_) (fun cdv A outer s H vs Q E hr h => ?_)
  · obtain ⟨v, c, d, vals, cs, n, ks, rfl, _⟩ := h
    rfl
  obtain ⟨v, c, d, vals, cs, n, ks, rfl, hn, hv, hc, hl, hd, hk, hD, q⟩ := h
  have hu : A.units + 3 + 1 < cLine := by have := hr.units; show _ < cLine; exact Nat.lt_of_le_of_lt (by show A.units + 3 + 1 ≤ A.units + 3 + 64; omega) this
  have nd := scKinds.nd
  refine ⟨_, pss_cons (ps_if (pt_cmp (pc_dnotin hu (pv 1) (pv 2)))
      (pss_cons (ps_set (i := 3) nd rfl (.inl rfl) (pe_call G1 (hr.mono (by omega)) (by rfl) m1 k1 b1 .nil pass0 (pa_cons (pv 1) pa_nil)))
      (pss_one (ps_if (pt_cmpR op_eq (pe_callB call_len_seq (by rfl) ml PySem.boot_len (pa_cons (pv 3) pa_nil)) pe_int (nomark _))
        (pss_cons (ps_set (i := 4) nd rfl (.inl rfl) (pe_callB (cr_sum rfl) (by rfl) ms (by decide +kernel) (pa_cons
            (pe_lc (own := [("place", 7), ("bit", 8)]) (g := g2 K 7 8) rfl nd (pi_enumT (by rfl) me (pa_cons (pv 1) pa_nil)) (blkOk_by (N := ["values", "cube", "known", "places", "row", "near", "far", "place", "bit"]) (sc := defScope s_kinds_so) (by decide +kernel))
              (fun _ _ _ _ _ => pg_tup rfl (pgs_cons (pg_name (i := 7) nd rfl (Or.inl rfl) (Or.inr rfl)) (pgs_cons (pg_name (i := 8) nd rfl (Or.inl rfl) (Or.inr rfl)) pgs_nil)))
              (fun _ _ _ _ _ => pts_nil) (fun _ _ _ _ _ => pe_op op_shl (pv 8) (pv 7))) pa_nil)))
        (pss_one (ps_dput hu (pv 2) (pv 1) (pe_op op_add pe_int (pe_ix ix_tup (pv 0) (pv 4) (fun _ _ => rfl))) rfl)))
        (pss_cons (ps_asg (pe_call G2 (hr.mono (by omega)) (by rfl) m2 k2 b2 .nil pass0 (pa_cons (pv 1) (pa_cons (pe_ix ix_list (pv 3) pe_int (fun _ _ => rfl)) pa_nil)))
            (pg_tup rfl (pgs_cons (pg_name (i := 5) nd rfl (.inl rfl)) (pgs_cons (pg_name (i := 6) nd rfl (.inl rfl)) pgs_nil))))
        (pss_one (ps_dput hu (pv 2) (pv 1) (pe_op op_or (pe_call G hr (by rfl) mF kF bF .nil pass0 (pa_cons (pv 0) (pa_cons (pv 5) (pa_cons (pv 2) pa_nil))))
            (pe_call G hr (by rfl) mF kF bF .nil pass0 (pa_cons (pv 0) (pa_cons (pv 6) (pa_cons (pv 2) pa_nil))))) rfl)))))) pss_nil)
    (pss_one (ps_ret (pe_dget hu (pv 2) (pv 1) (fun _ _ => rfl)))), ?_⟩
  have lt3 : cs.length ≤ 100 := by omega
  obtain ⟨o, g1, g2, g3⟩ := hD.get hc
  refine ⟨_, rfl, _, rfl, d, o, rfl, g1, _, rfl, ?_⟩
  by_cases hin : cs ∈ ks
  · -- known
    refine ifF (by rw [g2 hin]; rfl) ?_
    exact ⟨_, rfl, _, rfl, d, _, rfl, hD.get_in hc hin, q H ks (But.refl _ _) hD (fun _ h => h) hin⟩
  · refine ifT (by rw [g3 hin]; rfl) ?_
    refine ⟨_, rfl, c, cs, rfl, hc, lt3, fun l H1 _ s1 e1 => ?_⟩
    have s1t := same_tup s1
    have hD1 : CD (KD vals) n H1 d ks := hD.but (But.same s1 (l := [])) (by simp)
    refine ⟨_, rfl, l, _, rfl, .inl (SqL.of e1), rfl, _, rfl, ?_⟩
    have elen : ((free cs).map fun i : Nat => V.int i).length = (free cs).length := List.length_map _
    by_cases hz : free cs = []
    · refine ifT (decide_eq_true (by rw [hz]; rfl)) ?_
      have h01 := nofree_dig hd hz
      refine ⟨_, rfl, c, _, rfl, sqt (s1t _ _ hc), fun D hD0 => ?_⟩
      have hlm : (cs.map V.int).length = cs.length := List.length_map _
      refine lc_it (walk_enumT (xs := cs.map V.int)) (fun i H' => Same H1 H' ∧ H' D = some (.lst ((shlL 0 (cs.take i)).map V.int))) ⟨same_upd hD0, upd_same⟩ (fun i H' _ p => sqt (p.1 _ _ (s1t _ _ hc))) (fun i x Ha Hb hi p y => ?_) (fun H2 p => ?_)
      · have hi' : i < cs.length := by omega
        obtain ⟨T, rfl, nT, rfl⟩ := enum_ints hi' y
        have sT := same_upd (o := .tup [.int (i : Nat), .int cs[i]]) nT
        have hDT : D ≠ T := ne_of_none p.2 nT
        refine ⟨T, _, rfl, sqt upd_same, rfl, _, _, rfl, _, _, rfl, rfl, rfl, ?_⟩
        refine ⟨_, rfl, _, rfl, cs[i], (i : Int), rfl, rfl, ⟨by omega, by omega, ?_⟩, ?_⟩
        · have := h01 cs[i] (List.getElem_mem hi')
          rcases this with e | e <;> rw [e] <;> decide
        refine ⟨_, by rw [upd_ne hDT]; exact p.2, ?_, fun b z eb => ?_, ?_⟩
        · rw [List.length_map, shlL_len]
          exact small1000 (by rw [List.length_take]; omega)
        · have nb : b ≠ D := fun z2 => by
            subst z2
            rw [eb] at hD0
            cases hD0
          rw [upd_ne nb]
          exact sT _ _ (p.1 _ _ eb)
        · rw [upd_same, shlL_take cs 0 i cs[i] (List.getElem?_eq_getElem hi'), List.map_append, Nat.zero_add]
          rfl
      · have p2 := p.2
        rw [hlm, List.take_length] at p2
        refine ⟨D, _, rfl, SqL.of p2, ?_⟩
        have es : (shlL 0 cs).sum = ((rowOf cs : Nat) : Int) := by
          rw [shlL_sum cs 0 h01]
          simp
        rw [es]
        have s2t := same_tup p.1
        have hrow : rowOf cs < vals.length := by
          rw [hv.len, ← hl]
          exact rowOf_lt cs h01
        have hgd : vals.getD (rowOf cs) 0 = vals[rowOf cs] := by
          rw [List.getD_eq_getElem?_getD, List.getElem?_eq_getElem hrow] <;> rfl
        refine ⟨_, rfl, _, rfl, v, _, ((rowOf cs : Nat) : Int), _, rfl, rfl, sqt (s2t _ _ (s1t _ _ hv.at_)), atI_nat (int_at hrow), 1, _, rfl, rfl, _, rfl, _, rfl, ?_⟩
        have hD2 : CD (KD vals) n H2 d ks := hD1.but (But.same p.1 (l := [])) (by simp)
        obtain ⟨H3, ks', hp, hD3, hb3, hm3⟩ := hD2.put hn (s2t _ _ (s1t _ _ hc)) hl hd
        have ek : KD vals cs = 1 + vals[rowOf cs] := by
          rw [← hgd]
          refine KD_row hd hz ?_
          rw [hgd]
          exact hv.dig _ (List.getElem_mem hrow)
        rw [ek] at hp
        refine ⟨d, H3, rfl, hp, ?_⟩
        refine ⟨_, rfl, _, rfl, d, _, rfl, hD3.get_in (hb3.tup _ _ (s2t _ _ (s1t _ _ hc))) ((hm3 cs).mpr (.inr rfl)), q H3 ks' ((But.same s1).trans ((But.same p.1).trans hb3)) hD3 (fun x hx => (hm3 x).mpr (.inl hx)) ((hm3 cs).mpr (.inr rfl))⟩
    · refine ifF (decide_eq_false fun z => hz ?_) ?_
      · have z1 : (((free cs).map fun i : Nat => V.int i).length : Int) = 0 := V.int.inj z
        rw [elen] at z1
        exact List.eq_nil_of_length_eq_zero (by omega)
      obtain ⟨i0, r0, hf⟩ : ∃ i r, free cs = i :: r := by
        cases h : free cs with
        | nil => exact absurd h hz
        | cons i r => exact ⟨i, r, rfl⟩
      have hi0 : i0 ∈ free cs := by rw [hf]; exact List.mem_cons_self
      refine ⟨_, rfl, _, rfl, l, _, 0, .int i0, rfl, rfl, SqL.of e1, atI_nat (j := 0) (by rw [hf]; rfl), c, cs, i0, rfl, s1t _ _ hc, free_lt hi0, lt3, fun t p1 p2 H2 s2 et ep1 ep2 => ?_⟩
      have s2t := same_tup s2
      refine ⟨t, _, rfl, sqt et, rfl, _, _, rfl, _, _, rfl, rfl, ?_⟩
      have hs1 := free_set hi0 (show (1 : Int) ≠ 2 by decide)
      have hs0 := free_set hi0 (show (0 : Int) ≠ 2 by decide)
      have hD2 : CD (KD vals) n H2 d ks := hD1.but (But.same s2 (l := [])) (by simp)
      refine ⟨_, rfl, _, rfl, _, rfl, v, p1, d, vals, cs.set i0 1, n, ks, rfl, hn, hv.keep (s1t.trans s2t), ep1, by rw [List.length_set]; exact hl, hd.set i0 (.inr (.inl rfl)), by omega, hD2, fun H3 ks3 hb3 hD3 hs3 hm3 => ?_⟩
      refine ⟨_, rfl, _, rfl, _, rfl, v, p2, d, vals, cs.set i0 0, n, ks3, rfl, hn, hv.keep (s1t.trans (s2t.trans hb3.tup)), ep2.keep hb3.tup, by rw [List.length_set]; exact hl, hd.set i0 (.inl rfl), by omega, hD3, fun H4 ks4 hb4 hD4 hs4 hm4 => ?_⟩
      refine ⟨_, _, rfl, rfl, ?_⟩
      have hc4 : CubeH H4 c cs := hc.keep (s1t.trans (s2t.trans (hb3.tup.trans hb4.tup)))
      obtain ⟨H5, ks5, hp, hD5, hb5, hm5⟩ := hD4.put hn hc4 hl hd
      rw [← bitOr_KD hi0] at hp
      refine ⟨_, rfl, _, rfl, d, H5, rfl, hp, ?_⟩
      exact ⟨_, rfl, _, rfl, d, _, rfl, hD5.get_in (hc4.keep hb5.tup) ((hm5 cs).mpr (.inr rfl)), q H5 ks5 ((But.same s1).trans ((But.same s2).trans (hb3.trans (hb4.trans hb5)))) hD5 (fun x hx => (hm5 x).mpr (.inl (hs4 x (hs3 x hx)))) ((hm5 cs).mpr (.inr rfl))⟩
theorem kinds_none {j : Nat} {f : Addr} {fd : FuncData} : FnOk P w K mg base CX0 j f fd ["values", "cube", "known"] (spKinds 0) := by
  have no : ∀ vs H Q E, ¬ spKinds 0 vs H Q E := fun vs H Q E h => by
    obtain ⟨v, c, d, vals, cs, n, ks, _, _, _, _, _, _, h1, _⟩ := h
    omega
  exact ⟨fun vs H Q E h => absurd h (no vs H Q E), fun A outer s H args us vs Q E _ _ _ _ h => absurd h (no vs H Q E)⟩
end
end Kb
/-! fewest_so, tree_so. -/
namespace Kb
open PySem PySem.Spec PyProof.Rows L2
theorem hu_room {k : Nat} {A : Around} {env : Env} (hr : Room k (A.deeper env)) : (A.deeper env).units + 1 < cLine := by have := hr.units; omega
theorem hu_room20 {k : Nat} {A : Around} {env : Env} (hr : Room k (A.deeper env)) : (A.deeper env).units + 20 < cLine := by have := hr.units; omega
def optV : Option Int → V
  | none => .non
  | some x => .int x
/-- the two tables of the fewest asks belong together -/
def FC (vals : List Int) (ks1 ks2 : List (List Int)) : Prop := ∀ cs ∈ ks2, cs ∈ ks1 ∧ (0 < F vals cs → ∀ i ∈ free cs, cs.set i 1 ∈ ks2 ∧ cs.set i 0 ∈ ks2)
theorem foldl_take {f : Nat → Int} {l : List Nat} {i x : Nat} (h : l[i]? = some x) : (l.take (i + 1)).foldl (stepB f) none = stepB f ((l.take i).foldl (stepB f) none) x := by
  rw [List.take_add_one, h, List.foldl_append]
  rfl
section
variable {P : Program} {w : World} {K : PySem.W.Frag} {mg : Str → Option Value} {base : Heap}
theorem scFew : FnScope ["values", "cube", "kinds", "known", "best", "place", "near", "far", "here"] ["values", "cube", "kinds", "known"] (defScope s_fewest_so) := ⟨rfl, rfl, rfl, by decide +kernel, rfl, by decide +kernel, by decide +kernel⟩
def spFew (k : Nat) : Sp := fun vs H Q _ => ∃ (v c d e : Addr) (vals cs : List Int) (n : Nat) (ks1 ks2 : List (List Int)), vs = [.ref v, .ref c, .ref d, .ref e] ∧ (n = 2 ∨ n = 3) ∧ ValsH H v vals n ∧ CubeH H c cs ∧ cs.length = n ∧ Dig cs ∧ (free cs).length < k ∧ d ≠ e ∧
  CD (KD vals) n H d ks1 ∧ CD (F vals) n H e ks2 ∧ FC vals ks1 ks2 ∧
  ∀ H' ks1' ks2', But [d, e] H H' → CD (KD vals) n H' d ks1' → CD (F vals) n H' e ks2' → FC vals ks1' ks2' → (∀ x ∈ ks1, x ∈ ks1') → (∀ x ∈ ks2, x ∈ ks2') → cs ∈ ks2' → Q (.int (F vals cs)) H'
theorem few_none {j : Nat} {f : Addr} {fd : FuncData} : FnOk P w K mg base CX0 j f fd ["values", "cube", "kinds", "known"] (spFew 0) := by
  have no : ∀ vs H Q E, ¬ spFew 0 vs H Q E := fun vs H Q E h => by
    obtain ⟨v, c, d, e, vals, cs, n, ks1, ks2, _, _, _, _, _, _, h1, _⟩ := h
    omega
  exact ⟨fun vs H Q E h => absurd h (no vs H Q E), fun A outer s H args us vs Q E _ _ _ _ h => absurd h (no vs H Q E)⟩
theorem ok_few {j k : Nat} {f f1 f2 f3 : Addr} {fd fd1 fd2 fd3 : FuncData} (hj : 6 ≤ j) (F0 : Fun K "fewest_so" "fewest_so" s_fewest_so f fd) (bF : Binds K fd ["values", "cube", "kinds", "known"] []) (kF : PySem.W.keepIn K (.ref f) = true) (mF : mg "fewest_so" = some (.ref f))
    (G : FnOk P w K mg base CX0 j f fd ["values", "cube", "kinds", "known"] (spFew k))
    (G1 : FnOk P w K mg base CX0 1 f1 fd1 ["cube"] spFree) (b1 : Binds K fd1 ["cube"] []) (k1 : PySem.W.keepIn K (.ref f1) = true) (m1 : mg "free_bits" = some (.ref f1))
    (G2 : FnOk P w K mg base CX0 2 f2 fd2 ["cube", "place"] spHalves) (b2 : Binds K fd2 ["cube", "place"] []) (k2 : PySem.W.keepIn K (.ref f2) = true) (m2 : mg "halves_of" = some (.ref f2))
    (G3 : FnOk P w K mg base CX0 6 f3 fd3 ["values", "cube", "known"] (spKinds 4)) (b3 : Binds K fd3 ["values", "cube", "known"] []) (k3 : PySem.W.keepIn K (.ref f3) = true) (m3 : mg "kinds_so" = some (.ref f3))
    (mm : mg "max" = none) : FnOk P w K mg base CX0 (j + 1) f fd ["values", "cube", "kinds", "known"] (spFew (k + 1)) := by
  refine F0.ok scFew (fun vs H Q E h => ?_) (fun cdv A outer s H vs Q E hr h => ?_)
  · obtain ⟨v, c, d, e, vals, cs, n, ks1, ks2, rfl, _⟩ := h
    rfl
  obtain ⟨v, c, d, e, vals, cs, n, ks1, ks2, rfl, hn, hv, hc, hl, hd, hk, hde, hD, hE, hFC, q⟩ := h
  have hu := hu_room hr
  have nd := scFew.nd
  refine ⟨_, pss_cons (ps_if (pt_cmp (pc_dnotin hu (pv 1) (pv 3)))
      (pss_cons (ps_set (i := 4) nd rfl (.inl rfl) pe_int)
      (pss_cons (ps_if (pt_cmpR op_eq (pe_call G3 (hr.mono hj) (by rfl) m3 k3 b3 .nil pass0 (pa_cons (pv 0) (pa_cons (pv 1) (pa_cons (pv 2) pa_nil)))) pe_int (nomark _))
        (pss_cons (ps_set (i := 4) nd rfl (.inl rfl) pe_non)
        (pss_one (ps_for PassesOwn.never rfl (pi_list (pe_call G1 (hr.mono (by omega)) (by rfl) m1 k1 b1 .nil pass0 (pa_cons (pv 1) pa_nil))) (pg_name (i := 5) nd rfl (.inl rfl))
          (pss_cons (ps_asg (pe_call G2 (hr.mono (by omega)) (by rfl) m2 k2 b2 .nil pass0 (pa_cons (pv 1) (pa_cons (pv 5) pa_nil)))
              (pg_tup rfl (pgs_cons (pg_name (i := 6) nd rfl (.inl rfl)) (pgs_cons (pg_name (i := 7) nd rfl (.inl rfl)) pgs_nil))))
          (pss_cons (ps_set (i := 8) nd rfl (.inl rfl) (pe_op op_add pe_int (pe_callB (call_max2 rfl) (by rfl) mm (by decide +kernel)
              (pa_cons (pe_call G hr (by rfl) mF kF bF .nil pass0 (pa_cons (pv 0) (pa_cons (pv 6) (pa_cons (pv 2) (pa_cons (pv 3) pa_nil)))))
              (pa_cons (pe_call G hr (by rfl) mF kF bF .nil pass0 (pa_cons (pv 0) (pa_cons (pv 7) (pa_cons (pv 2) (pa_cons (pv 3) pa_nil))))) pa_nil)))))
          (pss_one (ps_set (i := 4) nd rfl (.inl rfl) (pe_ifExp (PW.pt (pw_or (pt_cmpR op_isN (pv 4) pe_non (nomark _)) (pw_or1 (pt_cmpR op_lt (pv 8) (pv 4) (nomark _))))) (pv 8) (pv 4)))))))))
        pss_nil)
      (pss_one (ps_dput hu (pv 3) (pv 1) (pv 4) rfl)))) pss_nil)
    (pss_one (ps_ret (pe_dget hu (pv 3) (pv 1) (fun _ _ => rfl)))), ?_⟩
  have lt3 : cs.length ≤ 100 := by omega
  have ltf : (free cs).length < 4 := by have := free_len cs; omega
  obtain ⟨o, g1, g2, g3⟩ := hE.get hc
  refine ⟨_, rfl, _, rfl, e, o, rfl, g1, _, rfl, ?_⟩
  by_cases hin : cs ∈ ks2
  · refine ifF (by rw [g2 hin]; rfl) ?_
    exact ⟨_, rfl, _, rfl, e, _, rfl, hE.get_in hc hin, q H ks1 ks2 (But.refl _ _) hD hE hFC (fun _ h => h) (fun _ h => h) hin⟩
  refine ifT (by rw [g3 hin]; rfl) ?_
  -- best = 0; kinds_so(..)
  refine ⟨_, rfl, _, rfl, _, rfl, v, c, d, vals, cs, n, ks1, rfl, hn, hv, hc, hl, hd, ltf, hD, fun H1 ks1a hb1 hD1 hs1 hm1 => ?_⟩
  have hE1 : CD (F vals) n H1 e ks2 := hE.but hb1 (by simp; exact fun z => hde z.symm)
  have hFC1 : FC vals ks1a ks2 := fun x hx => ⟨hs1 x (hFC x hx).1, (hFC x hx).2⟩
  -- the store and the end
  have fin : ∀ (x : Int) (y5 y6 y7 y8 : Option V) (H2 : Hp) (ksa ksb : List (List Int)), x = F vals cs → But [d, e] H H2 → CD (KD vals) n H2 d ksa → CD (F vals) n H2 e ksb → FC vals ksa ksb → (∀ x ∈ ks1, x ∈ ksa) → (∀ x ∈ ks2, x ∈ ksb) → cs ∈ ksa →
      (0 < F vals cs → ∀ i ∈ free cs, cs.set i 1 ∈ ksb ∧ cs.set i 0 ∈ ksb) → ∃ H3 ksb', DPut H2 e (.ref c) (.int x) H3 ∧ CubeH H3 c cs ∧ CD (F vals) n H3 e ksb' ∧ cs ∈ ksb' ∧ Q (.int (F vals cs)) H3 := by
    intro x y5 y6 y7 y8 H2 ksa ksb ex hb hDa hEb hFCb hsa hsb hma hcl
    obtain ⟨H3, ksb', hp, hE3, hb3, hm3⟩ := hEb.put hn (hc.keep hb.tup) hl hd
    subst ex
    refine ⟨H3, ksb', hp, hc.keep (hb.tup.trans hb3.tup), hE3, (hm3 cs).mpr (.inr rfl), q H3 ksa ksb' (hb.trans (hb3.mono (by simp))) (hDa.but hb3 (by simp; exact hde)) hE3 ?_ hsa (fun z hz => (hm3 z).mpr (.inl (hsb z hz))) ((hm3 cs).mpr (.inr rfl))⟩
    intro z hz
    rcases (hm3 z).mp hz with h | h
    · refine ⟨(hFCb z h).1, fun hp i hi => ?_⟩
      have := (hFCb z h).2 hp i hi
      exact ⟨(hm3 _).mpr (.inl this.1), (hm3 _).mpr (.inl this.2)⟩
    · subst h
      refine ⟨hma, fun hp i hi => ?_⟩
      have := hcl hp i hi
      exact ⟨(hm3 _).mpr (.inl this.1), (hm3 _).mpr (.inl this.2)⟩
  refine ⟨rfl, _, rfl, if2 (fun e3 => ?_) (fun e3 => ?_)⟩
  · have e3' : KD vals cs = 3 := V.int.inj (of_decide_eq_true e3)
    -- the loop
    refine ⟨_, rfl, c, cs, rfl, hc.keep hb1.tup, lt3, fun l H2 _ s2 e2 => ?_⟩
    have elen : ((free cs).map fun i : Nat => V.int i).length = (free cs).length := List.length_map _
    refine ⟨l, rfl, ⟨_, SqL.of e2⟩, for_list (K := K) (a := l) (xs := (free cs).map fun i : Nat => V.int i) (fun i σ' H' => ∃ y5 y6 y7 y8 ksa ksb, σ' = [some (.ref v), some (.ref c), some (.ref d), some (.ref e), some (optV (((free cs).take i).foldl (stepB fun i => 1 + max (F vals (cs.set i 1)) (F vals (cs.set i 0))) none)), y5, y6, y7, y8] ∧
      H' l = some (.lst ((free cs).map fun i : Nat => V.int i)) ∧ But [d, e] H H' ∧ CD (KD vals) n H' d ksa ∧ CD (F vals) n H' e ksb ∧ FC vals ksa ksb ∧ (∀ x ∈ ks1, x ∈ ksa) ∧ (∀ x ∈ ks2, x ∈ ksb) ∧ cs ∈ ksa ∧ (∀ j ∈ (free cs).take i, cs.set j 1 ∈ ksb ∧ cs.set j 0 ∈ ksb))
      ⟨_, _, _, _, ks1a, ks2, rfl, e2, (hb1.mono (by simp)).trans (But.same s2), hD1.but (But.same s2 (l := [])) (by simp), hE1.but (But.same s2 (l := [])) (by simp), hFC1, hs1, fun _ h => h, hm1, fun j hj => by simp at hj⟩ (fun i σ' H' _ p => ?_) (fun i x σ' H' hx p => ?_) (fun σ' H' p => ?_)⟩
    · obtain ⟨_, _, _, _, _, _, _, p2, _⟩ := p
      exact SqL.of p2
    · obtain ⟨y5, y6, y7, y8, ksa, ksb, rfl, p2, p3, p4, p5, p6, p7, p8, p9, p10⟩ := p
      rw [List.getElem?_map] at hx
      obtain ⟨pl, hpl, rfl⟩ := Option.map_eq_some_iff.mp hx
      have hmem : pl ∈ free cs := List.mem_of_getElem? hpl
      have hf1 := free_set hmem (show (1 : Int) ≠ 2 by decide)
      have hf0 := free_set hmem (show (0 : Int) ≠ 2 by decide)
      refine ⟨_, rfl, _, rfl, c, cs, pl, rfl, hc.keep p3.tup, free_lt hmem, lt3, fun t q1 q2 H3 s3 et eq1 eq2 => ?_⟩
      refine ⟨t, _, rfl, sqt et, rfl, _, _, rfl, _, _, rfl, rfl, ?_⟩
      have s3t := same_tup s3
      refine ⟨_, rfl, _, rfl, _, rfl, _, rfl, v, q1, d, e, vals, cs.set pl 1, n, ksa, ksb, rfl, hn, hv.keep (p3.tup.trans s3t), eq1, by rw [List.length_set]; exact hl, hd.set pl (.inr (.inl rfl)), by omega, hde, p4.but (But.same s3 (l := [])) (by simp), p5.but (But.same s3 (l := [])) (by simp), p6, fun H4 ksa4 ksb4 b4 c4 d4 f4 u4 v4 m4 => ?_⟩
      refine ⟨_, rfl, _, rfl, _, rfl, _, rfl, v, q2, d, e, vals, cs.set pl 0, n, ksa4, ksb4, rfl, hn, hv.keep (p3.tup.trans (s3t.trans b4.tup)), eq2.keep b4.tup, by rw [List.length_set]; exact hl, hd.set pl (.inl rfl), by omega, hde, c4, d4, f4, fun H5 ksa5 ksb5 b5 c5 d5 f5 u5 v5 m5 => ?_⟩
      refine ⟨_, _, rfl, ?_⟩
      refine ⟨_, _, rfl, rfl, ?_⟩
      have hl5 : H5 l = some (.lst ((free cs).map fun i : Nat => V.int i)) := by
        have a : l ∉ [d, e] := by
          simp only [List.mem_cons, List.not_mem_nil, or_false, not_or]
          exact ⟨ne_of p2 p4.at_ (by intro z; cases z), ne_of p2 p5.at_ (by intro z; cases z)⟩
        exact b5.rest _ _ a (b4.rest _ _ a (s3 _ _ p2))
      have hb5 : But [d, e] H H5 := p3.trans ((But.same s3).trans (b4.trans b5))
      have hcl : ∀ j ∈ (free cs).take (i + 1), cs.set j 1 ∈ ksb5 ∧ cs.set j 0 ∈ ksb5 := by
        intro j hj
        rw [List.take_add_one, hpl] at hj
        rcases List.mem_append.mp hj with z | z
        · exact ⟨v5 _ (v4 _ (p10 j z).1), v5 _ (v4 _ (p10 j z).2)⟩
        · have z' : j = pl := by simpa using z
          rw [z']
          exact ⟨v5 _ m4, m5⟩
      have tk := foldl_take (f := fun i => 1 + max (F vals (cs.set i 1)) (F vals (cs.set i 0))) hpl
      cases hbest : ((free cs).take i).foldl (stepB fun i => 1 + max (F vals (cs.set i 1)) (F vals (cs.set i 0))) none with
      | none =>
        rw [hbest] at tk
        refine ⟨_, rfl, rfl, true, rfl, ?_⟩
        refine ifT rfl ?_
        refine ⟨_, rfl, some (.int pl), some (.ref q1), some (.ref q2), some (.int (1 + (if F vals (cs.set pl 0) > F vals (cs.set pl 1) then F vals (cs.set pl 0) else F vals (cs.set pl 1)))), ksa5, ksb5, ?_, hl5, hb5, c5, d5, f5, fun x hx => u5 x (u4 x (p7 x hx)), fun x hx => v5 x (v4 x (p8 x hx)), u5 _ (u4 _ p9), hcl⟩
        rw [tk]
        show _ = [_, _, _, _, some (V.int (1 + max (F vals (cs.set pl 1)) (F vals (cs.set pl 0)))), _, _, _, _]
        rw [← max_if]
        rfl
      | some b0 =>
        rw [hbest] at tk
        refine ⟨_, rfl, rfl, false, rfl, ?_⟩
        refine ifF rfl ?_
        refine ⟨_, rfl, _, rfl, _, _, rfl, rfl, _, rfl, if2 (fun hb => ?_) (fun hb => ?_)⟩
        · refine ⟨_, rfl, some (.int pl), some (.ref q1), some (.ref q2), some (.int (1 + (if F vals (cs.set pl 0) > F vals (cs.set pl 1) then F vals (cs.set pl 0) else F vals (cs.set pl 1)))), ksa5, ksb5, ?_, hl5, hb5, c5, d5, f5, fun x hx => u5 x (u4 x (p7 x hx)), fun x hx => v5 x (v4 x (p8 x hx)), u5 _ (u4 _ p9), hcl⟩
          have hb' := of_decide_eq_true hb
          rw [max_if] at hb'
          rw [tk]
          show _ = [_, _, _, _, some (optV (some (if 1 + max (F vals (cs.set pl 1)) (F vals (cs.set pl 0)) < b0 then 1 + max (F vals (cs.set pl 1)) (F vals (cs.set pl 0)) else b0))), _, _, _, _]
          rw [if_pos hb', ← max_if]
          rfl
        · refine ⟨_, rfl, some (.int pl), some (.ref q1), some (.ref q2), some (.int (1 + (if F vals (cs.set pl 0) > F vals (cs.set pl 1) then F vals (cs.set pl 0) else F vals (cs.set pl 1)))), ksa5, ksb5, ?_, hl5, hb5, c5, d5, f5, fun x hx => u5 x (u4 x (p7 x hx)), fun x hx => v5 x (v4 x (p8 x hx)), u5 _ (u4 _ p9), hcl⟩
          have hb' := of_decide_eq_false hb
          rw [max_if] at hb'
          rw [tk]
          show _ = [_, _, _, _, some (optV (some (if 1 + max (F vals (cs.set pl 1)) (F vals (cs.set pl 0)) < b0 then 1 + max (F vals (cs.set pl 1)) (F vals (cs.set pl 0)) else b0))), _, _, _, _]
          rw [if_neg hb']
          rfl
    · obtain ⟨y5, y6, y7, y8, ksa, ksb, rfl, p2, p3, p4, p5, p6, p7, p8, p9, p10⟩ := p
      rw [elen, List.take_of_length_le (Nat.le_refl _)] at p10 ⊢
      obtain ⟨r, er, _⟩ := best_cons (f := fun i => 1 + max (F vals (cs.set i 1)) (F vals (cs.set i 0))) (l := free cs) (KD_free hd e3')
      have eF : r = F vals cs := by
        rw [F_eq, if_pos e3', er]
        rfl
      have er' : (free cs).foldl (stepB fun i => 1 + max (F vals (cs.set i 1)) (F vals (cs.set i 0))) none = some r := er
      rw [er']
      obtain ⟨H3, ksb', hp, hc3, hE3, hm3, hq⟩ := fin r y5 y6 y7 y8 H' ksa ksb eF p3 p4 p5 p6 p7 p8 p9 (fun _ => p10)
      exact ⟨_, rfl, _, rfl, _, rfl, e, H3, rfl, hp, _, rfl, _, rfl, e, _, rfl, hE3.get_in hc3 hm3, hq⟩
  · have e3' : ¬ KD vals cs = 3 := fun z => of_decide_eq_false e3 (by rw [z])
    have eF : (0 : Int) = F vals cs := by rw [F_eq, if_neg e3']
    obtain ⟨H3, ksb', hp, hc3, hE3, hm3, hq⟩ := fin 0 none none none none H1 ks1a ks2 eF (hb1.mono (by simp)) hD1 hE1 hFC1 hs1 (fun _ h => h) hm1 (fun h => by rw [← eF] at h; exact absurd h (by decide))
    exact ⟨_, rfl, _, rfl, _, rfl, e, H3, rfl, hp, _, rfl, _, rfl, e, _, rfl, hE3.get_in hc3 hm3, hq⟩
end
end Kb
/-! tree_so, entries_so, least_so. -/
namespace Kb
open PySem PySem.Spec PyProof.Rows L2
theorem But.ofNone {l : List Addr} {H H' : Hp} (b : But l H H') (h : ∀ a ∈ l, H a = none) : Same H H' := fun c o e => by
  refine b.rest c o (fun z => ?_) e
  rw [h c z] at e
  cases e
/-- a dict of the entries es with the values f -/
structure ED (P : Program) (w : World) (f : En → V) (H : Hp) (d : Addr) (es : List En) : Prop where
  at_ : ND P w H d (mkG id f es)
  nd : es.Nodup
theorem ED.but {P : Program} {w : World} {f : En → V} {H H' : Hp} {d : Addr} {es : List En} {l : List Addr} (x : ED P w f H d es) (b : But l H H') (h : d ∉ l) : ED P w f H' d es := by
  refine ⟨x.at_.keep b.tup ?_, x.nd⟩
  obtain ⟨_, xs, hd, _⟩ := x.at_
  rw [hd]
  exact b.rest _ _ h hd
theorem ED.val {P : Program} {w : World} {f : En → V} {H : Hp} {d : Addr} {es : List En} (x : ED P w f H d es) (e : En) : (e ∈ es → valV (mkG id f es) e = some (f e)) ∧ (e ∉ es → valV (mkG id f es) e = none) := by
  have := mkG_val (g := (id : En → En)) (fun _ _ h => h) f e es
  exact ⟨fun h => this.trans (if_pos h), fun h => this.trans (if_neg h)⟩
theorem ED.isin {P : Program} {w : World} {f : En → V} {H : Hp} {d : Addr} {es : List En} (x : ED P w f H d es) (e : En) : (valV (mkG id f es) e).isSome = true ↔ e ∈ es := by
  by_cases h : e ∈ es
  · rw [(x.val e).1 h]; simp [h]
  · rw [(x.val e).2 h]; simp [h]
theorem ED.put {P : Program} {w : World} {f : En → V} {H H' : Hp} {d : Addr} {es : List En} {e : En} (x : ED P w f H d es) (h : ND P w H' d (putK (mkG id f es) e (f e))) : ED P w f H' d (addK e es) := by
  have := mkG_put (g := (id : En → En)) (fun _ _ h => h) f e es
  refine ⟨?_, addK_nodup x.nd⟩
  rw [← this]
  exact h
theorem ED.putBut {P : Program} {w : World} {f : En → V} {H H' : Hp} {d : Addr} {es : List En} (x : ED P w f H d es) (o : ∀ c, c ≠ d → H' c = H c) (k : KeepT H H') : But [d] H H' :=
  ⟨k, fun b u hb e => by rw [o b (by simpa using hb)]; exact e⟩
theorem ED.ne {P : Program} {w : World} {f : En → V} {H : Hp} {d a : Addr} {es : List En} {xs : List V} (x : ED P w f H d es) (h : H a = some (.lst xs)) : a ≠ d := by
  obtain ⟨_, ys, hd, _⟩ := x.at_
  exact ne_of h hd (by intro z; cases z)
theorem ED.neD {P : Program} {w : World} {f : En → V} {H : Hp} {d a : Addr} {es : List En} {kvs : List (List Key × V)} (x : ED P w f H d es) (h : H a = some (.dT kvs)) : a ≠ d := by
  obtain ⟨_, ys, hd, _⟩ := x.at_
  exact ne_of h hd (by intro z; cases z)
section
variable {P : Program} {w : World} {K : PySem.W.Frag} {mg : Str → Option Value} {base : Heap}
/-! ### tree_so -/
theorem scTree : FnScope ["cube", "kinds", "known", "place", "near", "far"] ["cube", "kinds", "known"] (defScope s_tree_so) := ⟨rfl, rfl, rfl, by decide +kernel, rfl, by decide +kernel, by decide +kernel⟩
def spTree (k : Nat) : Sp := fun vs H Q _ => ∃ (c d e : Addr) (vals cs : List Int) (n : Nat) (ks1 ks2 : List (List Int)), vs = [.ref c, .ref d, .ref e] ∧ (n = 2 ∨ n = 3) ∧ CubeH H c cs ∧ cs.length = n ∧ Dig cs ∧ (free cs).length < k ∧
  CD (KD vals) n H d ks1 ∧ CD (F vals) n H e ks2 ∧ FC vals ks1 ks2 ∧ cs ∈ ks2 ∧ ∀ r H', Same H H' → Q r H'
theorem tree_none {j : Nat} {f : Addr} {fd : FuncData} : FnOk P w K mg base CX0 j f fd ["cube", "kinds", "known"] (spTree 0) := by
  have no : ∀ vs H Q E, ¬ spTree 0 vs H Q E := fun vs H Q E h => by
    obtain ⟨c, d, e, vals, cs, n, ks1, ks2, _, _, _, _, _, h1, _⟩ := h
    omega
  exact ⟨fun vs H Q E h => absurd h (no vs H Q E), fun A outer s H args us vs Q E _ _ _ _ h => absurd h (no vs H Q E)⟩
theorem ok_tree {j k : Nat} {f f1 f2 : Addr} {fd fd1 fd2 : FuncData} (hj : 2 ≤ j) (F0 : Fun K "tree_so" "tree_so" s_tree_so f fd) (bF : Binds K fd ["cube", "kinds", "known"] []) (kF : PySem.W.keepIn K (.ref f) = true) (mF : mg "tree_so" = some (.ref f))
    (G : FnOk P w K mg base CX0 j f fd ["cube", "kinds", "known"] (spTree k))
    (G1 : FnOk P w K mg base CX0 1 f1 fd1 ["cube"] spFree) (b1 : Binds K fd1 ["cube"] []) (k1 : PySem.W.keepIn K (.ref f1) = true) (m1 : mg "free_bits" = some (.ref f1))
    (G2 : FnOk P w K mg base CX0 2 f2 fd2 ["cube", "place"] spHalves) (b2 : Binds K fd2 ["cube", "place"] []) (k2 : PySem.W.keepIn K (.ref f2) = true) (m2 : mg "halves_of" = some (.ref f2))
    (mm : mg "max" = none) : FnOk P w K mg base CX0 (j + 1) f fd ["cube", "kinds", "known"] (spTree (k + 1)) := by
  refine F0.ok scTree (fun vs H Q E h => ?_) (fun cdv A outer s H vs Q E hr h => ?_)
  · obtain ⟨c, d, e, vals, cs, n, ks1, ks2, rfl, _⟩ := h
    rfl
  obtain ⟨c, d, e, vals, cs, n, ks1, ks2, rfl, hn, hc, hl, hd, hk, hD, hE, hFC, hin, q⟩ := h
  have hu := hu_room hr
  have nd := scTree.nd
  refine ⟨_, pss_cons (ps_if (pt_cmpR op_eq (pe_dget hu (pv 2) (pv 0) (fun _ _ => rfl)) pe_int (nomark _)) (pss_one (ps_ret (pe_op op_sub (pe_dget hu (pv 1) (pv 0) (fun _ _ => rfl)) pe_int))) pss_nil)
    (pss_cons (ps_for PassesOwn.never rfl (pi_list (pe_call G1 (hr.mono (by omega)) (by rfl) m1 k1 b1 .nil pass0 (pa_cons (pv 0) pa_nil))) (pg_name (i := 3) nd rfl (.inl rfl))
      (pss_cons (ps_asg (pe_call G2 (hr.mono (by omega)) (by rfl) m2 k2 b2 .nil pass0 (pa_cons (pv 0) (pa_cons (pv 3) pa_nil)))
          (pg_tup rfl (pgs_cons (pg_name (i := 4) nd rfl (.inl rfl)) (pgs_cons (pg_name (i := 5) nd rfl (.inl rfl)) pgs_nil))))
      (pss_one (ps_if (pt_cmpR op_eq (pe_op op_add pe_int (pe_callB (call_max2 rfl) (by rfl) mm (by decide +kernel) (pa_cons (pe_dget hu (pv 2) (pv 4) (fun _ _ => rfl)) (pa_cons (pe_dget hu (pv 2) (pv 5) (fun _ _ => rfl)) pa_nil)))) (pe_dget hu (pv 2) (pv 0) (fun _ _ => rfl)) (nomark _))
        (pss_one (ps_ret (pe_tup (pa_cons pe_str (pa_cons (pv 3) (pa_cons (pe_call G hr (by rfl) mF kF bF .nil pass0 (pa_cons (pv 4) (pa_cons (pv 1) (pa_cons (pv 2) pa_nil))))
          (pa_cons (pe_call G hr (by rfl) mF kF bF .nil pass0 (pa_cons (pv 5) (pa_cons (pv 1) (pa_cons (pv 2) pa_nil)))) pa_nil))))))) pss_nil))))
    (pss_one (ps_ret pe_non))), ?_⟩
  have lt3 : cs.length ≤ 100 := by omega
  refine ⟨_, rfl, _, rfl, e, _, rfl, hE.get_in hc hin, rfl, _, rfl, if2 (fun e0 => ?_) (fun e0 => ?_)⟩
  · exact ⟨_, rfl, _, rfl, d, _, rfl, hD.get_in hc (hFC cs hin).1, _, _, rfl, rfl, q _ H (fun _ _ h => h)⟩
  have hpos : 0 < F vals cs := by
    have h0 := F_nn vals cs
    have : ¬ F vals cs = 0 := fun z => of_decide_eq_false e0 (by rw [z])
    omega
  have hcl := (hFC cs hin).2 hpos
  refine ⟨_, rfl, c, cs, rfl, hc, lt3, fun l H1 _ s1 e1 => ?_⟩
  refine ⟨l, rfl, ⟨_, SqL.of e1⟩, for_list (K := K) (a := l) (xs := (free cs).map fun i : Nat => V.int i) (fun i σ' H' => ∃ y3 y4 y5, σ' = [some (.ref c), some (.ref d), some (.ref e), y3, y4, y5] ∧ Same H H' ∧ H' l = some (.lst ((free cs).map fun i : Nat => V.int i)))
    ⟨_, _, _, rfl, s1, e1⟩ (fun i σ' H' _ p => ?_) (fun i x σ' H' hx p => ?_) (fun σ' H' p => ?_)⟩
  · obtain ⟨_, _, _, _, _, p2⟩ := p
    exact SqL.of p2
  · obtain ⟨y3, y4, y5, rfl, p1, p2⟩ := p
    rw [List.getElem?_map] at hx
    obtain ⟨pl, hpl, rfl⟩ := Option.map_eq_some_iff.mp hx
    have hmem : pl ∈ free cs := List.mem_of_getElem? hpl
    have hf1 := free_set hmem (show (1 : Int) ≠ 2 by decide)
    have hf0 := free_set hmem (show (0 : Int) ≠ 2 by decide)
    have pt := same_tup p1
    refine ⟨_, rfl, _, rfl, c, cs, pl, rfl, hc.keep pt, free_lt hmem, lt3, fun t q1 q2 H3 s3 et eq1 eq2 => ?_⟩
    refine ⟨t, _, rfl, sqt et, rfl, _, _, rfl, _, _, rfl, rfl, ?_⟩
    have s3' : Same H H3 := p1.trans s3
    have hE3 : CD (F vals) n H3 e ks2 := hE.but (But.same s3' (l := [])) (by simp)
    have hD3 : CD (KD vals) n H3 d ks1 := hD.but (But.same s3' (l := [])) (by simp)
    refine ⟨_, rfl, _, rfl, e, _, rfl, hE3.get_in eq1 (hcl pl hmem).1, _, rfl, _, rfl, e, _, rfl, hE3.get_in eq2 (hcl pl hmem).2, _, _, rfl, _, _, rfl, rfl, ?_⟩
    refine ⟨_, rfl, _, rfl, e, _, rfl, hE3.get_in (hc.keep (same_tup s3')) hin, rfl, _, rfl, if2 (fun e4 => ?_) (fun e4 => ?_)⟩
    · refine ⟨_, rfl, _, rfl, _, rfl, _, rfl, q1, d, e, vals, cs.set pl 1, n, ks1, ks2, rfl, hn, eq1, by rw [List.length_set]; exact hl, hd.set pl (.inr (.inl rfl)), by omega, hD3, hE3, hFC, (hcl pl hmem).1, fun r4 H4 s4 => ?_⟩
      refine ⟨_, rfl, _, rfl, _, rfl, q2, d, e, vals, cs.set pl 0, n, ks1, ks2, rfl, hn, eq2.keep (same_tup s4), by rw [List.length_set]; exact hl, hd.set pl (.inl rfl), by omega, hD3.but (But.same s4 (l := [])) (by simp), hE3.but (But.same s4 (l := [])) (by simp), hFC, (hcl pl hmem).2, fun r5 H5 s5 => ?_⟩
      exact ⟨(by show 4 ≤ sizeLine; decide), fun t5 ht5 => q _ _ (s3'.trans (s4.trans (s5.trans (same_upd ht5))))⟩
    · exact ⟨_, _, _, rfl, s3', s3 _ _ p2⟩
  · obtain ⟨y3, y4, y5, rfl, p1, p2⟩ := p
    exact q _ _ p1
/-! ### entries_so -/
/-- the weight of what is left -/
def wtV (H : Hp) : V → Nat
  | .ref r => match H r with
    | some (.tup (.int a :: _)) => 4 ^ (a + 1).toNat
    | _ => 0
  | _ => 0
def wtL (H : Hp) (l : Addr) : Nat := match H l with
  | some (.lst xs) => (xs.map (wtV H)).sum
  | _ => 0
def wtE (e : En) : Nat := 4 ^ (e.1 + 1).toNat
theorem wtV_ent {H : Hp} {r : Addr} {e : En} (h : EntH H r e) : wtV H (.ref r) = wtE e := by
  obtain ⟨c, h1, _⟩ := h
  unfold wtV
  simp only [h1]
  rfl
theorem wtL_ent {H : Hp} {l : Addr} {its : List AE} (h : H l = some (.lst (its.map fun k => V.ref k.1))) (he : ∀ k ∈ its, EntH H k.1 k.2) : wtL H l = (its.map fun k => wtE k.2).sum := by
  unfold wtL
  simp only [h, List.map_map]
  congr 1
  exact List.map_congr_left fun k hk => wtV_ent (he k hk)
theorem sum_push {its0 ps : List AE} {a : Int} (ha : 0 < a) (hp : ∀ k ∈ ps, k.2.1 = a - 1) (hl : ps.length ≤ 3) : ((its0 ++ ps).map fun k => wtE k.2).sum < (its0.map fun k => wtE k.2).sum + 4 ^ (a + 1).toNat := by
  have g : ∀ ps : List AE, (∀ k ∈ ps, k.2.1 = a - 1) → (ps.map fun k => wtE k.2).sum = ps.length * 4 ^ a.toNat := by
    intro ps
    induction ps with
    | nil => intro _; simp
    | cons p ps ih =>
      intro h
      rw [List.map_cons, List.sum_cons, ih fun k hk => h k (List.mem_cons_of_mem _ hk), List.length_cons, Nat.succ_mul]
      have e : wtE p.2 = 4 ^ a.toNat := by
        unfold wtE
        rw [h p List.mem_cons_self, show a - 1 + 1 = a by omega]
      rw [e, Nat.add_comm]
  rw [List.map_append, List.sum_append, g ps hp]
  have e : (a + 1).toNat = a.toNat + 1 := by omega
  rw [e, Nat.pow_succ]
  have : 0 < 4 ^ a.toNat := Nat.pow_pos (by decide)
  have h3 : ps.length * 4 ^ a.toNat ≤ 3 * 4 ^ a.toNat := Nat.mul_le_mul_right _ hl
  omega
theorem len_le_wt : ∀ its : List AE, its.length ≤ (its.map fun k => wtE k.2).sum
  | [] => Nat.le_refl _
  | k :: its => by
    have ih := len_le_wt its
    rw [List.length_cons, List.map_cons, List.sum_cons]
    have : 0 < wtE k.2 := Nat.pow_pos (by decide)
    omega
theorem scEnt : FnScope ["cube", "known", "left", "found", "asks", "here", "place", "near", "far"] ["cube", "known"] (defScope s_entries_so) := ⟨rfl, rfl, rfl, by decide +kernel, rfl, by decide +kernel, by decide +kernel⟩
def spEnt : Sp := fun vs H Q _ => ∃ (c e : Addr) (vals cs : List Int) (n : Nat) (ks1 ks2 : List (List Int)), vs = [.ref c, .ref e] ∧ (n = 2 ∨ n = 3) ∧ CubeH H c cs ∧ CD (F vals) n H e ks2 ∧ FC vals ks1 ks2 ∧ cs ∈ ks2 ∧
  ∀ H' t ks, Same H H' → BookH H' t ks → (∀ k ∈ ks, EnLo n k.2) → ks.length ≤ 27 → Q (.ref t) H'
/-- a thing that is left -/
def LeftOk (vals : List Int) (ks2 : List (List Int)) (e : En) : Prop := e.2 ∈ ks2 ∧ -1 ≤ e.1 ∧ e.1 < F vals e.2
theorem ok_ent {f f1 f2 : Addr} {fd fd1 fd2 : FuncData} (F0 : Fun K "entries_so" "entries_so" s_entries_so f fd)
    (G1 : FnOk P w K mg base CX0 1 f1 fd1 ["cube"] spFree) (b1 : Binds K fd1 ["cube"] []) (k1 : PySem.W.keepIn K (.ref f1) = true) (m1 : mg "free_bits" = some (.ref f1))
    (G2 : FnOk P w K mg base CX0 2 f2 fd2 ["cube", "place"] spHalves) (b2 : Binds K fd2 ["cube", "place"] []) (k2 : PySem.W.keepIn K (.ref f2) = true) (m2 : mg "halves_of" = some (.ref f2))
    (ml : mg "len" = none) (ms : mg "sorted" = none) (mt : mg "tuple" = none) : FnOk P w K mg base CX0 3 f fd ["cube", "known"] spEnt := by
  refine F0.ok scEnt (fun vs H Q E h => ?_) (fun cdv A outer s H vs Q E hr h => ?_)
  · obtain ⟨c, e, vals, cs, n, ks1, ks2, rfl, _⟩ := h
    rfl
  obtain ⟨c, e, vals, cs, n, ks1, ks2, rfl, hn, hc, hE, hFC, hin, q⟩ := h
  have hu := hu_room hr
  have hu20 := hu_room20 hr
  have nd := scEnt.nd
  refine ⟨_, pss_cons (ps_par (i := 2) (j := 3) rfl nd rfl rfl (by decide) rfl rfl (pa_cons (pe_lst (pa_cons (pe_tup (pa_cons (pe_op op_sub (pe_dget hu (pv 1) (pv 0) (fun _ _ => rfl)) pe_int) (pa_cons (pv 0) pa_nil))) pa_nil)) (pa_cons pe_dnewN pa_nil)) (by rfl))
    (pss_cons (ps_while PassesOwn.never (pt_cmpR op_gt (pe_callB call_len_seq (by rfl) ml PySem.boot_len (pa_cons (pv 2) pa_nil)) pe_int (nomark _))
      (pss_cons (ps_asg (pe_bm0 PySem.F.plainAttrs_list PySem.F.slot_list_pop PySem.F.type_list_pop mt_pop (pv 2)) (pg_tup rfl (pgs_cons (pg_name (i := 4) nd rfl (.inl rfl)) (pgs_cons (pg_name (i := 5) nd rfl (.inl rfl)) pgs_nil))))
      (pss_cons (ps_if (PW.pt (pw_or (pt_cmpR op_lt (pv 4) pe_int (nomark _)) (pw_or1 (pt_cmpR (op_ndIn hu20) (pe_tup (pa_cons (pv 4) (pa_cons (pv 5) pa_nil))) (pv 3) (by rfl))))) (pss_one ps_continue) pss_nil)
      (pss_cons (ps_asg pe_bl (pg_sub (pv 3) (pe_tup (pa_cons (pv 4) (pa_cons (pv 5) pa_nil))) (set_nd hu20)))
      (pss_one (ps_if (pt_cmpR op_gt (pv 4) pe_int (nomark _))
        (pss_one (ps_for PassesOwn.never rfl (pi_list (pe_call G1 (hr.mono (by omega)) (by rfl) m1 k1 b1 .nil pass0 (pa_cons (pv 5) pa_nil))) (pg_name (i := 6) nd rfl (.inl rfl))
          (pss_cons (ps_asg (pe_call G2 hr (by rfl) m2 k2 b2 .nil pass0 (pa_cons (pv 5) (pa_cons (pv 6) pa_nil)))
              (pg_tup rfl (pgs_cons (pg_name (i := 7) nd rfl (.inl rfl)) (pgs_cons (pg_name (i := 8) nd rfl (.inl rfl)) pgs_nil))))
          (pss_one (ps_expr (pe_bm PySem.F.plainAttrs_list PySem.F.slot_list_append PySem.F.type_list_append mt_append (pv 2) (pa_cons (pe_tup (pa_cons (pe_op op_sub (pv 4) pe_int)
            (pa_cons (pe_ifExp (pt_cmpR op_ge (pe_dget hu (pv 1) (pv 7) (fun _ _ => rfl)) (pv 4) (nomark _)) (pv 7) (pv 8)) pa_nil))) pa_nil))))))) pss_nil))))))
    (pss_one (ps_ret (pe_callTy call_tuple_of (by rfl) mt (by decide +kernel) (pa_cons (pe_callB (cr_sortND rfl hu20) (by rfl) ms (by decide +kernel) (pa_cons (pv 3) pa_nil)) pa_nil))))), ?_⟩
  -- left, found
  refine ⟨_, rfl, _, rfl, e, _, rfl, hE.get_in hc hin, _, _, rfl, rfl, _, rfl, (by show 2 ≤ sizeLine; decide), fun r0 hr0 => ?_⟩
  refine ⟨(by show 1 ≤ sizeLine; decide), fun l hl => ?_⟩
  intro d H1 hd1 hND1 ho1
  have sA : Same H (upd H r0 (.tup [.int (F vals cs - 1), .ref c])) := same_upd hr0
  have sB := same_upd (o := .lst [.ref r0]) hl
  have sC : Same (upd (upd H r0 (.tup [.int (F vals cs - 1), .ref c])) l (.lst [.ref r0])) H1 := fun b u eb => by
    rw [ho1 b (fun z => by rw [z, hd1] at eb; cases eb)]; exact eb
  have s1 : Same H H1 := sA.trans (sB.trans sC)
  have hlH : H l = none := by
    cases hz : H l with
    | none => rfl
    | some u => rw [sA _ _ hz] at hl; cases hl
  have hdH : H d = none := by
    cases hz : H d with
    | none => rfl
    | some u => rw [sB _ _ (sA _ _ hz)] at hd1; cases hd1
  have el : H1 l = some (.lst ([((r0, (F vals cs - 1, cs)) : AE)].map fun k => V.ref k.1)) := sC _ _ upd_same
  have er : EntH H1 r0 (F vals cs - 1, cs) := ⟨c, sC _ _ (sB _ _ upd_same), s1 _ _ hc⟩
  have hED : ED P w (fun _ => .bl true) H1 d [] := ⟨hND1, List.nodup_nil⟩
  -- the loop
  refine ⟨_, _, rfl, ?_⟩
  refine while_by (fun σ' H' => ∃ y4 y5 y6 y7 y8 its es, σ' = [some (.ref c), some (.ref e), some (.ref l), some (.ref d), y4, y5, y6, y7, y8] ∧ But [l, d] H H' ∧ H' l = some (.lst (its.map fun k : AE => V.ref k.1)) ∧ (∀ k ∈ its, EntH H' k.1 k.2 ∧ LeftOk vals ks2 k.2) ∧ ED P w (fun _ => .bl true) H' d es ∧ (∀ x ∈ es, EnOk n x ∧ x ∈ EL n) ∧ (its.map fun k => wtE k.2).sum ≤ 64)
    (fun _ H' => wtL H' l) ⟨_, _, _, _, _, [(r0, (F vals cs - 1, cs))], [], rfl, But.same s1, el, fun k hk => ?_, hED, (fun x (hx : x ∈ []) => absurd hx (by simp)), ?_⟩ (fun σ' H' p => ?_) (fun σ' H' Q1 Q2 hq hh => ?_)
  · have : k = (r0, (F vals cs - 1, cs)) := by simpa using hk
    subst this
    refine ⟨er, hin, ?_, ?_⟩
    · have := F_nn vals cs
      show -1 ≤ F vals cs - 1
      omega
    · show F vals cs - 1 < F vals cs
      omega
  · show wtE (F vals cs - 1, cs) + 0 ≤ 64
    unfold wtE
    have h1 := F_le vals cs
    have h2 := free_len cs
    have h3 := (hE.ok cs hin).1
    have h4 := F_nn vals cs
    have h5 : (F vals cs - 1 + 1).toNat ≤ 3 := by omega
    have h6 : 4 ^ (F vals cs - 1 + 1).toNat ≤ 4 ^ 3 := Nat.pow_le_pow_right (by decide) h5
    show 4 ^ (F vals cs - 1 + 1).toNat + 0 ≤ 64
    omega
  · obtain ⟨y4, y5, y6, y7, y8, its, es, rfl, hb, hL, hI, hED', hes, hS⟩ := p
    have hlen : its.length ≤ 64 := Nat.le_trans (len_le_wt its) hS
    refine ⟨_, rfl, l, _, rfl, .inl (SqL.of hL), _, _, rfl, rfl, _, rfl, if2 (fun hp => ?_) (fun hp => ?_)⟩
    · -- one is popped
      have hne : its ≠ [] := by
        intro z
        have := of_decide_eq_true hp
        rw [z] at this
        exact absurd this (by decide)
      obtain ⟨its0, kr, rfl⟩ : ∃ a b, its = a ++ [b] := ⟨_, _, (List.dropLast_concat_getLast hne).symm⟩
      obtain ⟨r, a, hs⟩ := kr
      obtain ⟨⟨cc, er1, er2⟩, hok, hlo, hhi⟩ := hI (r, (a, hs)) (by simp)
      have hok : hs ∈ ks2 := hok
      have hlo : -1 ≤ a := hlo
      have hhi : a < F vals hs := hhi
      have er1 : H' r = some (.tup [.int a, .ref cc]) := er1
      have er2 : CubeH H' cc hs := er2
      obtain ⟨hsl, hsd⟩ := hE.ok hs hok
      have hl100 : hs.length ≤ 100 := by omega
      have hS0 : (its0.map fun k => wtE k.2).sum + 4 ^ (a + 1).toNat ≤ 64 := by
        rw [List.map_append, List.sum_append] at hS
        simpa [wtE] using hS
      have hdl : l ≠ d := hED'.ne hL
      have hpos : 0 < 4 ^ (a + 1).toNat := Nat.pow_pos (by decide)
      have hlen0 : its0.length ≤ 64 := by rw [List.length_append] at hlen; omega
      have hwt : wtL H' l = (its0.map fun k => wtE k.2).sum + 4 ^ (a + 1).toNat := by
        rw [wtL_ent hL (fun k hk => (hI k hk).1), List.map_append, List.sum_append]
        simp [wtE]
      refine ⟨_, rfl, .inl ⟨rfl, _, SqL.of hL⟩, l, _, .ref r, rfl, rfl, hL, by simp, ?_⟩
      have eD : ((its0 ++ [((r, (a, hs)) : AE)]).map fun k => V.ref k.1).dropLast = its0.map fun k => V.ref k.1 := by simp
      rw [eD]
      have bA : But [l, d] H' (upd H' l (.lst (its0.map fun k => V.ref k.1))) := But.at (by simp) hL (by intro xs z; cases z)
      have hED3' : ED P w (fun _ => .bl true) (upd H' l (.lst (its0.map fun k => V.ref k.1))) d es := hED'.but (l := [l]) (But.at (by simp) hL (by intro xs z; cases z)) (by simp; exact fun z => hdl z.symm)
      have hL3' : (upd H' l (.lst (its0.map fun k => V.ref k.1))) l = some (.lst (its0.map fun k => V.ref k.1)) := upd_same
      generalize upd H' l (.lst (its0.map fun k => V.ref k.1)) = H3 at bA hED3' hL3' ⊢
      have hL3 : H3 l = some (.lst (its0.map fun k => V.ref k.1)) := hL3'
      have hED3 : ED P w (fun _ => .bl true) H3 d es := hED3'
      have hI3 : ∀ k ∈ its0, EntH H3 k.1 k.2 ∧ LeftOk vals ks2 k.2 := fun k hk => ⟨bA.ent (hI k (by simp [hk])).1, (hI k (by simp [hk])).2⟩
      refine ⟨r, _, rfl, sqt (bA.tup _ _ er1), rfl, _, _, rfl, _, _, rfl, rfl, ?_⟩
      -- what a turn leaves
      have turn : ∀ (y4 y5 y6 y7 y8 : Option V) (H4 : Hp) (its4 : List AE) (es4 : List En), But [l, d] H3 H4 → H4 l = some (.lst (its4.map fun k : AE => V.ref k.1)) → (∀ k ∈ its4, EntH H4 k.1 k.2 ∧ LeftOk vals ks2 k.2) → ED P w (fun _ => .bl true) H4 d es4 → (∀ x ∈ es4, EnOk n x ∧ x ∈ EL n) → (its4.map fun k => wtE k.2).sum < (its0.map fun k => wtE k.2).sum + 4 ^ (a + 1).toNat →
          (∃ (z4 z5 z6 z7 z8 : Option V) (its : List AE) (es : List En), [some (V.ref c), some (.ref e), some (.ref l), some (.ref d), y4, y5, y6, y7, y8] = [some (V.ref c), some (.ref e), some (.ref l), some (.ref d), z4, z5, z6, z7, z8] ∧ But [l, d] H H4 ∧ H4 l = some (.lst (its.map fun k : AE => V.ref k.1)) ∧ (∀ k ∈ its, EntH H4 k.1 k.2 ∧ LeftOk vals ks2 k.2) ∧ ED P w (fun _ => .bl true) H4 d es ∧ (∀ x ∈ es, EnOk n x ∧ x ∈ EL n) ∧ (its.map fun k => wtE k.2).sum ≤ 64) ∧ wtL H4 l < wtL H' l := by
        intro y4 y5 y6 y7 y8 H4 its4 es4 b4 L4 I4 E4 O4 S4
        refine ⟨⟨y4, y5, y6, y7, y8, its4, es4, rfl, hb.trans (bA.trans b4), L4, I4, E4, O4, by omega⟩, ?_⟩
        rw [hwt, wtL_ent L4 (fun k hk => (I4 k hk).1)]
        exact S4
      refine ⟨_, rfl, _, _, rfl, rfl, _, rfl, if2 (fun ha => ?_) (fun ha => ?_)⟩
      · refine ifT rfl ?_
        exact turn _ _ _ _ _ H3 its0 es (But.refl _ _) hL3 hI3 hED3 hes (Nat.lt_add_of_pos_right hpos)
      have ha0 : 0 ≤ a := by
        have : ¬ a < 0 := of_decide_eq_false ha
        omega
      refine ⟨_, rfl, _, rfl, (by show 2 ≤ sizeLine; decide), fun t4 ht4 => ?_⟩
      have s4 := same_upd (o := .tup [.int a, .ref cc]) ht4
      have en4 : EntH (upd H3 t4 (.tup [.int a, .ref cc])) t4 (a, hs) := ⟨cc, upd_same, s4 _ _ (bA.tup _ _ er2)⟩
      generalize upd H3 t4 (.tup [.int a, .ref cc]) = H4 at s4 en4 ⊢
      have hED4 : ED P w (fun _ => .bl true) H4 d es := hED3.but (But.same s4 (l := [])) (by simp)
      refine ⟨_, rfl, t4, d, (a, hs), _, rfl, rfl, en4, hED4.at_, _, rfl, ?_⟩
      by_cases hf : (a, hs) ∈ es
      · refine ifT ((hED4.isin _).mpr hf) ?_
        exact turn _ _ _ _ _ H4 its0 es (But.same s4) (s4 _ _ hL3) (fun k hk => ⟨(hI3 k hk).1.keep (same_tup s4), (hI3 k hk).2⟩) hED4 hes (Nat.lt_add_of_pos_right hpos)
      · refine ifF (by
          cases hz : (valV (mkG id (fun _ => V.bl true) es) (a, hs)).isSome with
          | false => rfl
          | true => exact absurd ((hED4.isin _).mp hz) hf) ?_
        -- found[asks, here] = True
        refine ⟨_, rfl, _, rfl, _, rfl, (by show 2 ≤ sizeLine; decide), fun t5 ht5 => ?_⟩
        have s5 := same_upd (o := .tup [.int a, .ref cc]) ht5
        have s35 : Same H3 (upd H4 t5 (.tup [.int a, .ref cc])) := s4.trans s5
        have en5 : EntH (upd H4 t5 (.tup [.int a, .ref cc])) t5 (a, hs) := ⟨cc, upd_same, s35 _ _ (bA.tup _ _ er2)⟩
        generalize upd H4 t5 (.tup [.int a, .ref cc]) = H5 at s5 s35 en5 ⊢
        have hED5 : ED P w (fun _ => .bl true) H5 d es := hED4.but (But.same s5 (l := [])) (by simp)
        have hkl : (mkG (id : En → En) (fun _ => V.bl true) es).length < 100000 := by
          rw [mkG_length]
          have := nodup_le hED5.nd fun x hx => (hes x hx).2
          have := EL_len hn
          omega
        refine ⟨t5, d, (a, hs), _, rfl, rfl, en5, hED5.at_, hkl, fun H6 nd6 o6 k6 => ?_⟩
        have b6 : But [l, d] H5 H6 := (hED5.putBut o6 k6).mono (by simp)
        have b36 : But [l, d] H3 H6 := (But.same s35).trans b6
        have hED6 : ED P w (fun _ => .bl true) H6 d (addK (a, hs) es) := hED5.put nd6
        have hL6 : H6 l = some (.lst (its0.map fun k : AE => V.ref k.1)) := by
          rw [o6 l hdl]
          exact s35 _ _ hL3
        have hI6 : ∀ k ∈ its0, EntH H6 k.1 k.2 ∧ LeftOk vals ks2 k.2 := fun k hk => ⟨b36.ent (hI3 k hk).1, (hI3 k hk).2⟩
        have hes6 : ∀ x ∈ addK (a, hs) es, EnOk n x ∧ x ∈ EL n := fun x hx => by
          rcases addK_mem.mp hx with z | z
          · exact hes x z
          · subst z
            have h1 := F_le vals hs
            have h2 := free_len hs
            refine ⟨⟨ha0, ?_, hsl, hsd⟩, mem_EL hsl hsd ha0 (by omega)⟩
            show a ≤ 4
            omega
        refine ⟨_, rfl, _, _, rfl, rfl, _, rfl, if2 (fun hg => ?_) (fun hg => ?_)⟩
        · have ha1 : 0 < a := of_decide_eq_true hg
          have hFp : 0 < F vals hs := by omega
          have hcl := (hFC hs hok).2 hFp
          have er6 : CubeH H6 cc hs := er2.keep (bA.tup.trans b36.tup)
          refine ⟨_, rfl, cc, hs, rfl, er6, hl100, fun lf H7 nlf s7 e7 => ?_⟩
          have hlf1 : l ≠ lf := ne_of_none hL6 nlf
          have hlf2 : d ≠ lf := by
            obtain ⟨_, xs6, hd6, _⟩ := hED6.at_
            exact ne_of_none hd6 nlf
          have elen : ((free hs).map fun i : Nat => V.int i).length = (free hs).length := List.length_map _
          refine ⟨lf, rfl, ⟨_, SqL.of e7⟩, for_list (K := K) (a := lf) (xs := (free hs).map fun i : Nat => V.int i) (fun i σ8 H8 => ∃ z6 z7 z8 ps, σ8 = [some (.ref c), some (.ref e), some (.ref l), some (.ref d), some (.int a), some (.ref cc), z6, z7, z8] ∧ But [l, d] H3 H8 ∧ H8 lf = some (.lst ((free hs).map fun i : Nat => V.int i)) ∧
              H8 l = some (.lst ((its0 ++ ps).map fun k : AE => V.ref k.1)) ∧ (∀ k ∈ its0 ++ ps, EntH H8 k.1 k.2 ∧ LeftOk vals ks2 k.2) ∧ (∀ k ∈ ps, k.2.1 = a - 1) ∧ ps.length = i ∧ ED P w (fun _ => .bl true) H8 d (addK (a, hs) es))
            ⟨_, _, _, [], rfl, b36.trans (But.same s7), e7, by rw [List.append_nil]; exact s7 _ _ hL6, fun k hk => ?_, (fun k hk => absurd hk (by simp)), rfl, hED6.but (But.same s7 (l := [])) (by simp)⟩ (fun i σ8 H8 _ p => ?_) (fun i x σ8 H8 hx p => ?_) (fun σ8 H8 p => ?_)⟩
          · rw [List.append_nil] at hk
            exact ⟨(hI6 k hk).1.keep (same_tup s7), (hI6 k hk).2⟩
          · obtain ⟨_, _, _, _, _, _, p2, _⟩ := p
            exact SqL.of p2
          · obtain ⟨z6, z7, z8, ps, rfl, p1, p2, p3, p4, p5, p6, p7⟩ := p
            rw [List.getElem?_map] at hx
            obtain ⟨pl, hpl, rfl⟩ := Option.map_eq_some_iff.mp hx
            have hmem : pl ∈ free hs := List.mem_of_getElem? hpl
            have hi3 : i < (free hs).length := (List.getElem?_eq_some_iff.mp hpl).1
            have hfl := free_len hs
            have er8 : CubeH H8 cc hs := er2.keep (bA.tup.trans p1.tup)
            refine ⟨_, rfl, _, rfl, cc, hs, pl, rfl, er8, free_lt hmem, hl100, fun t q1 q2 H9 s9 et eq1 eq2 => ?_⟩
            refine ⟨t, _, rfl, sqt et, rfl, _, _, rfl, _, _, rfl, rfl, ?_⟩
            have hE9 : CD (F vals) n H9 e ks2 := by
              have s19 : Same H H9 := (hb.trans (bA.trans (p1.trans (But.same s9)))).ofNone (fun a ha => by
                rcases List.mem_cons.mp ha with z | z
                · rw [z]; exact hlH
                · have : a = d := by simpa using z
                  rw [this]; exact hdH)
              exact hE.but (But.same s19 (l := [])) (by simp)
            -- left.append(..)
            have hcl' := hcl pl hmem
            have hFh := F_half hFp hmem
            have app : ∀ (qq : Addr) (hq : List Int), CubeH H9 qq hq → hq ∈ ks2 → a ≤ F vals hq → ∀ t9, H9 t9 = none → (upd H9 t9 (.tup [.int (a - 1), .ref qq])) l = some (.lst ((its0 ++ ps).map fun k : AE => V.ref k.1)) ∧ ((its0 ++ ps).map fun k : AE => V.ref k.1).length < sizeLine ∧
                (∃ (z6 z7 z8 : Option V) (ps' : List AE), [some (V.ref c), some (.ref e), some (.ref l), some (.ref d), some (.int a), some (.ref cc), some (.int pl), some (.ref q1), some (.ref q2)] = [some (V.ref c), some (.ref e), some (.ref l), some (.ref d), some (.int a), some (.ref cc), z6, z7, z8] ∧ But [l, d] H3 (upd (upd H9 t9 (.tup [.int (a - 1), .ref qq])) l (.lst (((its0 ++ ps).map fun k : AE => V.ref k.1) ++ [.ref t9]))) ∧
                  (upd (upd H9 t9 (.tup [.int (a - 1), .ref qq])) l (.lst (((its0 ++ ps).map fun k : AE => V.ref k.1) ++ [.ref t9]))) lf = some (.lst ((free hs).map fun i : Nat => V.int i)) ∧
                  (upd (upd H9 t9 (.tup [.int (a - 1), .ref qq])) l (.lst (((its0 ++ ps).map fun k : AE => V.ref k.1) ++ [.ref t9]))) l = some (.lst ((its0 ++ ps').map fun k : AE => V.ref k.1)) ∧
                  (∀ k ∈ its0 ++ ps', EntH (upd (upd H9 t9 (.tup [.int (a - 1), .ref qq])) l (.lst (((its0 ++ ps).map fun k : AE => V.ref k.1) ++ [.ref t9]))) k.1 k.2 ∧ LeftOk vals ks2 k.2) ∧ (∀ k ∈ ps', k.2.1 = a - 1) ∧ ps'.length = i + 1 ∧
                  ED P w (fun _ => .bl true) (upd (upd H9 t9 (.tup [.int (a - 1), .ref qq])) l (.lst (((its0 ++ ps).map fun k : AE => V.ref k.1) ++ [.ref t9]))) d (addK (a, hs) es)) := by
              intro qq hq cq mq aq t9 n9
              have sT := same_upd (o := .tup [.int (a - 1), .ref qq]) n9
              have hlT : (upd H9 t9 (.tup [.int (a - 1), .ref qq])) l = some (.lst ((its0 ++ ps).map fun k : AE => V.ref k.1)) := sT _ _ (s9 _ _ p3)
              have bL : But [l] (upd H9 t9 (.tup [.int (a - 1), .ref qq])) (upd (upd H9 t9 (.tup [.int (a - 1), .ref qq])) l (.lst (((its0 ++ ps).map fun k : AE => V.ref k.1) ++ [.ref t9]))) := But.at (by simp) hlT (by intro xs z; cases z)
              have bAll : But [l] H8 (upd (upd H9 t9 (.tup [.int (a - 1), .ref qq])) l (.lst (((its0 ++ ps).map fun k : AE => V.ref k.1) ++ [.ref t9]))) := (But.same s9).trans ((But.same sT).trans bL)
              have enT : EntH (upd H9 t9 (.tup [.int (a - 1), .ref qq])) t9 (a - 1, hq) := ⟨qq, upd_same, sT _ _ cq⟩
              refine ⟨hlT, ?_, some (.int pl), some (.ref q1), some (.ref q2), ps ++ [(t9, (a - 1, hq))], rfl, p1.trans (bAll.mono (by simp)), ?_, ?_, fun k hk => ?_, fun k hk => ?_, ?_, p7.but bAll (by simp; exact fun z => hdl z.symm)⟩
              · rw [List.length_map, List.length_append]
                exact small1000 (by omega)
              · exact bAll.rest _ _ (by simp; exact fun z => hlf1 z.symm) p2
              · rw [upd_same]
                simp
              · rw [← List.append_assoc] at hk
                rcases List.mem_append.mp hk with z | z
                · exact ⟨bAll.ent (p4 k z).1, (p4 k z).2⟩
                · have : k = (t9, (a - 1, hq)) := by simpa using z
                  subst this
                  refine ⟨bL.ent enT, mq, ?_, ?_⟩
                  · show -1 ≤ a - 1
                    omega
                  · show a - 1 < F vals hq
                    omega
              · rcases List.mem_append.mp hk with z | z
                · exact p5 k z
                · have : k = (t9, (a - 1, hq)) := by simpa using z
                  rw [this]
              · rw [List.length_append, p6]; rfl
            refine ⟨_, rfl, .inl ⟨rfl, _, SqL.of (s9 _ _ p3)⟩, _, rfl, _, _, rfl, rfl, ?_⟩
            refine ⟨_, rfl, _, rfl, e, _, rfl, hE9.get_in eq1 hcl'.1, _, rfl, _, _, rfl, rfl, _, rfl, if2 (fun hx => ?_) (fun hx => ?_)⟩
            · refine ⟨_, rfl, (by show 2 ≤ sizeLine; decide), fun t9 n9 => ?_⟩
              obtain ⟨g1, g2, g3⟩ := app q1 _ eq1 hcl'.1 (of_decide_eq_true hx) t9 n9
              exact ⟨l, _, _, rfl, rfl, g1, g2, g3⟩
            · refine ⟨_, rfl, (by show 2 ≤ sizeLine; decide), fun t9 n9 => ?_⟩
              have hx' : ¬ a ≤ F vals (hs.set pl 1) := of_decide_eq_false hx
              obtain ⟨g1, g2, g3⟩ := app q2 _ eq2 hcl'.2 (by omega) t9 n9
              exact ⟨l, _, _, rfl, rfl, g1, g2, g3⟩
          · obtain ⟨z6, z7, z8, ps, rfl, p1, p2, p3, p4, p5, p6, p7⟩ := p
            refine turn _ _ _ _ _ H8 (its0 ++ ps) _ p1 p3 p4 p7 hes6 (sum_push ha1 p5 ?_)
            have := free_len hs
            rw [elen] at p6
            omega
        · exact turn _ _ _ _ _ H6 its0 _ b36 hL6 hI6 hED6 hes6 (Nat.lt_add_of_pos_right hpos)
    · -- the end
      refine ⟨_, rfl, d, _, rfl, hED'.at_, fun ks p pm hke hp' => ?_⟩
      refine ⟨p, _, rfl, .inl ⟨SqL.of upd_same, fun t ht => ?_⟩⟩
      have sP := same_upd (o := .lst (ks.map fun k => V.ref k.1)) hp'
      have sT := same_upd (o := .tup (ks.map fun k => V.ref k.1)) ht
      have pm' : (ks.map (·.2)).Perm es := by
        have e : (mkG (id : En → En) (fun _ => V.bl true) es).map (·.1) = es := by
          unfold mkG
          rw [List.map_map]
          exact List.map_id es
        rw [e] at pm
        exact pm
      refine q _ t ks ((hb.ofNone (fun a ha => ?_)).trans (sP.trans sT)) ⟨upd_same, fun k hk => (hke k hk).keep ((same_tup sP).trans (same_tup sT))⟩ (fun k hk => ?_) ?_
      · rcases List.mem_cons.mp ha with z | z
        · rw [z]; exact hlH
        · have : a = d := by simpa using z
          rw [this]; exact hdH
      · have h5 := hes k.2 (pm'.mem_iff.mp (List.mem_map.mpr ⟨k, hk, rfl⟩))
        exact ⟨h5.1, EL_lo hn h5.2⟩
      · have h1 := pm'.length_eq
        rw [List.length_map] at h1
        rw [h1]
        exact Nat.le_trans (nodup_le hED'.nd fun x hx => (hes x hx).2) (EL_len hn)
  · obtain ⟨x, ex, p, ys, ep, hs, i, j, ei, ej, k, ek, hh⟩ := hh
    exact ⟨x, ex, p, ys, ep, hs, i, j, ei, ej, k, ek, hq _ _ hh⟩
end
end Kb
/-! is_from, check_many, check_values, check_few, least_so, least_asks. -/
namespace Kb
open PySem PySem.Spec PyProof.Rows L2
def twosL : List Int := (List.range 21).map fun k => 2 ^ k
def TwosK (K : PySem.W.Frag) (a : Addr) : Prop := ∃ (o : Obj) (its : Array Value) (n : Nat), K.lookup a = some o ∧ o.cls = .type "tuple" ∧ o.data = .seq its n ∧ its.size ≤ sizeLine ∧ Vals (twosL.map V.int) its.toList
theorem TwosK.sq {K : PySem.W.Frag} {a : Addr} (h : TwosK K a) (H : Hp) : SqT K H a (twosL.map V.int) := .inr h
theorem twos_at {n : Nat} (h : n = 2 ∨ n = 3) : (twosL.map V.int)[n]? = some (.int ((2 ^ n : Nat) : Int)) := by
  rcases h with rfl | rfl <;> rfl
section
variable {P : Program} {w : World} {K : PySem.W.Frag} {mg : Str → Option Value} {base : Heap}
/-! ### is_from -/
theorem scFrom : FnScope ["value", "low", "high"] ["value", "low", "high"] (defScope s_is_from) := ⟨rfl, rfl, rfl, by decide +kernel, rfl, by decide +kernel, by decide +kernel⟩
/-- an int or a bool -/
def IB (x : V) : Prop := (∃ i, x = .int i) ∨ ∃ b, x = .bl b
def isF (lo hi : Int) : V → Bool
  | .int i => decide (lo ≤ i) && decide (i ≤ hi)
  | _ => false
def spFrom : Sp := fun vs H Q _ => ∃ (x : V) (lo hi : Int), vs = [x, .int lo, .int hi] ∧ IB x ∧ Q (.bl (isF lo hi x)) H
theorem ok_from {f : Addr} {fd : FuncData} (F0 : Fun K "is_from" "is_from" s_is_from f fd) (mi : mg "isinstance" = none) (mI : mg "int" = none) (mB : mg "bool" = none) : FnOk P w K mg base CX0 1 f fd ["value", "low", "high"] spFrom := by
  refine F0.ok scFrom (fun vs H Q E h => ?_) (fun cdv A outer s H vs Q E hr h => ?_)
  · obtain ⟨x, lo, hi, rfl, _⟩ := h
    rfl
  obtain ⟨x, lo, hi, rfl, h, q⟩ := h
  refine ⟨_, pss_one (ps_ret (pe_and (pe_callB cr_isB (by rfl) mi (by decide +kernel) (pa_cons (pv 0) (pa_cons (pe_bltn (v := .ty "int") (by rfl) mI (by decide +kernel) rfl) pa_nil)))
    (pe_and (pe_not (pe_callB cr_isB (by rfl) mi (by decide +kernel) (pa_cons (pv 0) (pa_cons (pe_bltn (v := .ty "bool") (by rfl) mB (by decide +kernel) rfl) pa_nil))))
    (pe_one (pe_chain op_le op_le (pv 1) (pv 0) (pv 2)))))), ?_⟩
  rcases h with ⟨i, rfl⟩ | ⟨b, rfl⟩
  · refine ⟨_, rfl, _, "int", "int", rfl, .base (.int i), by decide, by decide, true, rfl, ?_⟩
    refine ifT rfl ?_
    refine ⟨_, rfl, _, "int", "bool", rfl, .base (.int i), by decide, by decide, false, rfl, true, rfl, ?_⟩
    refine ifT rfl ?_
    refine ⟨_, rfl, _, rfl, _, _, rfl, rfl, _, rfl, if2 (fun h => ?_) (fun h => ?_)⟩
    · refine ⟨_, rfl, _, _, rfl, rfl, ?_⟩
      have q : Q (.bl (decide (lo ≤ i) && decide (i ≤ hi))) H := q
      rw [h, Bool.true_and] at q
      exact q
    · have q : Q (.bl (decide (lo ≤ i) && decide (i ≤ hi))) H := q
      rw [h, Bool.false_and] at q
      exact q
  · refine ⟨_, rfl, _, "bool", "int", rfl, .base (.bl b), by decide, by decide, true, rfl, ?_⟩
    refine ifT rfl ?_
    refine ⟨_, rfl, _, "bool", "bool", rfl, .base (.bl b), by decide, by decide, true, rfl, false, rfl, ?_⟩
    exact ifF rfl q
/-! ### check_many -/
theorem scMany : FnScope ["value"] ["value"] (defScope s_check_many) := ⟨rfl, rfl, rfl, by decide +kernel, rfl, by decide +kernel, by decide +kernel⟩
def spMany : Sp := fun vs H Q _ => ∃ (n : Nat), vs = [.int n] ∧ (n = 2 ∨ n = 3) ∧ Q (.int n) H
theorem ok_many {f f1 : Addr} {fd fd1 : FuncData} {t0 : Tok} (F0 : Fun K "check_many" "check_many" s_check_many f fd)
    (G1 : FnOk P w K mg base CX0 1 f1 fd1 ["value", "low", "high"] spFrom) (b1 : Binds K fd1 ["value", "low", "high"] []) (k1 : PySem.W.keepIn K (.ref f1) = true) (m1 : mg "is_from" = some (.ref f1)) (mM : mg "MOST_MANY_questions" = some (.int 8 t0)) :
    FnOk P w K mg base CX0 2 f fd ["value"] spMany := by
  refine F0.ok scMany (fun vs H Q E h => ?_) (fun cdv A outer s H vs Q E hr h => ?_)
  · obtain ⟨n, rfl, _⟩ := h
    rfl
  obtain ⟨n, rfl, hn, q⟩ := h
  refine ⟨_, pss_cons (ps_if (pt_not (pt_val (pe_call G1 hr (by rfl) m1 k1 b1 .nil pass0 (pa_cons (pv 0) (pa_cons pe_int (pa_cons (pe_glob (v := .int 8) rfl mM ⟨_, rfl⟩) pa_nil)))))) (pss_one ps_never) pss_nil)
    (pss_one (ps_ret (pv 0))), ?_⟩
  refine ⟨_, rfl, _, 1, 8, rfl, .inl ⟨(n : Int), rfl⟩, ?_⟩
  have e : isF 1 8 (.int n) = true := by
    rcases hn with rfl | rfl <;> decide
  rw [e]
  refine ⟨true, rfl, ?_⟩
  exact ifF rfl ⟨_, rfl, q⟩
/-! ### check_values -/
theorem scVals : FnScope ["many", "value", "row", "item"] ["many", "value"] (defScope s_check_values) := ⟨rfl, rfl, rfl, by decide +kernel, rfl, by decide +kernel, by decide +kernel⟩
def spVals : Sp := fun vs H Q _ => ∃ (n : Nat) (v : Addr) (vals : List Int), vs = [.int n, .ref v] ∧ (n = 2 ∨ n = 3) ∧ ValsH H v vals n ∧ ∀ H', Same H H' → Q (.ref v) H'
theorem ok_vals {f f1 aT : Addr} {fd fd1 : FuncData} (F0 : Fun K "check_values" "check_values" s_check_values f fd)
    (G1 : FnOk P w K mg base CX0 1 f1 fd1 ["value", "low", "high"] spFrom) (b1 : Binds K fd1 ["value", "low", "high"] []) (k1 : PySem.W.keepIn K (.ref f1) = true) (m1 : mg "is_from" = some (.ref f1))
    (mT : mg "TWOS" = some (.ref aT)) (kT : TwosK K aT) (mi : mg "isinstance" = none) (mt : mg "tuple" = none) (ml : mg "len" = none) (me : mg "enumerate" = none) :
    FnOk P w K mg base CX0 2 f fd ["many", "value"] spVals := by
  refine F0.ok scVals (fun vs H Q E h => ?_) (fun cdv A outer s H vs Q E hr h => ?_)
  · obtain ⟨n, v, vals, rfl, _⟩ := h
    rfl
  obtain ⟨n, v, vals, rfl, hn, hv, q⟩ := h
  have nd := scVals.nd
  refine ⟨_, pss_cons (ps_if (PW.pt (pw_or (pt_not (pt_val (pe_callB cr_isB (by rfl) mi (by decide +kernel) (pa_cons (pv 1) (pa_cons (pe_bltn (v := .ty "tuple") (by rfl) mt (by decide +kernel) rfl) pa_nil)))))
      (pw_or1 (pt_cmpR op_ne (pe_callB call_len_seq (by rfl) ml PySem.boot_len (pa_cons (pv 1) pa_nil)) (pe_ix ix_tup (pe_glob (v := .ref aT) rfl mT rfl) (pv 0) (fun _ _ => rfl)) (nomark _))))) (pss_one ps_never) pss_nil)
    (pss_cons (ps_for PassesOwn.never rfl (pi_enumT (by rfl) me (pa_cons (pv 1) pa_nil)) (pg_tup rfl (pgs_cons (pg_name (i := 2) nd rfl (.inl rfl)) (pgs_cons (pg_name (i := 3) nd rfl (.inl rfl)) pgs_nil)))
      (pss_one (ps_if (pt_not (pt_val (pe_call G1 hr (by rfl) m1 k1 b1 .nil pass0 (pa_cons (pv 3) (pa_cons pe_int (pa_cons pe_int pa_nil)))))) (pss_one ps_never) pss_nil)))
    (pss_one (ps_ret (pv 1)))), ?_⟩
  refine ⟨_, rfl, _, "tuple", "tuple", rfl, .base (.tup hv.at_), by decide, by decide, true, rfl, ?_⟩
  refine ifF rfl ?_
  refine ⟨_, rfl, v, _, rfl, .inr (sqt hv.at_), ?_⟩
  refine ⟨_, rfl, aT, _, (n : Int), _, rfl, rfl, kT.sq H, atI_nat (twos_at hn), rfl, _, rfl, ?_⟩
  refine ifF ?_ ?_
  · rw [Bool.not_eq_false']
    exact decide_eq_true (by rw [List.length_map, hv.len])
  refine ⟨_, rfl, v, _, rfl, sqt hv.at_, ?_⟩
  refine for_it (walk_enumT (xs := vals.map V.int)) (fun i σ' H' => ∃ y2 y3, σ' = [some (.int n), some (.ref v), y2, y3] ∧ Same H H') ⟨_, _, rfl, fun _ _ h => h⟩ (fun i σ' H' _ p => ?_) (fun i x σ' H' H'' hi p y => ?_) (fun σ' H' p => ?_)
  · obtain ⟨_, _, _, p2⟩ := p
    exact sqt (p2 _ _ hv.at_)
  · obtain ⟨y2, y3, rfl, p2⟩ := p
    have hi' : i < vals.length := by rw [List.length_map] at hi; exact hi
    obtain ⟨T, rfl, nT, rfl⟩ := enum_ints hi' y
    have sT := same_upd (o := .tup [.int (i : Nat), .int vals[i]]) nT
    refine ⟨T, _, rfl, sqt upd_same, rfl, _, _, rfl, _, _, rfl, rfl, ?_⟩
    refine ⟨_, rfl, _, 0, 1, rfl, .inl ⟨vals[i], rfl⟩, ?_⟩
    have e : isF 0 1 (.int vals[i]) = true := by
      rcases hv.dig _ (List.getElem_mem hi') with z | z <;> rw [z] <;> decide
    rw [e]
    refine ⟨true, rfl, ?_⟩
    exact ifF rfl ⟨_, _, rfl, p2.trans sT⟩
  · obtain ⟨y2, y3, rfl, p2⟩ := p
    exact ⟨_, rfl, q _ p2⟩
/-! ### check_few -/
theorem scFewC : FnScope ["many", "values"] ["many", "values"] (defScope s_check_few) := ⟨rfl, rfl, rfl, by decide +kernel, rfl, by decide +kernel, by decide +kernel⟩
def spFewC : Sp := fun vs H Q _ => ∃ (n : Nat) (v : Addr) (vals : List Int), vs = [.int n, .ref v] ∧ (n = 2 ∨ n = 3) ∧ ValsH H v vals n ∧ ∀ H', Same H H' → Q .non H'
theorem ok_fewC {f f1 f2 : Addr} {fd fd1 fd2 : FuncData} {t0 : Tok} (F0 : Fun K "check_few" "check_few" s_check_few f fd)
    (G1 : FnOk P w K mg base CX0 2 f1 fd1 ["value"] spMany) (b1 : Binds K fd1 ["value"] []) (k1 : PySem.W.keepIn K (.ref f1) = true) (m1 : mg "check_many" = some (.ref f1))
    (G2 : FnOk P w K mg base CX0 2 f2 fd2 ["many", "value"] spVals) (b2 : Binds K fd2 ["many", "value"] []) (k2 : PySem.W.keepIn K (.ref f2) = true) (m2 : mg "check_values" = some (.ref f2)) (mA : mg "MOST_MANY_asks" = some (.int 6 t0)) :
    FnOk P w K mg base CX0 3 f fd ["many", "values"] spFewC := by
  refine F0.ok scFewC (fun vs H Q E h => ?_) (fun cdv A outer s H vs Q E hr h => ?_)
  · obtain ⟨n, v, vals, rfl, _⟩ := h
    rfl
  obtain ⟨n, v, vals, rfl, hn, hv, q⟩ := h
  refine ⟨_, pss_cons (ps_expr (pe_call G1 hr (by rfl) m1 k1 b1 .nil pass0 (pa_cons (pv 0) pa_nil)))
    (pss_cons (ps_expr (pe_call G2 hr (by rfl) m2 k2 b2 .nil pass0 (pa_cons (pv 0) (pa_cons (pv 1) pa_nil))))
    (pss_one (ps_if (pt_cmpR op_gt (pv 0) (pe_glob (v := .int 6) rfl mA ⟨_, rfl⟩) (nomark _)) (pss_one ps_never) pss_nil))), ?_⟩
  refine ⟨_, rfl, n, rfl, hn, ?_⟩
  refine ⟨_, rfl, _, rfl, n, v, vals, rfl, hn, hv, fun H' s' => ?_⟩
  refine ⟨_, rfl, _, _, rfl, rfl, _, rfl, ?_⟩
  exact ifF (decide_eq_false (by omega)) (q _ s')
/-! ### least_so, least_asks -/
theorem scLeast : FnScope ["many", "values", "kinds", "known", "cube", "asks"] ["many", "values"] (defScope s_least_so) := ⟨rfl, rfl, rfl, by decide +kernel, rfl, by decide +kernel, by decide +kernel⟩
theorem scAsks : FnScope ["many", "values"] ["many", "values"] (defScope s_least_asks) := ⟨rfl, rfl, rfl, by decide +kernel, rfl, by decide +kernel, by decide +kernel⟩
def spLeast : Sp := fun vs H Q _ => ∃ (n : Nat) (v : Addr) (vals : List Int), vs = [.int n, .ref v] ∧ (n = 2 ∨ n = 3) ∧ ValsH H v vals n ∧
  ∀ t b x y ks H', Same H H' → H' t = some (.tup [x, y, .ref b]) → BookH H' b ks → (∀ k ∈ ks, EnLo n k.2) → ks.length ≤ 27 → Q (.ref t) H'
theorem rep_dig (n : Nat) : Dig (List.replicate n 2) := fun x hx => .inr (.inr (List.eq_of_mem_replicate hx))
theorem ok_least {f f1 f2 f3 f4 : Addr} {fd fd1 fd2 fd3 fd4 : FuncData} (F0 : Fun K "least_so" "least_so" s_least_so f fd)
    (G1 : FnOk P w K mg base CX0 1 f1 fd1 ["many"] spCube) (b1 : Binds K fd1 ["many"] []) (k1 : PySem.W.keepIn K (.ref f1) = true) (m1 : mg "cube_so" = some (.ref f1))
    (G2 : FnOk P w K mg base CX0 10 f2 fd2 ["values", "cube", "kinds", "known"] (spFew 4)) (b2 : Binds K fd2 ["values", "cube", "kinds", "known"] []) (k2 : PySem.W.keepIn K (.ref f2) = true) (m2 : mg "fewest_so" = some (.ref f2))
    (G3 : FnOk P w K mg base CX0 6 f3 fd3 ["cube", "kinds", "known"] (spTree 4)) (b3 : Binds K fd3 ["cube", "kinds", "known"] []) (k3 : PySem.W.keepIn K (.ref f3) = true) (m3 : mg "tree_so" = some (.ref f3))
    (G4 : FnOk P w K mg base CX0 3 f4 fd4 ["cube", "known"] spEnt) (b4 : Binds K fd4 ["cube", "known"] []) (k4 : PySem.W.keepIn K (.ref f4) = true) (m4 : mg "entries_so" = some (.ref f4)) :
    FnOk P w K mg base CX0 11 f fd ["many", "values"] spLeast := by
  refine F0.ok scLeast (fun vs H Q E h => ?_) (fun cdv A outer s H vs Q E hr h => ?_)
  · obtain ⟨n, v, vals, rfl, _⟩ := h
    rfl
  obtain ⟨n, v, vals, rfl, hn, hv, q⟩ := h
  have nd := scLeast.nd
  refine ⟨_, pss_cons (ps_par3 (i := 2) (j := 3) (l := 4) rfl nd rfl rfl rfl (by decide) (by decide) (by decide) rfl rfl rfl (pa_cons pe_dnewT (pa_cons pe_dnewT (pa_cons (pe_call G1 (hr.mono (by decide)) (by rfl) m1 k1 b1 .nil pass0 (pa_cons (pv 0) pa_nil)) pa_nil))) (by rfl))
    (pss_cons (ps_set (i := 5) nd rfl (.inl rfl) (pe_call G2 hr (by rfl) m2 k2 b2 .nil pass0 (pa_cons (pv 1) (pa_cons (pv 4) (pa_cons (pv 2) (pa_cons (pv 3) pa_nil))))))
    (pss_one (ps_ret (pe_tup (pa_cons (pv 5) (pa_cons (pe_call G3 (hr.mono (by decide)) (by rfl) m3 k3 b3 .nil pass0 (pa_cons (pv 4) (pa_cons (pv 2) (pa_cons (pv 3) pa_nil)))) (pa_cons (pe_call G4 (hr.mono (by decide)) (by rfl) m4 k4 b4 .nil pass0 (pa_cons (pv 4) (pa_cons (pv 3) pa_nil))) pa_nil))))))), ?_⟩
  refine fun d hd => ?_
  have s1 := same_upd (o := .dT []) hd
  refine fun e he => ?_
  have s2 := same_upd (o := .dT []) he
  have hde : d ≠ e := ne_of_none upd_same he
  have hH2d : (upd (upd H d (.dT [])) e (.dT [])) d = some (.dT []) := s2 _ _ upd_same
  have hH2e : (upd (upd H d (.dT [])) e (.dT [])) e = some (.dT []) := upd_same
  have heH : H e = none := by
    cases hz : H e with
    | none => rfl
    | some u => rw [s1 _ _ hz] at he; cases he
  generalize upd (upd H d (.dT [])) e (.dT []) = H2 at s2 hH2d hH2e ⊢
  refine ⟨_, rfl, n, rfl, by omega, by omega, fun c H3 s3 hc => ?_⟩
  have s13 := s1.trans (s2.trans s3)
  refine ⟨_, _, _, rfl, ?_⟩
  have hfl : (free (List.replicate n (2 : Int))).length < 4 := by
    have := free_len (List.replicate n (2 : Int))
    rw [List.length_replicate] at this
    omega
  refine ⟨_, rfl, _, rfl, _, rfl, _, rfl, v, c, d, e, vals, List.replicate n 2, n, [], [], rfl, hn, hv.keep (same_tup s13), hc, List.length_replicate, rep_dig n, hfl, hde, CD.empty (s3 _ _ hH2d), CD.empty (s3 _ _ hH2e), (fun x hx => absurd hx (by simp)), fun H4 ks1 ks2 b4 hD hE hFC _ _ hm => ?_⟩
  refine ⟨_, rfl, _, rfl, _, rfl, _, rfl, c, d, e, vals, List.replicate n 2, n, ks1, ks2, rfl, hn, hc.keep b4.tup, List.length_replicate, rep_dig n, hfl, hD, hE, hFC, hm, fun r H5 s5 => ?_⟩
  refine ⟨_, rfl, _, rfl, c, e, vals, List.replicate n 2, n, ks1, ks2, rfl, hn, hc.keep (b4.tup.trans (same_tup s5)), hE.but (But.same s5 (l := [])) (by simp), hFC, hm, fun H6 t ks s6 hB hO hL => ?_⟩
  refine ⟨(by show 3 ≤ sizeLine; decide), fun t7 ht7 => ?_⟩
  have s7 := same_upd (o := .tup [.int (F vals (List.replicate n 2)), r, .ref t]) ht7
  have sAll : Same H (upd H6 t7 (.tup [.int (F vals (List.replicate n 2)), r, .ref t])) := by
    refine But.ofNone (l := [d, e]) ((But.same s13).trans (b4.trans (But.same (s5.trans (s6.trans s7))))) fun a ha => ?_
    rcases List.mem_cons.mp ha with z | z
    · rw [z]; exact hd
    · have : a = e := by simpa using z
      rw [this]; exact heH
  exact q _ _ _ _ ks _ sAll upd_same (hB.keep (same_tup s7)) hO hL
theorem ok_asks {f f1 f2 : Addr} {fd fd1 fd2 : FuncData} (F0 : Fun K "least_asks" "least_asks" s_least_asks f fd)
    (G1 : FnOk P w K mg base CX0 3 f1 fd1 ["many", "values"] spFewC) (b1 : Binds K fd1 ["many", "values"] []) (k1 : PySem.W.keepIn K (.ref f1) = true) (m1 : mg "check_few" = some (.ref f1))
    (G2 : FnOk P w K mg base CX0 11 f2 fd2 ["many", "values"] spLeast) (b2 : Binds K fd2 ["many", "values"] []) (k2 : PySem.W.keepIn K (.ref f2) = true) (m2 : mg "least_so" = some (.ref f2)) :
    FnOk P w K mg base CX0 12 f fd ["many", "values"] spLeast := by
  refine F0.ok scAsks (fun vs H Q E h => ?_) (fun cdv A outer s H vs Q E hr h => ?_)
  · obtain ⟨n, v, vals, rfl, _⟩ := h
    rfl
  obtain ⟨n, v, vals, rfl, hn, hv, q⟩ := h
  refine ⟨_, pss_cons (ps_expr (pe_call G1 (hr.mono (by decide)) (by rfl) m1 k1 b1 .nil pass0 (pa_cons (pv 0) (pa_cons (pv 1) pa_nil))))
    (pss_one (ps_ret (pe_call G2 hr (by rfl) m2 k2 b2 .nil pass0 (pa_cons (pv 0) (pa_cons (pv 1) pa_nil))))), ?_⟩
  refine ⟨_, rfl, _, rfl, n, v, vals, rfl, hn, hv, fun H1 s1 => ?_⟩
  refine ⟨_, rfl, _, rfl, n, v, vals, rfl, hn, hv.keep (same_tup s1), fun t b x y ks H2 s2 e2 hB hO hL => ?_⟩
  exact q t b x y ks H2 (s1.trans s2) e2 hB hO hL
end
end Kb
/-! is_entry, is_entry_set. -/
namespace Kb
open PySem PySem.Spec PyProof.Rows L2
/-! ### the judge, plainly -/
def noneN (n : Nat) (p : Nat → Bool) : Bool := decide ((List.range n).countP p = 0)
def someN (n : Nat) (p : Nat → Bool) : Bool := decide (0 < (List.range n).countP p)
def enAt (es : List En) (i : Nat) : En := es.getD i (0, [])
def srtB (es : List En) : Bool := noneN (es.length - 1) fun i => geD (enAt es i) (enAt es (i + 1))
def judgeB (vals : List Int) (es : List En) (m : Int) : Bool :=
  if m = 0 then es.isEmpty else srtB es && (noneN es.length (fun i => !StB vals es (enAt es i)) && someN es.length (fun i => (enAt es i).1 == m - 1))
theorem enAt_get {es : List En} {i : Nat} (h : i < es.length) : enAt es i = es[i] := by
  unfold enAt
  rw [List.getD_eq_getElem?_getD, List.getElem?_eq_getElem h] <;> rfl
/-- a comprehension that counts: [1 for .. if test] -/
theorem lc_ones {J : It} {n : Nat} {G : Hp → Prop} {Y : Nat → Hp → V → Hp → Prop} (w : Walk J n G Y) {g : TG} {tt : TT} {vs : List Nat} {σ : L2.St} {H1 : Hp} {D : Addr} {Qd : Hp → Prop} (p : Nat → Bool) (hD : H1 D = none) (hn : n ≤ 900) (hG : ∀ H', Same H1 H' → G H')
    (hs : ∀ i x H' H'', i < n → Same H1 H' → Y i H' x H'' → ∀ Cont : Bool → Hp → Prop, (∀ H3, Same H' H3 → Cont (p i) H3) → g x (wipe σ vs) H'' fun σ2 H2 => wipe σ2 vs = wipe σ vs ∧ tt σ2 H2 Cont)
    (hd : ∀ H', Same H1 H' → H' D = some (.lst (List.replicate ((List.range n).countP p) (.int 1))) → Qd H') :
    ∃ W : Nat → Nat → Hp → Prop, (∃ m, W 0 m (upd H1 D (.lst []))) ∧ ∀ i m H, W i m H →
      (J.stop i H ∧ Qd H) ∨ (J.go i H ∧ ∃ Nx : Hp → Prop, (∀ H', Nx H' → ∃ m', m' < m ∧ W (i + 1) m' H') ∧ ∀ x H', J.yld i H x H' → g x (wipe σ vs) H' fun σ2 H2 => wipe σ2 vs = wipe σ vs ∧ tt σ2 H2 fun b H3 =>
        if b = true then tC (.int 1) σ2 H3 fun y H4 => ∃ acc, H4 D = some (.lst acc) ∧ acc.length < sizeLine ∧ Nx (upd H4 D (.lst (acc ++ [y]))) else Nx H3) := by
  refine lc_it w (fun i H' => Same H1 H' ∧ H' D = some (.lst (List.replicate ((List.range i).countP p) (.int 1)))) ⟨same_upd hD, upd_same⟩ (fun i H' _ q => hG H' q.1) (fun i x H' H'' hi q y => ?_) (fun H' q => hd H' q.1 q.2)
  refine hs i x H' H'' hi q.1 y (fun b H3 => if b = true then ∃ acc, H3 D = some (.lst acc) ∧ acc.length < sizeLine ∧ Same H1 (upd H3 D (.lst (acc ++ [.int 1]))) ∧ (upd H3 D (.lst (acc ++ [.int 1]))) D = some (.lst (List.replicate ((List.range (i + 1)).countP p) (.int 1)))
    else Same H1 H3 ∧ H3 D = some (.lst (List.replicate ((List.range (i + 1)).countP p) (.int 1)))) fun H3 s3 => ?_
  have e : (List.range (i + 1)).countP p = (List.range i).countP p + (if p i = true then 1 else 0) := by
    rw [List.range_succ, List.countP_append, List.countP_cons, List.countP_nil, Nat.zero_add]
  refine if2 (fun hp => ?_) (fun hp => ?_)
  · refine ⟨_, s3 _ _ q.2, ?_, fun b z eb => ?_, ?_⟩
    · rw [List.length_replicate]
      have := List.countP_le_length (p := p) (l := List.range i)
      rw [List.length_range] at this
      exact small1000 (by omega)
    · have nb : b ≠ D := fun z2 => by
        subst z2
        rw [eb] at hD
        cases hD
      rw [upd_ne nb]
      exact s3 _ _ (q.1 _ _ eb)
    · rw [upd_same, e, if_pos hp, List.replicate_succ']
  · refine ⟨q.1.trans s3, ?_⟩
    rw [e, hp]
    exact s3 _ _ q.2
/-! ### what is judged as an entry -/
/-- the type of a thing that stands here -/
inductive TyS (H : Hp) : V → String → Prop
  | non : TyS H .non "NoneType"
  | bl (b : Bool) : TyS H (.bl b) "bool"
  | int (i : Int) : TyS H (.int i) "int"
  | str (x : Str) : TyS H (.str x) "str"
  | lst {a : Addr} {xs : List V} (e : H a = some (.lst xs)) : TyS H (.ref a) "list"
  | tup {a : Addr} {xs : List V} (e : H a = some (.tup xs)) : TyS H (.ref a) "tuple"
theorem TyS.tyx {K : PySem.W.Frag} {H : Hp} {x : V} {t : String} (h : TyS H x t) : TyX K H x (.type t) := by
  cases h with
  | non => exact .base .non
  | bl b => exact .base (.bl b)
  | int i => exact .base (.int i)
  | str x => exact .base (.str x)
  | lst e => exact .base (.lst e)
  | tup e => exact .base (.tup e)
theorem TyS.mem {H : Hp} {x : V} {t : String} (h : TyS H x t) : t ∈ ["int", "bool", "list", "tuple", "str", "NoneType"] := by
  cases h <;> decide
theorem TyS.same {H H' : Hp} {x : V} {t : String} (h : TyS H x t) (s : Same H H') : TyS H' x t := by
  cases h with
  | non => exact .non
  | bl b => exact .bl b
  | int i => exact .int i
  | str x => exact .str x
  | lst e => exact .lst (s _ _ e)
  | tup e => exact .tup (s _ _ e)
theorem isa_tuple {t : String} (h : t ∈ ["int", "bool", "list", "tuple", "str", "NoneType"]) (n : t ≠ "tuple") : isaB t "tuple" = false := by
  have g : ∀ t ∈ ["int", "bool", "list", "tuple", "str", "NoneType"], t ≠ "tuple" → isaB t "tuple" = false := by decide
  exact g t h n
/-- what is_entry answers of x -/
inductive Sh (n : Nat) (H : Hp) : V → Bool → Prop
  | typ {x : V} {t : String} (h : TyS H x t) (ht : t ≠ "tuple") : Sh n H x false
  | len {a : Addr} {xs : List V} (h : H a = some (.tup xs)) (hl : xs.length ≠ 2) : Sh n H (.ref a) false
  | num {a : Addr} {y z : V} (h : H a = some (.tup [y, z])) (hy : IB y) (hf : isF 0 ((2 ^ n : Nat) : Int) y = false) : Sh n H (.ref a) false
  | typ2 {a : Addr} {y z : V} {t : String} (h : H a = some (.tup [y, z])) (hy : IB y) (hf : isF 0 ((2 ^ n : Nat) : Int) y = true) (hz : TyS H z t) (ht : t ≠ "tuple") : Sh n H (.ref a) false
  | len2 {a c : Addr} {y : V} {zs : List V} (h : H a = some (.tup [y, .ref c])) (hy : IB y) (hf : isF 0 ((2 ^ n : Nat) : Int) y = true) (hz : H c = some (.tup zs)) (hl : zs.length ≠ n) : Sh n H (.ref a) false
  | full {a c : Addr} {y : V} {zs : List V} (h : H a = some (.tup [y, .ref c])) (hy : IB y) (hf : isF 0 ((2 ^ n : Nat) : Int) y = true) (hz : H c = some (.tup zs)) (hl : zs.length = n) (hi : ∀ z ∈ zs, IB z) : Sh n H (.ref a) (zs.all (isF 0 2))
theorem Sh.same {n : Nat} {H H' : Hp} {x : V} {b : Bool} (h : Sh n H x b) (s : Same H H') : Sh n H' x b := by
  cases h with
  | typ h ht => exact .typ (h.same s) ht
  | len h hl => exact .len (s _ _ h) hl
  | num h hy hf => exact .num (s _ _ h) hy hf
  | typ2 h hy hf hz ht => exact .typ2 (s _ _ h) hy hf (hz.same s) ht
  | len2 h hy hf hz hl => exact .len2 (s _ _ h) hy hf (s _ _ hz) hl
  | full h hy hf hz hl hi => exact .full (s _ _ h) hy hf (s _ _ hz) hl hi
theorem Sh.ent {n : Nat} {H : Hp} {r : Addr} {e : En} (hn : n = 2 ∨ n = 3) (h : EntH H r e) (ok : EnOk n e) : Sh n H (.ref r) true := by
  obtain ⟨c, h1, h2⟩ := h
  obtain ⟨o1, o2, o3, o4⟩ := ok
  have e1 : (e.2.map V.int).all (isF 0 2) = true := by
    rw [List.all_eq_true]
    intro z hz
    obtain ⟨x, hx, rfl⟩ := List.mem_map.mp hz
    rcases o4 x hx with y | y | y <;> rw [y] <;> rfl
  have := Sh.full (n := n) h1 (.inl ⟨e.1, rfl⟩) (by
    show (decide (0 ≤ e.1) && decide (e.1 ≤ ((2 ^ n : Nat) : Int))) = true
    have h4 : (4 : Int) ≤ ((2 ^ n : Nat) : Int) := by rcases hn with rfl | rfl <;> decide
    rw [decide_eq_true o1, decide_eq_true (by omega : e.1 ≤ ((2 ^ n : Nat) : Int))]
    rfl) h2 (by rw [List.length_map]; exact o3) (fun z hz => by
      obtain ⟨x, hx, rfl⟩ := List.mem_map.mp hz
      exact .inl ⟨x, rfl⟩)
  rw [e1] at this
  exact this
section
variable {P : Program} {w : World} {K : PySem.W.Frag} {mg : Str → Option Value} {base : Heap}
theorem scIsE : FnScope ["many", "value", "thing"] ["many", "value"] (defScope s_is_entry) := ⟨rfl, rfl, rfl, by decide +kernel, rfl, by decide +kernel, by decide +kernel⟩
def spIsE : Sp := fun vs H Q _ => ∃ (n : Nat) (x : V) (b : Bool), vs = [.int n, x] ∧ (n = 2 ∨ n = 3) ∧ Sh n H x b ∧ ∀ H', Same H H' → Q (.bl b) H'
theorem ok_isE {f f1 aT : Addr} {fd fd1 : FuncData} {t0 : Tok} (F0 : Fun K "is_entry" "is_entry" s_is_entry f fd)
    (G1 : FnOk P w K mg base CX0 1 f1 fd1 ["value", "low", "high"] spFrom) (b1 : Binds K fd1 ["value", "low", "high"] []) (k1 : PySem.W.keepIn K (.ref f1) = true) (m1 : mg "is_from" = some (.ref f1))
    (mT : mg "TWOS" = some (.ref aT)) (kT : TwosK K aT) (mF : mg "FREE" = some (.int 2 t0)) (mi : mg "isinstance" = none) (mt : mg "tuple" = none) (ml : mg "len" = none) :
    FnOk P w K mg base CX0 2 f fd ["many", "value"] spIsE := by
  refine F0.ok scIsE (fun vs H Q E h => ?_) (fun cdv A outer s H vs Q E hr h => ?_)
  · obtain ⟨n, x, b, rfl, _⟩ := h
    rfl
  obtain ⟨n, x, b, rfl, hn, hS, q⟩ := h
  have nd := scIsE.nd
  refine ⟨_, pss_cons (ps_if (PW.pt (pw_or (pt_not (pt_val (pe_callB cr_isB (by rfl) mi (by decide +kernel) (pa_cons (pv 1) (pa_cons (pe_bltn (v := .ty "tuple") (by rfl) mt (by decide +kernel) rfl) pa_nil)))))
      (pw_or (pt_cmpR op_ne (pe_callB call_len_seq (by rfl) ml PySem.boot_len (pa_cons (pv 1) pa_nil)) pe_int (nomark _))
      (pw_or1 (pt_not (pt_val (pe_call G1 hr (by rfl) m1 k1 b1 .nil pass0 (pa_cons (pe_ix ix_tup (pv 1) pe_int (fun _ _ => rfl)) (pa_cons pe_int (pa_cons (pe_ix ix_tup (pe_glob (v := .ref aT) rfl mT rfl) (pv 0) (fun _ _ => rfl)) pa_nil))))))))))
      (pss_one (ps_ret pe_bl)) pss_nil)
    (pss_cons (ps_if (PW.pt (pw_or (pt_not (pt_val (pe_callB cr_isB (by rfl) mi (by decide +kernel) (pa_cons (pe_ix ix_tup (pv 1) pe_int (fun _ _ => rfl)) (pa_cons (pe_bltn (v := .ty "tuple") (by rfl) mt (by decide +kernel) rfl) pa_nil)))))
      (pw_or1 (pt_cmpR op_ne (pe_callB call_len_seq (by rfl) ml PySem.boot_len (pa_cons (pe_ix ix_tup (pv 1) pe_int (fun _ _ => rfl)) pa_nil)) (pv 0) (nomark _)))))
      (pss_one (ps_ret pe_bl)) pss_nil)
    (pss_one (ps_ret (pe_cmpR op_eq (pe_callB call_len_seq (by rfl) ml PySem.boot_len (pa_cons (pe_lc (own := [("thing", 2)]) (g := gName 2) rfl nd (pi_tup (pe_ix ix_tup (pv 1) pe_int (fun _ _ => rfl))) (blkOk_by (N := ["many", "value", "thing"]) (sc := defScope s_is_entry) (by decide +kernel))
      (fun _ _ _ _ _ => pg_name (i := 2) nd rfl (Or.inl rfl) (Or.inr rfl))
      (fun _ _ _ _ _ => pts_one (pt_not (pt_val (pe_call G1 hr (by rfl) m1 k1 b1 .nil pass0 (pa_cons (pv 2) (pa_cons pe_int (pa_cons (pe_glob (v := .int 2) rfl mF ⟨_, rfl⟩) pa_nil))))))) (fun _ _ _ _ _ => pe_int)) pa_nil)) pe_int (nomark _))))), ?_⟩
  cases hS with
  | @typ x t h ht =>
    refine ⟨_, rfl, x, t, "tuple", rfl, h.tyx, h.mem, by decide, _, rfl, ?_⟩
    rw [isa_tuple h.mem ht]
    refine ifT rfl ?_
    exact ifT rfl (q H fun _ _ h => h)
  | @len a xs h hl =>
    refine ⟨_, rfl, _, "tuple", "tuple", rfl, .base (.tup h), by decide, by decide, true, rfl, ?_⟩
    refine ifF rfl ?_
    refine ⟨_, rfl, a, xs, rfl, .inr (sqt h), rfl, _, rfl, ?_⟩
    refine ifT ?_ ?_
    · rw [Bool.not_eq_true']
      exact decide_eq_false fun z => hl (by have := V.int.inj z; omega)
    exact ifT rfl (q H fun _ _ h => h)
  | @num a y z h hy hf =>
    refine ⟨_, rfl, _, "tuple", "tuple", rfl, .base (.tup h), by decide, by decide, true, rfl, ?_⟩
    refine ifF rfl ?_
    refine ⟨_, rfl, a, [y, z], rfl, .inr (sqt h), rfl, _, rfl, ?_⟩
    refine ifF rfl ?_
    refine ⟨_, rfl, a, [y, z], 0, y, rfl, rfl, sqt h, atI_nat (j := 0) rfl, _, rfl, aT, _, (n : Int), _, rfl, rfl, kT.sq H, atI_nat (twos_at hn), ?_⟩
    refine ⟨y, 0, _, rfl, hy, ?_⟩
    rw [hf]
    refine ⟨false, rfl, ?_⟩
    exact ifT rfl (q H fun _ _ h => h)
  | @typ2 a y z t h hy hf hz ht =>
    refine ⟨_, rfl, _, "tuple", "tuple", rfl, .base (.tup h), by decide, by decide, true, rfl, ?_⟩
    refine ifF rfl ?_
    refine ⟨_, rfl, a, [y, z], rfl, .inr (sqt h), rfl, _, rfl, ?_⟩
    refine ifF rfl ?_
    refine ⟨_, rfl, a, [y, z], 0, y, rfl, rfl, sqt h, atI_nat (j := 0) rfl, _, rfl, aT, _, (n : Int), _, rfl, rfl, kT.sq H, atI_nat (twos_at hn), ?_⟩
    refine ⟨y, 0, _, rfl, hy, ?_⟩
    rw [hf]
    refine ⟨true, rfl, ?_⟩
    refine ifF rfl ?_
    refine ⟨_, rfl, a, [y, z], 1, z, rfl, rfl, sqt h, atI_nat (j := 1) rfl, z, t, "tuple", rfl, hz.tyx, hz.mem, by decide, _, rfl, ?_⟩
    rw [isa_tuple hz.mem ht]
    refine ifT rfl ?_
    exact ifT rfl (q H fun _ _ h => h)
  | @len2 a c y zs h hy hf hz hl =>
    refine ⟨_, rfl, _, "tuple", "tuple", rfl, .base (.tup h), by decide, by decide, true, rfl, ?_⟩
    refine ifF rfl ?_
    refine ⟨_, rfl, a, [y, .ref c], rfl, .inr (sqt h), rfl, _, rfl, ?_⟩
    refine ifF rfl ?_
    refine ⟨_, rfl, a, [y, .ref c], 0, y, rfl, rfl, sqt h, atI_nat (j := 0) rfl, _, rfl, aT, _, (n : Int), _, rfl, rfl, kT.sq H, atI_nat (twos_at hn), ?_⟩
    refine ⟨y, 0, _, rfl, hy, ?_⟩
    rw [hf]
    refine ⟨true, rfl, ?_⟩
    refine ifF rfl ?_
    refine ⟨_, rfl, a, [y, .ref c], 1, .ref c, rfl, rfl, sqt h, atI_nat (j := 1) rfl, .ref c, "tuple", "tuple", rfl, .base (.tup hz), by decide, by decide, true, rfl, ?_⟩
    refine ifF rfl ?_
    refine ⟨_, rfl, a, [y, .ref c], 1, .ref c, rfl, rfl, sqt h, atI_nat (j := 1) rfl, c, zs, rfl, .inr (sqt hz), _, rfl, rfl, _, rfl, ?_⟩
    refine ifT ?_ (q H fun _ _ h => h)
    rw [Bool.not_eq_true']
    exact decide_eq_false fun z => hl (by have := V.int.inj z; omega)
  | @full a c y zs h hy hf hz hl hi =>
    refine ⟨_, rfl, _, "tuple", "tuple", rfl, .base (.tup h), by decide, by decide, true, rfl, ?_⟩
    refine ifF rfl ?_
    refine ⟨_, rfl, a, [y, .ref c], rfl, .inr (sqt h), rfl, _, rfl, ?_⟩
    refine ifF rfl ?_
    refine ⟨_, rfl, a, [y, .ref c], 0, y, rfl, rfl, sqt h, atI_nat (j := 0) rfl, _, rfl, aT, _, (n : Int), _, rfl, rfl, kT.sq H, atI_nat (twos_at hn), ?_⟩
    refine ⟨y, 0, _, rfl, hy, ?_⟩
    rw [hf]
    refine ⟨true, rfl, ?_⟩
    refine ifF rfl ?_
    refine ⟨_, rfl, a, [y, .ref c], 1, .ref c, rfl, rfl, sqt h, atI_nat (j := 1) rfl, .ref c, "tuple", "tuple", rfl, .base (.tup hz), by decide, by decide, true, rfl, ?_⟩
    refine ifF rfl ?_
    refine ⟨_, rfl, a, [y, .ref c], 1, .ref c, rfl, rfl, sqt h, atI_nat (j := 1) rfl, c, zs, rfl, .inr (sqt hz), _, rfl, rfl, _, rfl, ?_⟩
    refine ifF ?_ ?_
    · rw [Bool.not_eq_false']
      exact decide_eq_true (by rw [hl])
    refine ⟨_, rfl, a, [y, .ref c], 1, .ref c, rfl, rfl, sqt h, atI_nat (j := 1) rfl, c, rfl, ⟨_, sqt hz⟩, fun D hD => ?_⟩
    refine lc_ones (walk_tup (xs := zs)) (fun i => !isF 0 2 (zs.getD i .non)) hD (by omega) (fun H' s' => sqt (s' _ _ hz)) (fun i x H' H'' hi' s' y' Cont hC => ?_) (fun H' s' e' => ?_)
    · obtain ⟨rfl, hx⟩ := y'
      have hgd : zs.getD i .non = x := by rw [List.getD_eq_getElem?_getD, hx] <;> rfl
      have hC' := hC _ (fun _ _ h => h)
      rw [hgd] at hC'
      refine ⟨rfl, _, rfl, ?_⟩
      exact ⟨x, 0, 2, rfl, hi x (List.mem_of_getElem? hx), _, rfl, hC'⟩
    · refine ⟨D, _, rfl, .inl (SqL.of e'), rfl, ?_⟩
      have e2 : decide (V.int ((List.replicate ((List.range zs.length).countP fun i => !isF 0 2 (zs.getD i .non)) (V.int 1)).length : Nat) = V.int 0) = zs.all (isF 0 2) := by
        rw [List.length_replicate, Bool.eq_iff_iff, decide_eq_true_eq, List.all_eq_true]
        constructor
        · intro z x hx
          have z1 : (List.range zs.length).countP (fun i => !isF 0 2 (zs.getD i .non)) = 0 := by have := V.int.inj z; omega
          rw [List.countP_eq_zero] at z1
          obtain ⟨i, hi', rfl⟩ := List.getElem_of_mem hx
          have := z1 i (List.mem_range.mpr hi')
          rw [List.getD_eq_getElem?_getD, List.getElem?_eq_getElem hi'] at this
          simpa using this
        · intro z
          have z1 : (List.range zs.length).countP (fun i => !isF 0 2 (zs.getD i .non)) = 0 := by
            rw [List.countP_eq_zero]
            intro i hi'
            have hi' := List.mem_range.mp hi'
            rw [List.getD_eq_getElem?_getD, List.getElem?_eq_getElem hi']
            have := z _ (List.getElem_mem hi')
            simp [this]
          rw [z1]
          rfl
      rw [← e2] at q
      exact q H' s'
end
end Kb
/-! is_entry_set, lies_within. -/
namespace Kb
open PySem PySem.Spec PyProof.Rows L2
theorem cut_one (xs : List V) : cutV xs (some 1) none = xs.drop 1 := by
  cases xs with
  | nil => rfl
  | cons x r => exact cut_from (i := 1) (by simp)
theorem dec_len0 {m : Nat} {x : V} : decide (V.int (((List.replicate m x).length : Nat) : Int) = V.int 0) = decide (m = 0) := by
  rw [List.length_replicate, Bool.eq_iff_iff, decide_eq_true_eq, decide_eq_true_eq]
  constructor
  · intro z
    have := V.int.inj z
    omega
  · intro z
    rw [z]
    rfl
theorem dec_gt0 {m : Nat} {x : V} : decide ((((List.replicate m x).length : Nat) : Int) > 0) = decide (0 < m) := by
  rw [List.length_replicate, Bool.eq_iff_iff, decide_eq_true_eq, decide_eq_true_eq]
  omega
theorem countP_none {n : Nat} {p : Nat → Bool} (h : ∀ i, i < n → p i = false) : (List.range n).countP p = 0 := by
  rw [List.countP_eq_zero]
  intro i hi
  rw [h i (List.mem_range.mp hi)]
  exact Bool.false_ne_true
/-- no book, and judged so at sight -/
inductive NonBk (n : Nat) (H : Hp) : V → Prop
  | typ {x : V} {t : String} (h : TyS H x t) (ht : t ≠ "tuple") : NonBk n H x
  | one {a : Addr} {y : V} (h : H a = some (.tup [y])) (hs : Sh n H y false) : NonBk n H (.ref a)
theorem NonBk.same {n : Nat} {H H' : Hp} {x : V} (h : NonBk n H x) (s : Same H H') : NonBk n H' x := by
  cases h with
  | typ h ht => exact .typ (h.same s) ht
  | one h hs => exact .one (s _ _ h) (hs.same s)
abbrev ents (ks : List AE) : List En := ks.map (·.2)
theorem book_at {H : Hp} {t : Addr} {ks : List AE} {i : Nat} {x : V} (h : BookH H t ks) (hx : (ks.map fun k => V.ref k.1)[i]? = some x) : ∃ r, x = .ref r ∧ EntH H r (enAt (ents ks) i) ∧ i < ks.length := by
  rw [List.getElem?_map] at hx
  obtain ⟨k, hk, rfl⟩ := Option.map_eq_some_iff.mp hx
  have hi := (List.getElem?_eq_some_iff.mp hk).1
  refine ⟨k.1, rfl, ?_, hi⟩
  have e : enAt (ents ks) i = k.2 := by
    rw [enAt_get (by rw [List.length_map]; exact hi), List.getElem_map]
    congr 1
    exact (List.getElem?_eq_some_iff.mp hk).2
  rw [e]
  exact h.2 k (List.mem_of_getElem? hk)
theorem enAt_ok {n : Nat} {ks : List AE} {i : Nat} (h : ∀ k ∈ ks, EnOk n k.2) (hi : i < ks.length) : EnOk n (enAt (ents ks) i) := by
  rw [enAt_get (by rw [List.length_map]; exact hi), List.getElem_map]
  exact h _ (List.getElem_mem hi)
theorem RZ_walk {K : PySem.W.Frag} {a b : Addr} {xs : List V} : Walk (RZ.ItzT K a b) (xs.length - 1) (fun H => SqT K H a xs ∧ SqT K H b (xs.drop 1)) (YPair (fun i => xs[i]?) (fun i => (xs.drop 1)[i]?)) :=
  walk_zipT (by rw [List.length_drop]; omega)
section
variable {P : Program} {w : World} {K : PySem.W.Frag} {mg : Str → Option Value} {base : Heap}
/-! ### is_entry_set -/
theorem scSet : FnScope ["many", "value", "item", "near", "far"] ["many", "value"] (defScope s_is_entry_set) := ⟨rfl, rfl, rfl, by decide +kernel, rfl, by decide +kernel, by decide +kernel⟩
def spSet : Sp := fun vs H Q _ => ∃ (n : Nat) (x : V), vs = [.int n, x] ∧ (n = 2 ∨ n = 3) ∧ ((NonBk n H x ∧ ∀ H', Same H H' → Q (.bl false) H') ∨
  ∃ t ks, x = .ref t ∧ BookH H t ks ∧ (∀ k ∈ ks, EnOk n k.2) ∧ ks.length ≤ 63 ∧ ∀ H', Same H H' → Q (.bl (srtB (ents ks))) H')
theorem ok_set {f f1 : Addr} {fd fd1 : FuncData} {t0 : Tok} (F0 : Fun K "is_entry_set" "is_entry_set" s_is_entry_set f fd)
    (G1 : FnOk P w K mg base CX0 2 f1 fd1 ["many", "value"] spIsE) (b1 : Binds K fd1 ["many", "value"] []) (k1 : PySem.W.keepIn K (.ref f1) = true) (m1 : mg "is_entry" = some (.ref f1))
    (mM : mg "MOST_ENTRIES" = some (.int 20000 t0)) (mi : mg "isinstance" = none) (mt : mg "tuple" = none) (ml : mg "len" = none) (mz : mg "zip" = none) :
    FnOk P w K mg base CX0 3 f fd ["many", "value"] spSet := by
  refine F0.ok scSet (fun vs H Q E h => ?_) (fun cdv A outer s H vs Q E hr h => ?_)
  · obtain ⟨n, x, rfl, _⟩ := h
    rfl
  obtain ⟨n, x, rfl, hn, h⟩ := h
  have hu20 := hu_room20 hr
  have nd := scSet.nd
  refine ⟨_, pss_cons (ps_if (PW.pt (pw_or (pt_not (pt_val (pe_callB cr_isB (by rfl) mi (by decide +kernel) (pa_cons (pv 1) (pa_cons (pe_bltn (v := .ty "tuple") (by rfl) mt (by decide +kernel) rfl) pa_nil)))))
      (pw_or1 (pt_cmpR op_gt (pe_callB call_len_seq (by rfl) ml PySem.boot_len (pa_cons (pv 1) pa_nil)) (pe_glob (v := .int 20000) rfl mM ⟨_, rfl⟩) (nomark _)))))
      (pss_one (ps_ret pe_bl)) pss_nil)
    (pss_cons (ps_if (pt_cmpR op_gt (pe_callB call_len_seq (by rfl) ml PySem.boot_len (pa_cons (pe_lc (own := [("item", 2)]) (g := gName 2) rfl nd (pi_tup (pv 1)) (blkOk_by (N := ["many", "value", "item", "near", "far"]) (sc := defScope s_is_entry_set) (by decide +kernel))
        (fun _ _ _ _ _ => pg_name (i := 2) nd rfl (Or.inl rfl) (Or.inr rfl))
        (fun _ _ _ _ _ => pts_one (pt_not (pt_val (pe_call G1 hr (by rfl) m1 k1 b1 .nil pass0 (pa_cons (pv 0) (pa_cons (pv 2) pa_nil)))))) (fun _ _ _ _ _ => pe_int)) pa_nil)) pe_int (nomark _))
      (pss_one (ps_ret pe_bl)) pss_nil)
    (pss_one (ps_ret (pe_cmpR op_eq (pe_callB call_len_seq (by rfl) ml PySem.boot_len (pa_cons (pe_lc (own := [("near", 3), ("far", 4)]) (g := g2 K 3 4) rfl nd
        (RZ.pi_zipA (by rfl) mz (pa_cons (pv 1) (pa_cons (pe_slice sl_tupS (pv 1) (po_some pe_int) po_none) pa_nil))) (blkOk_by (N := ["many", "value", "item", "near", "far"]) (sc := defScope s_is_entry_set) (by decide +kernel))
        (fun _ _ _ _ _ => pg_tup rfl (pgs_cons (pg_name (i := 3) nd rfl (Or.inl rfl) (Or.inr rfl)) (pgs_cons (pg_name (i := 4) nd rfl (Or.inl rfl) (Or.inr rfl)) pgs_nil)))
        (fun _ _ _ _ _ => pts_one (pt_cmpR (op_geE hu20) (pv 3) (pv 4) (nomark _))) (fun _ _ _ _ _ => pe_int)) pa_nil)) pe_int (nomark _))))), ?_⟩
  rcases h with ⟨hB, q⟩ | ⟨t, ks, rfl, hB, hO, hL, q⟩
  · cases hB with
    | @typ x t h ht =>
      refine ⟨_, rfl, x, t, "tuple", rfl, h.tyx, h.mem, by decide, _, rfl, ?_⟩
      rw [isa_tuple h.mem ht]
      refine ifT rfl ?_
      exact ifT rfl (q H fun _ _ h => h)
    | @one a y h hs =>
      refine ⟨_, rfl, _, "tuple", "tuple", rfl, .base (.tup h), by decide, by decide, true, rfl, ?_⟩
      refine ifF rfl ?_
      refine ⟨_, rfl, a, [y], rfl, .inr (sqt h), _, _, rfl, rfl, _, rfl, ?_⟩
      refine ifF rfl ?_
      refine ⟨_, rfl, a, rfl, ⟨_, sqt h⟩, fun D hD => ?_⟩
      refine lc_ones (walk_tup (xs := [y])) (fun _ => true) hD (by simp) (fun H' s' => sqt (s' _ _ h)) (fun i x H' H'' hi' s' y' Cont hC => ?_) (fun H' s' e' => ?_)
      · obtain ⟨e0, hx⟩ := y'
        subst e0
        have hi0 : i = 0 := by simpa using hi'
        subst hi0
        have ey : y = x := by simpa using hx
        subst ey
        exact ⟨rfl, _, rfl, _, rfl, n, y, false, rfl, hn, hs.same s', fun H3 s3 => ⟨false, rfl, hC H3 s3⟩⟩
      · refine ⟨D, _, rfl, .inl (SqL.of e'), _, _, rfl, rfl, _, rfl, ?_⟩
        exact ifT rfl (q H' s')
  · have hlm : (ks.map fun k => V.ref k.1).length = ks.length := List.length_map _
    refine ⟨_, rfl, _, "tuple", "tuple", rfl, .base (.tup hB.1), by decide, by decide, true, rfl, ?_⟩
    refine ifF rfl ?_
    refine ⟨_, rfl, t, _, rfl, .inr (sqt hB.1), _, _, rfl, rfl, _, rfl, ?_⟩
    refine ifF (decide_eq_false (by rw [hlm]; omega)) ?_
    refine ⟨_, rfl, t, rfl, ⟨_, sqt hB.1⟩, fun D hD => ?_⟩
    refine lc_ones (walk_tup (xs := ks.map fun k => V.ref k.1)) (fun _ => false) hD (by omega) (fun H' s' => sqt (s' _ _ hB.1)) (fun i x H' H'' hi' s' y' Cont hC => ?_) (fun H' s' e' => ?_)
    · obtain ⟨e0, hx⟩ := y'
      subst e0
      obtain ⟨r, rfl, he, hi⟩ := book_at (hB.keep (same_tup s')) hx
      exact ⟨rfl, _, rfl, _, rfl, n, .ref r, true, rfl, hn, Sh.ent hn he (enAt_ok hO hi), fun H3 s3 => ⟨true, rfl, hC H3 s3⟩⟩
    · rw [countP_none (fun _ _ => rfl)] at e'
      refine ⟨D, _, rfl, .inl (SqL.of e'), _, _, rfl, rfl, _, rfl, ?_⟩
      refine ifF rfl ?_
      refine ⟨_, rfl, _, rfl, _, rfl, t, _, rfl, s' _ _ hB.1, fun p H2 s2 e2 => ?_⟩
      rw [cut_one] at e2
      have s12 := s'.trans s2
      refine ⟨t, p, _, _, rfl, .inr ⟨sqt (s12 _ _ hB.1), sqt e2, ?_⟩⟩
      refine fun D2 hD2 => lc_ones (RZ_walk (a := t) (b := p) (xs := ks.map fun k => V.ref k.1)) (fun i => geD (enAt (ents ks) i) (enAt (ents ks) (i + 1))) hD2 (by omega) (fun H' s' => ⟨sqt (s' _ _ (s12 _ _ hB.1)), sqt (s' _ _ e2)⟩) (fun i x H3 H4 hi' s' y' Cont hC => ?_) (fun H' s' e' => ?_)
      · obtain ⟨T, x1, x2, rfl, nT, rfl, hx1, hx2⟩ := y'
        have hx1 : (ks.map fun k => V.ref k.1)[i]? = some x1 := hx1
        have hx2 : ((ks.map fun k => V.ref k.1).drop 1)[i]? = some x2 := hx2
        rw [List.getElem?_drop, Nat.add_comm 1 i] at hx2
        have sT := same_upd (o := .tup [x1, x2]) nT
        have hB4 := hB.keep (same_tup (s12.trans (s'.trans sT)))
        obtain ⟨r1, rfl, he1, _⟩ := book_at hB4 hx1
        obtain ⟨r2, rfl, he2, _⟩ := book_at hB4 hx2
        refine ⟨T, _, rfl, sqt upd_same, rfl, _, _, rfl, _, _, rfl, rfl, rfl, ?_⟩
        exact ⟨_, rfl, _, rfl, r1, r2, _, _, rfl, rfl, he1, he2, _, rfl, hC _ sT⟩
      · refine ⟨D2, _, rfl, .inl (SqL.of e'), rfl, ?_⟩
        have := q H' (s12.trans s')
        rw [dec_len0]
        have e3 : srtB (ents ks) = decide ((List.range (ks.length - 1)).countP (fun i => geD (enAt (ents ks) i) (enAt (ents ks) (i + 1))) = 0) := by
          unfold srtB noneN
          rw [List.length_map]
        rw [e3] at this
        rw [hlm]
        exact this
end
end Kb
/-! lies_within, stands_so. -/
namespace Kb
open PySem PySem.Spec PyProof.Rows L2
theorem AL_of {n : Nat} {a : Int} {cs : List Int} (h : (a, cs) ∈ AL n) : True := trivial
section
variable {P : Program} {w : World} {K : PySem.W.Frag} {mg : Str → Option Value} {base : Heap}
theorem scLies : FnScope ["asks", "cube", "entries", "known", "found", "place", "near", "far"] ["asks", "cube", "entries", "known"] (defScope s_lies_within) := ⟨rfl, rfl, rfl, by decide +kernel, rfl, by decide +kernel, by decide +kernel⟩
def spLies (P : Program) (w : World) (k : Nat) : Sp := fun vs H Q _ => ∃ (a : Int) (c d e : Addr) (cs : List Int) (n : Nat) (es ws : List En), vs = [.int a, .ref c, .ref d, .ref e] ∧ (n = 2 ∨ n = 3) ∧ 0 ≤ a ∧ a ≤ 4 ∧ CubeH H c cs ∧ cs.length = n ∧ Dig cs ∧ (free cs).length < k ∧
  (∀ x ∈ es, EnOk n x) ∧ ED P w (fun _ => .bl true) H d es ∧ ED P w (fun x => .bl (WB es x.1 x.2)) H e ws ∧ (∀ x ∈ ws, x ∈ AL n) ∧ d ≠ e ∧
  ∀ H' ws', But [e] H H' → ED P w (fun x => .bl (WB es x.1 x.2)) H' e ws' → (∀ x ∈ ws', x ∈ AL n) → Q (.bl (WB es a cs)) H'
theorem lies_none {j : Nat} {f : Addr} {fd : FuncData} : FnOk P w K mg base CX0 j f fd ["asks", "cube", "entries", "known"] (spLies P w 0) := by
  have no : ∀ vs H Q E, ¬ spLies P w 0 vs H Q E := fun vs H Q E h => by
    obtain ⟨a, c, d, e, cs, n, es, ws, _, _, _, _, _, _, _, h1, _⟩ := h
    omega
  exact ⟨fun vs H Q E h => absurd h (no vs H Q E), fun A outer s H args us vs Q E _ _ _ _ h => absurd h (no vs H Q E)⟩
theorem ok_lies {j k : Nat} {f f1 f2 : Addr} {fd fd1 fd2 : FuncData} (hj : 2 ≤ j) (F0 : Fun K "lies_within" "lies_within" s_lies_within f fd) (bF : Binds K fd ["asks", "cube", "entries", "known"] []) (kF : PySem.W.keepIn K (.ref f) = true) (mF : mg "lies_within" = some (.ref f))
    (G : FnOk P w K mg base CX0 j f fd ["asks", "cube", "entries", "known"] (spLies P w k))
    (G1 : FnOk P w K mg base CX0 1 f1 fd1 ["cube"] spFree) (b1 : Binds K fd1 ["cube"] []) (k1 : PySem.W.keepIn K (.ref f1) = true) (m1 : mg "free_bits" = some (.ref f1))
    (G2 : FnOk P w K mg base CX0 2 f2 fd2 ["cube", "place"] spHalves) (b2 : Binds K fd2 ["cube", "place"] []) (k2 : PySem.W.keepIn K (.ref f2) = true) (m2 : mg "halves_of" = some (.ref f2)) :
    FnOk P w K mg base CX0 (j + 1) f fd ["asks", "cube", "entries", "known"] (spLies P w (k + 1)) := by
  refine F0.ok scLies (fun vs H Q E h => ?_) (fun cdv A outer s H vs Q E hr h => ?_)
  · obtain ⟨a, c, d, e, cs, n, es, ws, rfl, _⟩ := h
    rfl
  obtain ⟨a, c, d, e, cs, n, es, ws, rfl, hn, ha0, ha4, hc, hl, hd, hk, hes, hD, hE, hws, hde, q⟩ := h
  have hu20 := hu_room20 hr
  have nd := scLies.nd
  refine ⟨_, pss_cons (ps_if (pt_cmpR (op_ndNotIn hu20) (pe_tup (pa_cons (pv 0) (pa_cons (pv 1) pa_nil))) (pv 3) (by rfl))
      (pss_cons (ps_set (i := 4) nd rfl (.inl rfl) (pe_cmpR (op_ndIn hu20) (pe_tup (pa_cons (pv 0) (pa_cons (pv 1) pa_nil))) (pv 2) (by rfl)))
      (pss_cons (ps_for PassesOwn.never rfl (pi_list (pe_call G1 (hr.mono (by omega)) (by rfl) m1 k1 b1 .nil pass0 (pa_cons (pv 1) pa_nil))) (pg_name (i := 5) nd rfl (.inl rfl))
        (pss_one (ps_if (pt_not (pt_val (pv 4)))
          (pss_cons (ps_asg (pe_call G2 (hr.mono (by omega)) (by rfl) m2 k2 b2 .nil pass0 (pa_cons (pv 1) (pa_cons (pv 5) pa_nil)))
              (pg_tup rfl (pgs_cons (pg_name (i := 6) nd rfl (.inl rfl)) (pgs_cons (pg_name (i := 7) nd rfl (.inl rfl)) pgs_nil))))
          (pss_one (ps_set (i := 4) nd rfl (.inl rfl) (pe_or (pe_call G hr (by rfl) mF kF bF .nil pass0 (pa_cons (pv 0) (pa_cons (pv 6) (pa_cons (pv 2) (pa_cons (pv 3) pa_nil)))))
            (pe_one (pe_call G hr (by rfl) mF kF bF .nil pass0 (pa_cons (pv 0) (pa_cons (pv 7) (pa_cons (pv 2) (pa_cons (pv 3) pa_nil)))))))))) pss_nil)))
      (pss_one (ps_asg (pv 4) (pg_sub (pv 3) (pe_tup (pa_cons (pv 0) (pa_cons (pv 1) pa_nil))) (set_nd hu20)))))) pss_nil)
    (pss_one (ps_ret (pe_ix (ix_nd hu20) (pv 3) (pe_tup (pa_cons (pv 0) (pa_cons (pv 1) pa_nil))) (fun _ _ => rfl)))), ?_⟩
  have lt3 : cs.length ≤ 100 := by omega
  -- the end: known[asks, cube]
  have fin : ∀ (H2 : Hp) (ws2 : List En), But [e] H H2 → ED P w (fun x => .bl (WB es x.1 x.2)) H2 e ws2 → (∀ x ∈ ws2, x ∈ AL n) → (a, cs) ∈ ws2 → ∀ t, H2 t = none → rNdGet P w (.ref e) (.ref t) (upd H2 t (.tup [.int a, .ref c])) Q := by
    intro H2 ws2 b2 hE2 hw2 hm t ht
    have sT := same_upd (o := .tup [.int a, .ref c]) ht
    have hE3 := hE2.but (But.same sT (l := [])) (by simp)
    exact ⟨t, e, (a, cs), _, _, rfl, rfl, ⟨c, upd_same, sT _ _ (hc.keep b2.tup)⟩, hE3.at_, (hE3.val (a, cs)).1 hm, q _ ws2 (b2.trans (But.same sT)) hE3 hw2⟩
  refine ⟨_, rfl, _, rfl, (by show 2 ≤ sizeLine; decide), fun t1 ht1 => ?_⟩
  have s1 := same_upd (o := .tup [.int a, .ref c]) ht1
  have en1 : EntH (upd H t1 (.tup [.int a, .ref c])) t1 (a, cs) := ⟨c, upd_same, s1 _ _ hc⟩
  generalize upd H t1 (.tup [.int a, .ref c]) = H1 at s1 en1 ⊢
  have hE1 := hE.but (But.same s1 (l := [])) (by simp)
  have hD1 := hD.but (But.same s1 (l := [])) (by simp)
  refine ⟨_, rfl, t1, e, (a, cs), _, rfl, rfl, en1, hE1.at_, _, rfl, ?_⟩
  by_cases hin : (a, cs) ∈ ws
  · refine ifF (by rw [if_pos rfl, (hE1.isin _).mpr hin]; rfl) ?_
    exact ⟨_, rfl, _, rfl, _, rfl, (by show 2 ≤ sizeLine; decide), fun t ht => fin H1 ws (But.same s1) hE1 hws hin t ht⟩
  refine ifT ?_ ?_
  · rw [if_pos rfl]
    cases hz : (valV (mkG id (fun x => V.bl (WB es x.1 x.2)) ws) (a, cs)).isSome with
    | false => rfl
    | true => exact absurd ((hE1.isin _).mp hz) hin
  -- found = (asks, cube) in entries
  refine ⟨_, rfl, _, rfl, (by show 2 ≤ sizeLine; decide), fun t2 ht2 => ?_⟩
  have s2 := same_upd (o := .tup [.int a, .ref c]) ht2
  have s12 : Same H (upd H1 t2 (.tup [.int a, .ref c])) := s1.trans s2
  have en2 : EntH (upd H1 t2 (.tup [.int a, .ref c])) t2 (a, cs) := ⟨c, upd_same, s12 _ _ hc⟩
  generalize upd H1 t2 (.tup [.int a, .ref c]) = H2 at s2 s12 en2 ⊢
  have hE2 := hE.but (But.same s12 (l := [])) (by simp)
  have hD2 := hD.but (But.same s12 (l := [])) (by simp)
  refine ⟨_, rfl, t2, d, (a, cs), _, rfl, rfl, en2, hD2.at_, ?_⟩
  have em : (if false = true then !(valV (mkG id (fun _ => V.bl true) es) (a, cs)).isSome else (valV (mkG id (fun _ => V.bl true) es) (a, cs)).isSome) = decide ((a, cs) ∈ es) := by
    rw [if_neg Bool.false_ne_true, Bool.eq_iff_iff, decide_eq_true_eq]
    exact hD2.isin _
  rw [em]
  refine ⟨_, rfl, c, cs, rfl, hc.keep (same_tup s12), lt3, fun l H3 nl s3 e3 => ?_⟩
  have elen : ((free cs).map fun i : Nat => V.int i).length = (free cs).length := List.length_map _
  have s13 : Same H H3 := s12.trans s3
  have hE3 := hE.but (But.same s13 (l := [])) (by simp)
  have hle : l ≠ e := hE3.ne e3
  refine ⟨l, rfl, ⟨_, SqL.of e3⟩, for_list (K := K) (a := l) (xs := (free cs).map fun i : Nat => V.int i) (fun i σ' H' => ∃ y5 y6 y7 ws', σ' = [some (.int a), some (.ref c), some (.ref d), some (.ref e), some (.bl (decide ((a, cs) ∈ es) || ((free cs).take i).any fun k => WB es a (cs.set k 1) || WB es a (cs.set k 0))), y5, y6, y7] ∧
      H' l = some (.lst ((free cs).map fun i : Nat => V.int i)) ∧ But [e] H H' ∧ ED P w (fun x => .bl (WB es x.1 x.2)) H' e ws' ∧ (∀ x ∈ ws', x ∈ AL n))
    ⟨_, _, _, ws, by rw [List.take_zero, List.any_nil, Bool.or_false]; rfl, e3, But.same s13, hE3, hws⟩ (fun i σ' H' _ p => ?_) (fun i x σ' H' hx p => ?_) (fun σ' H' p => ?_)⟩
  · obtain ⟨_, _, _, _, _, p2, _⟩ := p
    exact SqL.of p2
  · obtain ⟨y5, y6, y7, ws', rfl, p2, p3, p4, p5⟩ := p
    rw [List.getElem?_map] at hx
    obtain ⟨pl, hpl, rfl⟩ := Option.map_eq_some_iff.mp hx
    have hmem : pl ∈ free cs := List.mem_of_getElem? hpl
    have hf1 := free_set hmem (show (1 : Int) ≠ 2 by decide)
    have hf0 := free_set hmem (show (0 : Int) ≠ 2 by decide)
    have tk : ((free cs).take (i + 1)).any (fun k => WB es a (cs.set k 1) || WB es a (cs.set k 0)) = (((free cs).take i).any (fun k => WB es a (cs.set k 1) || WB es a (cs.set k 0)) || (WB es a (cs.set pl 1) || WB es a (cs.set pl 0))) := by
      rw [List.take_add_one, hpl, List.any_append]
      simp
    generalize hfd : (decide ((a, cs) ∈ es) || ((free cs).take i).any fun k => WB es a (cs.set k 1) || WB es a (cs.set k 0)) = fd0
    refine ⟨_, rfl, fd0, rfl, ?_⟩
    have nxt : (decide ((a, cs) ∈ es) || ((free cs).take (i + 1)).any fun k => WB es a (cs.set k 1) || WB es a (cs.set k 0)) = (fd0 || (WB es a (cs.set pl 1) || WB es a (cs.set pl 0))) := by
      rw [tk, ← Bool.or_assoc, hfd]
    cases fd0 with
    | true =>
      refine ifF rfl ?_
      refine ⟨some (.int pl), y6, y7, ws', ?_, p2, p3, p4, p5⟩
      rw [nxt]
      rfl
    | false =>
      refine ifT rfl ?_
      refine ⟨_, rfl, _, rfl, c, cs, pl, rfl, hc.keep p3.tup, free_lt hmem, lt3, fun t q1 q2 H4 s4 et eq1 eq2 => ?_⟩
      refine ⟨t, _, rfl, sqt et, rfl, _, _, rfl, _, _, rfl, rfl, ?_⟩
      have b4 : But [e] H H4 := p3.trans (But.same s4)
      refine ⟨_, rfl, _, rfl, _, rfl, _, rfl, a, q1, d, e, cs.set pl 1, n, es, ws', rfl, hn, ha0, ha4, eq1, by rw [List.length_set]; exact hl, hd.set pl (.inr (.inl rfl)), by omega, hes, hD.but b4 (by simp; exact hde), p4.but (But.same s4 (l := [])) (by simp), p5, hde, fun H5 ws5 b5 hE5 hw5 => ?_⟩
      have hl5 : H5 l = some (.lst ((free cs).map fun i : Nat => V.int i)) := b5.rest _ _ (by simp; exact hle) (s4 _ _ p2)
      refine ⟨_, rfl, if2 (fun h1 => ?_) (fun h1 => ?_)⟩
      · refine ⟨some (.int pl), some (.ref q1), some (.ref q2), ws5, ?_, hl5, b4.trans b5, hE5, hw5⟩
        rw [nxt, h1]
        rfl
      · refine ⟨_, rfl, _, rfl, _, rfl, _, rfl, a, q2, d, e, cs.set pl 0, n, es, ws5, rfl, hn, ha0, ha4, eq2.keep b5.tup, by rw [List.length_set]; exact hl, hd.set pl (.inl rfl), by omega, hes, hD.but (b4.trans b5) (by simp; exact hde), hE5, hw5, hde, fun H6 ws6 b6 hE6 hw6 => ?_⟩
        refine ⟨some (.int pl), some (.ref q1), some (.ref q2), ws6, ?_, b6.rest _ _ (by simp; exact hle) hl5, b4.trans (b5.trans b6), hE6, hw6⟩
        rw [nxt, h1]
        rfl
  · obtain ⟨y5, y6, y7, ws', rfl, p2, p3, p4, p5⟩ := p
    rw [elen, List.take_of_length_le (Nat.le_refl _), ← W_split hes a hl]
    refine ⟨_, rfl, _, rfl, _, rfl, _, rfl, (by show 2 ≤ sizeLine; decide), fun t7 ht7 => ?_⟩
    have s7 := same_upd (o := .tup [.int a, .ref c]) ht7
    have en7 : EntH (upd H' t7 (.tup [.int a, .ref c])) t7 (a, cs) := ⟨c, upd_same, s7 _ _ (hc.keep p3.tup)⟩
    have hE7 := p4.but (But.same s7 (l := [])) (by simp)
    have hkl : (mkG (id : En → En) (fun x => V.bl (WB es x.1 x.2)) ws').length < 100000 := by
      rw [mkG_length]
      have := nodup_le p4.nd p5
      have := AL_len hn
      omega
    refine ⟨t7, e, (a, cs), _, rfl, rfl, en7, hE7.at_, hkl, fun H8 nd8 o8 k8 => ?_⟩
    have hE8 : ED P w (fun x => .bl (WB es x.1 x.2)) H8 e (addK (a, cs) ws') := hE7.put nd8
    have b8 : But [e] H H8 := p3.trans ((But.same s7).trans (hE7.putBut o8 k8))
    refine ⟨_, rfl, _, rfl, _, rfl, (by show 2 ≤ sizeLine; decide), fun t ht => fin H8 _ b8 hE8 (fun x hx => ?_) (addK_mem.mpr (.inr rfl)) t ht⟩
    rcases addK_mem.mp hx with z | z
    · exact p5 x z
    · rw [z]; exact mem_AL hl hd ha0 ha4
/-! ### stands_so -/
theorem scStands : FnScope ["values", "entry", "entries", "kinds", "known", "asks", "cube", "place", "near", "far"] ["values", "entry", "entries", "kinds", "known"] (defScope s_stands_so) := ⟨rfl, rfl, rfl, by decide +kernel, rfl, by decide +kernel, by decide +kernel⟩
def spStands (P : Program) (w : World) : Sp := fun vs H Q _ => ∃ (v r d kd kn : Addr) (vals : List Int) (n : Nat) (e : En) (ks : List (List Int)) (es ws : List En), vs = [.ref v, .ref r, .ref d, .ref kd, .ref kn] ∧ (n = 2 ∨ n = 3) ∧ ValsH H v vals n ∧ EntH H r e ∧ EnOk n e ∧
  (∀ x ∈ es, EnOk n x) ∧ ED P w (fun _ => .bl true) H d es ∧ CD (KD vals) n H kd ks ∧ ED P w (fun x => .bl (WB es x.1 x.2)) H kn ws ∧ (∀ x ∈ ws, x ∈ AL n) ∧ d ≠ kn ∧
  ∀ H' ks' ws', But [kd, kn] H H' → CD (KD vals) n H' kd ks' → ED P w (fun x => .bl (WB es x.1 x.2)) H' kn ws' → (∀ x ∈ ws', x ∈ AL n) → Q (.bl (StB vals es e)) H'
theorem ok_stands {f f1 f2 f3 f4 : Addr} {fd fd1 fd2 fd3 fd4 : FuncData} (F0 : Fun K "stands_so" "stands_so" s_stands_so f fd)
    (G1 : FnOk P w K mg base CX0 1 f1 fd1 ["cube"] spFree) (b1 : Binds K fd1 ["cube"] []) (k1 : PySem.W.keepIn K (.ref f1) = true) (m1 : mg "free_bits" = some (.ref f1))
    (G2 : FnOk P w K mg base CX0 2 f2 fd2 ["cube", "place"] spHalves) (b2 : Binds K fd2 ["cube", "place"] []) (k2 : PySem.W.keepIn K (.ref f2) = true) (m2 : mg "halves_of" = some (.ref f2))
    (G3 : FnOk P w K mg base CX0 6 f3 fd3 ["values", "cube", "known"] (spKinds 4)) (b3 : Binds K fd3 ["values", "cube", "known"] []) (k3 : PySem.W.keepIn K (.ref f3) = true) (m3 : mg "kinds_so" = some (.ref f3))
    (G4 : FnOk P w K mg base CX0 6 f4 fd4 ["asks", "cube", "entries", "known"] (spLies P w 4)) (b4 : Binds K fd4 ["asks", "cube", "entries", "known"] []) (k4 : PySem.W.keepIn K (.ref f4) = true) (m4 : mg "lies_within" = some (.ref f4))
    (ml : mg "len" = none) : FnOk P w K mg base CX0 7 f fd ["values", "entry", "entries", "kinds", "known"] (spStands P w) := by
  refine F0.ok scStands (fun vs H Q E h => ?_) (fun cdv A outer s H vs Q E hr h => ?_)
  · obtain ⟨v, r, d, kd, kn, vals, n, e, ks, es, ws, rfl, _⟩ := h
    rfl
  obtain ⟨v, r, d, kd, kn, vals, n, e, ks, es, ws, rfl, hn, hv, he, hok, hes, hD, hKd, hKn, hws, hdn, q⟩ := h
  have nd := scStands.nd
  obtain ⟨a, cs⟩ := e
  obtain ⟨c, he1, he2⟩ := he
  obtain ⟨ha0, ha4, hl, hd⟩ := hok
  have ha0 : 0 ≤ a := ha0
  have ha4 : a ≤ 4 := ha4
  have hl : cs.length = n := hl
  have hd : Dig cs := hd
  have hc : CubeH H c cs := he2
  have ltf : (free cs).length < 4 := by have := free_len cs; omega
  have lt3 : cs.length ≤ 100 := by omega
  refine ⟨_, pss_cons (ps_asg (pv 1) (pg_tup rfl (pgs_cons (pg_name (i := 5) nd rfl (.inl rfl)) (pgs_cons (pg_name (i := 6) nd rfl (.inl rfl)) pgs_nil))))
    (pss_cons (ps_if (pt_cmpR op_eq (pv 5) pe_int (nomark _)) (pss_one (ps_ret (pe_cmpR op_eq (pe_call G3 hr (by rfl) m3 k3 b3 .nil pass0 (pa_cons (pv 0) (pa_cons (pv 6) (pa_cons (pv 3) pa_nil)))) pe_int (nomark _)))) pss_nil)
    (pss_cons (ps_for PassesOwn.never rfl (pi_list (pe_call G1 (hr.mono (by decide)) (by rfl) m1 k1 b1 .nil pass0 (pa_cons (pv 6) pa_nil))) (pg_name (i := 7) nd rfl (.inl rfl))
        (pss_cons (ps_asg (pe_call G2 (hr.mono (by decide)) (by rfl) m2 k2 b2 .nil pass0 (pa_cons (pv 6) (pa_cons (pv 7) pa_nil)))
            (pg_tup rfl (pgs_cons (pg_name (i := 8) nd rfl (.inl rfl)) (pgs_cons (pg_name (i := 9) nd rfl (.inl rfl)) pgs_nil))))
        (pss_one (ps_if (PW.pt (pw_and (pt_not (pt_val (pe_call G4 hr (by rfl) m4 k4 b4 .nil pass0 (pa_cons (pe_op op_sub (pv 5) pe_int) (pa_cons (pv 8) (pa_cons (pv 2) (pa_cons (pv 4) pa_nil)))))))
            (pw_and1 (pt_not (pt_val (pe_call G4 hr (by rfl) m4 k4 b4 .nil pass0 (pa_cons (pe_op op_sub (pv 5) pe_int) (pa_cons (pv 9) (pa_cons (pv 2) (pa_cons (pv 4) pa_nil)))))))))) (pss_one (ps_ret pe_bl)) pss_nil))))
    (pss_one (ps_ret (pe_cmpR op_gt (pe_callB call_len_seq (by rfl) ml PySem.boot_len (pa_cons (pe_call G1 (hr.mono (by decide)) (by rfl) m1 k1 b1 .nil pass0 (pa_cons (pv 6) pa_nil)) pa_nil)) pe_int (nomark _)))))), ?_⟩
  refine ⟨_, rfl, r, _, rfl, sqt he1, rfl, _, _, rfl, _, _, rfl, rfl, ?_⟩
  refine ⟨_, rfl, rfl, _, rfl, if2 (fun h0 => ?_) (fun h0 => ?_)⟩
  · have ea : a = 0 := V.int.inj (of_decide_eq_true h0)
    refine ⟨_, rfl, _, rfl, _, rfl, v, c, kd, vals, cs, n, ks, rfl, hn, hv, hc, hl, hd, ltf, hKd, fun H1 ks1 hb1 hD1 _ _ => ?_⟩
    have es0 : StB vals es (a, cs) = decide (V.int (KD vals cs) = V.int 3) := by
      unfold StB
      rw [if_pos ea, Bool.eq_iff_iff, decide_eq_true_eq]
      constructor
      · intro z
        rw [eq_of_beq z]
      · intro z
        rw [V.int.inj z]
        rfl
    have := q H1 ks1 ws (hb1.mono (by simp)) hD1 (hKn.but hb1 (by simp; exact (hKn.neD hKd.at_).symm)) hws
    rw [es0] at this
    exact ⟨rfl, this⟩
  have ha1 : 0 < a := by
    have : ¬ a = 0 := fun z => of_decide_eq_false h0 (by rw [z])
    omega
  have eS : StB vals es (a, cs) = (((free cs).all fun i => WB es (a - 1) (cs.set i 1) || WB es (a - 1) (cs.set i 0)) && !(free cs).isEmpty) := by
    unfold StB
    rw [if_neg (show ¬ (a, cs).1 = 0 from fun z => by have z : a = 0 := z; omega)]
  refine ⟨_, rfl, c, cs, rfl, hc, lt3, fun l H1 nl s1 e1 => ?_⟩
  have elen : ((free cs).map fun i : Nat => V.int i).length = (free cs).length := List.length_map _
  have hKn1 := hKn.but (But.same s1 (l := [])) (by simp)
  have hln : l ≠ kn := hKn1.ne e1
  refine ⟨l, rfl, ⟨_, SqL.of e1⟩, for_list (K := K) (a := l) (xs := (free cs).map fun i : Nat => V.int i) (fun i σ' H' => ∃ y7 y8 y9 ws', σ' = [some (.ref v), some (.ref r), some (.ref d), some (.ref kd), some (.ref kn), some (.int a), some (.ref c), y7, y8, y9] ∧ H' l = some (.lst ((free cs).map fun i : Nat => V.int i)) ∧ But [kn] H H' ∧
      ED P w (fun x => .bl (WB es x.1 x.2)) H' kn ws' ∧ (∀ x ∈ ws', x ∈ AL n) ∧ ∀ k ∈ (free cs).take i, (WB es (a - 1) (cs.set k 1) || WB es (a - 1) (cs.set k 0)) = true)
    ⟨_, _, _, ws, rfl, e1, But.same s1, hKn1, hws, fun k hk => by simp at hk⟩ (fun i σ' H' _ p => ?_) (fun i x σ' H' hx p => ?_) (fun σ' H' p => ?_)⟩
  · obtain ⟨_, _, _, _, _, p2, _⟩ := p
    exact SqL.of p2
  · obtain ⟨y7, y8, y9, ws', rfl, p2, p3, p4, p5, p6⟩ := p
    rw [List.getElem?_map] at hx
    obtain ⟨pl, hpl, rfl⟩ := Option.map_eq_some_iff.mp hx
    have hmem : pl ∈ free cs := List.mem_of_getElem? hpl
    have hf1 := free_set hmem (show (1 : Int) ≠ 2 by decide)
    have hf0 := free_set hmem (show (0 : Int) ≠ 2 by decide)
    refine ⟨_, rfl, _, rfl, c, cs, pl, rfl, hc.keep p3.tup, free_lt hmem, lt3, fun t q1 q2 H3 s3 et eq1 eq2 => ?_⟩
    refine ⟨t, _, rfl, sqt et, rfl, _, _, rfl, _, _, rfl, rfl, ?_⟩
    have b3 : But [kn] H H3 := p3.trans (But.same s3)
    have tk : ∀ k ∈ (free cs).take (i + 1), k ∈ (free cs).take i ∨ k = pl := by
      intro k hk
      rw [List.take_add_one, hpl] at hk
      rcases List.mem_append.mp hk with z | z
      · exact .inl z
      · exact .inr (by simpa using z)
    refine ⟨_, rfl, _, _, rfl, rfl, _, rfl, _, rfl, _, rfl, a - 1, q1, d, kn, cs.set pl 1, n, es, ws', rfl, hn, by omega, by omega, eq1, by rw [List.length_set]; exact hl, hd.set pl (.inr (.inl rfl)), by omega, hes, hD.but b3 (by simp; exact hdn), p4.but (But.same s3 (l := [])) (by simp), p5, hdn, fun H5 ws5 b5 hE5 hw5 => ?_⟩
    have hl5 : H5 l = some (.lst ((free cs).map fun i : Nat => V.int i)) := b5.rest _ _ (by simp; exact hln) (s3 _ _ p2)
    refine ⟨_, rfl, ?_⟩
    cases h1 : WB es (a - 1) (cs.set pl 1) with
    | true =>
      refine ifF rfl ?_
      refine ifF rfl ?_
      refine ⟨_, _, _, ws5, rfl, hl5, b3.trans b5, hE5, hw5, fun k hk => ?_⟩
      rcases tk k hk with z | z
      · exact p6 k z
      · rw [z, h1]; rfl
    | false =>
      refine ifT rfl ?_
      refine ⟨_, rfl, _, _, rfl, rfl, _, rfl, _, rfl, _, rfl, a - 1, q2, d, kn, cs.set pl 0, n, es, ws5, rfl, hn, by omega, by omega, eq2.keep b5.tup, by rw [List.length_set]; exact hl, hd.set pl (.inl rfl), by omega, hes, hD.but (b3.trans b5) (by simp; exact hdn), hE5, hw5, hdn, fun H6 ws6 b6 hE6 hw6 => ?_⟩
      refine ⟨_, rfl, ?_⟩
      cases h2 : WB es (a - 1) (cs.set pl 0) with
      | true =>
        refine ifF rfl ?_
        refine ⟨_, _, _, ws6, rfl, b6.rest _ _ (by simp; exact hln) hl5, b3.trans (b5.trans b6), hE6, hw6, fun k hk => ?_⟩
        rcases tk k hk with z | z
        · exact p6 k z
        · rw [z, h2, Bool.or_true]
      | false =>
        refine ifT rfl ?_
        have b16 : But [kn] H H6 := b3.trans (b5.trans b6)
        have := q H6 ks ws6 (b16.mono (by simp)) (hKd.but b16 (by simp; exact hKn.neD hKd.at_)) hE6 hw6
        have eF : StB vals es (a, cs) = false := by
          rw [eS]
          have : ((free cs).all fun i => WB es (a - 1) (cs.set i 1) || WB es (a - 1) (cs.set i 0)) = false := by
            rw [Bool.eq_false_iff]
            intro z
            have := List.all_eq_true.mp z pl hmem
            rw [h1, h2] at this
            cases this
          rw [this]
          rfl
        rw [eF] at this
        exact this
  · obtain ⟨y7, y8, y9, ws', rfl, p2, p3, p4, p5, p6⟩ := p
    rw [elen, List.take_of_length_le (Nat.le_refl _)] at p6
    refine ⟨_, rfl, c, cs, rfl, hc.keep p3.tup, lt3, fun l2 H7 nl7 s7 e7 => ?_⟩
    refine ⟨l2, _, rfl, .inl (SqL.of e7), _, _, rfl, rfl, ?_⟩
    have b17 : But [kn] H H7 := p3.trans (But.same s7)
    have := q H7 ks ws' (b17.mono (by simp)) (hKd.but b17 (by simp; exact hKn.neD hKd.at_)) (p4.but (But.same s7 (l := [])) (by simp)) p5
    have eF : StB vals es (a, cs) = decide ((((free cs).map fun i : Nat => V.int i).length : Int) > 0) := by
      rw [eS]
      have : ((free cs).all fun i => WB es (a - 1) (cs.set i 1) || WB es (a - 1) (cs.set i 0)) = true := List.all_eq_true.mpr p6
      rw [this, Bool.true_and, elen]
      cases free cs with
      | nil => rfl
      | cons i r =>
        show true = _
        symm
        exact decide_eq_true (by rw [List.length_cons]; omega)
    rw [eF] at this
    exact this
end
end Kb
/-! is_book_so, is_cube_book. -/
namespace Kb
open PySem PySem.Spec PyProof.Rows L2
theorem ix_tupK {X : Cx} {K : PySem.W.Frag} (e : X.K = K) : IxR X (rIxT K) := by
  subst e
  exact ix_tup
theorem WB_congr {es es' : List En} (h : ∀ x, x ∈ es ↔ x ∈ es') (a : Int) (cs : List Int) : WB es a cs = WB es' a cs := by
  unfold WB
  rw [Bool.eq_iff_iff, List.any_eq_true, List.any_eq_true]
  constructor
  · rintro ⟨x, hx, z⟩
    exact ⟨x, (h x).mp hx, z⟩
  · rintro ⟨x, hx, z⟩
    exact ⟨x, (h x).mpr hx, z⟩
theorem StB_congr {es es' : List En} (h : ∀ x, x ∈ es ↔ x ∈ es') (vals : List Int) (e : En) : StB vals es e = StB vals es' e := by
  unfold StB
  have : (fun i => WB es (e.1 - 1) (e.2.set i 1) || WB es (e.1 - 1) (e.2.set i 0)) = fun i => WB es' (e.1 - 1) (e.2.set i 1) || WB es' (e.1 - 1) (e.2.set i 0) := by
    funext i
    rw [WB_congr h, WB_congr h]
  rw [this]
theorem lc_onesR {J : It} {n : Nat} {G : Hp → Prop} {Y : Nat → Hp → V → Hp → Prop} (w : Walk J n G Y) {g : TG} {tt : TT} {vs : List Nat} {σ : L2.St} {H1 : Hp} {D : Addr} {Qd : Hp → Prop} (R : Hp → Prop) (p : Nat → Bool) (hn : n ≤ 900) (h0 : R (upd H1 D (.lst [])))
    (hup : ∀ H' xs ys, R H' → H' D = some (.lst xs) → R (upd H' D (.lst ys))) (hG : ∀ H', R H' → G H')
    (hs : ∀ i x H' H'', i < n → R H' → (∃ xs, H' D = some (.lst xs)) → Y i H' x H'' → ∀ Cont : Bool → Hp → Prop, (∀ H3, R H3 → H3 D = H' D → Cont (p i) H3) → g x (wipe σ vs) H'' fun σ2 H2 => wipe σ2 vs = wipe σ vs ∧ tt σ2 H2 Cont)
    (hd : ∀ H', R H' → H' D = some (.lst (List.replicate ((List.range n).countP p) (.int 1))) → Qd H') :
    ∃ W : Nat → Nat → Hp → Prop, (∃ m, W 0 m (upd H1 D (.lst []))) ∧ ∀ i m H, W i m H →
      (J.stop i H ∧ Qd H) ∨ (J.go i H ∧ ∃ Nx : Hp → Prop, (∀ H', Nx H' → ∃ m', m' < m ∧ W (i + 1) m' H') ∧ ∀ x H', J.yld i H x H' → g x (wipe σ vs) H' fun σ2 H2 => wipe σ2 vs = wipe σ vs ∧ tt σ2 H2 fun b H3 =>
        if b = true then tC (.int 1) σ2 H3 fun y H4 => ∃ acc, H4 D = some (.lst acc) ∧ acc.length < sizeLine ∧ Nx (upd H4 D (.lst (acc ++ [y]))) else Nx H3) := by
  refine lc_it w (fun i H' => R H' ∧ H' D = some (.lst (List.replicate ((List.range i).countP p) (.int 1)))) ⟨h0, upd_same⟩ (fun i H' _ q => hG H' q.1) (fun i x H' H'' hi q y => ?_) (fun H' q => hd H' q.1 q.2)
  refine hs i x H' H'' hi q.1 ⟨_, q.2⟩ y (fun b H3 => if b = true then ∃ acc, H3 D = some (.lst acc) ∧ acc.length < sizeLine ∧ R (upd H3 D (.lst (acc ++ [.int 1]))) ∧ (upd H3 D (.lst (acc ++ [.int 1]))) D = some (.lst (List.replicate ((List.range (i + 1)).countP p) (.int 1)))
    else R H3 ∧ H3 D = some (.lst (List.replicate ((List.range (i + 1)).countP p) (.int 1)))) fun H3 r3 d3 => ?_
  have e : (List.range (i + 1)).countP p = (List.range i).countP p + (if p i = true then 1 else 0) := by
    rw [List.range_succ, List.countP_append, List.countP_cons, List.countP_nil, Nat.zero_add]
  have q3 := d3.trans q.2
  refine if2 (fun hp => ?_) (fun hp => ?_)
  · refine ⟨_, q3, ?_, hup _ _ _ r3 q3, ?_⟩
    · rw [List.length_replicate]
      have := List.countP_le_length (p := p) (l := List.range i)
      rw [List.length_range] at this
      exact small1000 (by omega)
    · rw [upd_same, e, if_pos hp, List.replicate_succ']
  · refine ⟨r3, ?_⟩
    rw [e, hp]
    exact q3
section
variable {P : Program} {w : World} {K : PySem.W.Frag} {mg : Str → Option Value} {base : Heap}
/-! ### is_book_so -/
theorem scBook : FnScope ["many", "values", "value", "entries", "kinds", "known", "entry"] ["many", "values", "value"] (defScope s_is_book_so) := ⟨rfl, rfl, rfl, by decide +kernel, rfl, by decide +kernel, by decide +kernel⟩
def bookB (vals : List Int) (es : List En) : Bool := srtB es && noneN es.length fun i => !StB vals es (enAt es i)
def spBook : Sp := fun vs H Q _ => ∃ (n : Nat) (v : Addr) (vals : List Int) (x : V), vs = [.int n, .ref v, x] ∧ (n = 2 ∨ n = 3) ∧ ValsH H v vals n ∧ ((NonBk n H x ∧ ∀ H', Same H H' → Q (.bl false) H') ∨
  ∃ t ks, x = .ref t ∧ BookH H t ks ∧ (∀ k ∈ ks, EnOk n k.2) ∧ ks.length ≤ 63 ∧ ∀ H', Same H H' → Q (.bl (bookB vals (ents ks))) H')
theorem ok_book {f f1 f2 : Addr} {fd fd1 fd2 : FuncData} (F0 : Fun K "is_book_so" "is_book_so" s_is_book_so f fd)
    (G1 : FnOk P w K mg base CX0 3 f1 fd1 ["many", "value"] spSet) (b1 : Binds K fd1 ["many", "value"] []) (k1 : PySem.W.keepIn K (.ref f1) = true) (m1 : mg "is_entry_set" = some (.ref f1))
    (G2 : FnOk P w K mg base CX0 7 f2 fd2 ["values", "entry", "entries", "kinds", "known"] (spStands P w)) (b2 : Binds K fd2 ["values", "entry", "entries", "kinds", "known"] []) (k2 : PySem.W.keepIn K (.ref f2) = true) (m2 : mg "stands_so" = some (.ref f2))
    (ml : mg "len" = none) : FnOk P w K mg base CX0 8 f fd ["many", "values", "value"] spBook := by
  refine F0.ok scBook (fun vs H Q E h => ?_) (fun cdv A outer s H vs Q E hr h => ?_)
  · obtain ⟨n, v, vals, x, rfl, _⟩ := h
    rfl
  obtain ⟨n, v, vals, x, rfl, hn, hv, h⟩ := h
  have hu20 := hu_room20 hr
  have nd := scBook.nd
  refine ⟨_, pss_cons (ps_if (pt_not (pt_val (pe_call G1 (hr.mono (by decide)) (by rfl) m1 k1 b1 .nil pass0 (pa_cons (pv 0) (pa_cons (pv 2) pa_nil))))) (pss_one (ps_ret pe_bl)) pss_nil)
    (pss_cons (ps_asg (pe_tup (pa_cons (pe_dcN (own := [("entry", 6)]) (g := gName 6) hu20 rfl nd (pi_tup (pv 2)) (blkOk_by (N := ["many", "values", "value", "entries", "kinds", "known", "entry"]) (sc := defScope s_is_book_so) (by decide +kernel))
          (fun _ _ _ _ _ => pg_name (i := 6) nd rfl (Or.inl rfl) (Or.inr rfl)) (fun _ _ _ _ _ => pv 6) (fun _ _ _ _ _ => pe_bl)) (pa_cons pe_dnewT (pa_cons pe_dnewN pa_nil))))
        (pg_tup rfl (pgs_cons (pg_name (i := 3) nd rfl (.inr rfl)) (pgs_cons (pg_name (i := 4) nd rfl (.inr rfl)) (pgs_cons (pg_name (i := 5) nd rfl (.inr rfl)) pgs_nil)))))
    (pss_one (ps_ret (pe_cmpR op_eq (pe_callB call_len_seq (by rfl) ml PySem.boot_len (pa_cons (pe_lc (own := [("entry", 6)]) (g := gName 6) rfl nd (pi_tup (pv 2)) (blkOk_by (N := ["many", "values", "value", "entries", "kinds", "known", "entry"]) (sc := defScope s_is_book_so) (by decide +kernel))
        (fun _ _ _ _ _ => pg_name (i := 6) nd rfl (Or.inl rfl) (Or.inr rfl))
        (fun _ _ _ _ _ => pts_one (pt_not (pt_val (pe_call G2 hr (by rfl) m2 k2 b2 .nil pass0 (pa_cons (pv 1) (pa_cons (pv 6) (pa_cons (pv 3) (pa_cons (pv 4) (pa_cons (pv 5) pa_nil))))))))) (fun _ _ _ _ _ => pe_int)) pa_nil)) pe_int (nomark _))))), ?_⟩
  rcases h with ⟨hB, q⟩ | ⟨t, ks, rfl, hB, hO, hL, q⟩
  · refine ⟨_, rfl, _, rfl, n, x, rfl, hn, .inl ⟨hB, fun H1 s1 => ?_⟩⟩
    exact ⟨false, rfl, ifT rfl (q H1 s1)⟩
  refine ⟨_, rfl, _, rfl, n, .ref t, rfl, hn, .inr ⟨t, ks, rfl, hB, hO, hL, fun H1 s1 => ?_⟩⟩
  refine ⟨_, rfl, ?_⟩
  cases hsr : srtB (ents ks) with
  | false =>
    refine ifT rfl ?_
    have := q H1 s1
    unfold bookB at this
    rw [hsr, Bool.false_and] at this
    exact this
  | true =>
  refine ifF rfl ?_
  -- entries
  have hB1 := hB.keep (same_tup s1)
  have hlm : (ks.map fun k => V.ref k.1).length = ks.length := List.length_map _
  refine ⟨_, rfl, t, rfl, ⟨_, sqt hB1.1⟩, fun D H2 hD nd2 o2 => ?_⟩
  have s12 : Same H1 H2 := fun b u eb => by
    rw [o2 b (fun z => by rw [z, hD] at eb; cases eb)]; exact eb
  have hDH : H D = none := by
    cases hz : H D with
    | none => rfl
    | some u => rw [s1 _ _ hz] at hD; cases hD
  refine dcN_tup (Pv := fun i H' => But [D] H2 H' ∧ ∃ es, ED P w (fun _ => .bl true) H' D es ∧ ∀ x, x ∈ es ↔ x ∈ (ents ks).take i) ⟨But.refl _ _, [], ⟨nd2, List.nodup_nil⟩, fun x => by simp⟩ (fun i H' _ p => sqt (p.1.tup _ _ (s12 _ _ hB1.1))) (fun i x H' hx p => ?_) (fun H3 p => ?_)
  · obtain ⟨p1, es, hE, hm⟩ := p
    have hB' := hB1.keep ((same_tup s12).trans p1.tup)
    obtain ⟨r, rfl, he, hi⟩ := book_at hB' hx
    have hle : es.length ≤ 63 := by
      have h1 := nodup_le hE.nd (m := ents ks) fun x hx => List.mem_of_mem_take ((hm x).mp hx)
      rw [List.length_map] at h1
      omega
    refine ⟨rfl, _, rfl, r, _, _, rfl, he, hE.at_, by rw [mkG_length]; omega, fun H5 n5 o5 k5 => ?_⟩
    refine ⟨p1.trans (hE.putBut o5 k5), addK (enAt (ents ks) i) es, hE.put n5, fun x => ?_⟩
    have hi' : i < (ents ks).length := by rw [List.length_map]; exact hi
    rw [addK_mem, hm x, List.take_add_one, List.getElem?_eq_getElem hi', enAt_get hi']
    simp
  obtain ⟨p1, es, hE3, hm⟩ := p
  rw [hlm, List.take_of_length_le (by rw [List.length_map]; exact Nat.le_refl _)] at hm
  have hesO : ∀ x ∈ es, EnOk n x := fun x hx => by
    obtain ⟨k, hk, rfl⟩ := List.mem_map.mp ((hm x).mp hx)
    exact hO k hk
  -- kinds, known
  refine fun kd hkd => ?_
  have s4 := same_upd (o := .dT []) hkd
  have hkd4 : (upd H3 kd (.dT [])) kd = some (.dT []) := upd_same
  generalize upd H3 kd (.dT []) = H4 at s4 hkd4 ⊢
  intro kn H5 hkn nd5 o5
  have s5 : Same H4 H5 := fun b u eb => by
    rw [o5 b (fun z => by rw [z, hkn] at eb; cases eb)]; exact eb
  refine ⟨(by show 3 ≤ sizeLine; decide), fun t6 ht6 => ?_⟩
  have s6 := same_upd (o := .tup [.ref D, .ref kd, .ref kn]) ht6
  have et6 : (upd H5 t6 (.tup [.ref D, .ref kd, .ref kn])) t6 = some (.tup [.ref D, .ref kd, .ref kn]) := upd_same
  generalize upd H5 t6 (.tup [.ref D, .ref kd, .ref kn]) = H6 at s6 et6 ⊢
  refine ⟨t6, _, rfl, sqt et6, rfl, _, _, rfl, _, _, rfl, _, _, rfl, rfl, ?_⟩
  have s36 : Same H3 H6 := s4.trans (s5.trans s6)
  have b16 : But [D] H H6 := (But.same s1).trans ((But.same s12).trans (p1.trans (But.same s36)))
  have hD6 : ED P w (fun _ => .bl true) H6 D es := hE3.but (But.same s36 (l := [])) (by simp)
  have hKd6 : CD (KD vals) n H6 kd [] := CD.empty (s6 _ _ (s5 _ _ hkd4))
  have hKn6 : ED P w (fun x => .bl (WB es x.1 x.2)) H6 kn [] := ED.but (l := []) ⟨nd5, List.nodup_nil⟩ (But.same s6) (by simp)
  have hDkn : D ≠ kn := by
    obtain ⟨_, xs, hx, _⟩ := hE3.at_
    exact ne_of_none (s4 _ _ hx) hkn
  have hB6 := hB.keep b16.tup
  have hv6 := hv.keep b16.tup
  have s16 : Same H H6 := b16.ofNone (fun a ha => by
    have : a = D := by simpa using ha
    rw [this]; exact hDH)
  have hkdH : H kd = none := by
    cases hz : H kd with
    | none => rfl
    | some u =>
      have := p1.rest kd u (fun z => by
        have z' : kd = D := by simpa using z
        rw [z', hDH] at hz
        cases hz) (s12 _ _ (s1 _ _ hz))
      rw [this] at hkd; cases hkd
  have hknH : H kn = none := by
    cases hz : H kn with
    | none => rfl
    | some u =>
      have := p1.rest kn u (fun z => by
        have z' : kn = D := by simpa using z
        exact hDkn z'.symm) (s12 _ _ (s1 _ _ hz))
      rw [s4 _ _ this] at hkn; cases hkn
  -- the comprehension
  refine ⟨_, rfl, t, rfl, ⟨_, sqt hB6.1⟩, fun L hL6 => ?_⟩
  have hLkd : L ≠ kd := (ne_of_none hKd6.at_ hL6).symm
  have hLkn : L ≠ kn := by
    obtain ⟨_, xs, hx, _⟩ := hKn6.at_
    exact (ne_of_none hx hL6).symm
  have hLD : L ≠ D := by
    obtain ⟨_, xs, hx, _⟩ := hD6.at_
    exact (ne_of_none hx hL6).symm
  refine lc_onesR (walk_tup (xs := ks.map fun k => V.ref k.1)) (fun H' => But [kd, kn, L] H6 H' ∧ ∃ ks' ws', CD (KD vals) n H' kd ks' ∧ ED P w (fun x => .bl (WB es x.1 x.2)) H' kn ws' ∧ ∀ x ∈ ws', x ∈ AL n) (fun i => !StB vals (ents ks) (enAt (ents ks) i)) (by omega)
    ⟨(But.new hL6), [], [], hKd6.but (But.new hL6 (l := [])) (by simp), hKn6.but (But.new hL6 (l := [])) (by simp), (fun x hx => absurd hx (by simp))⟩ (fun H' xs ys r e => ?_) (fun H' r => sqt (r.1.tup _ _ hB6.1)) (fun i x H' H'' hi' r hx0 y' Cont hC => ?_) (fun H' r e' => ?_)
  · obtain ⟨r1, ks', ws', r2, r3, r4⟩ := r
    have bL : But [L] H' (upd H' L (.lst ys)) := But.at (by simp) e (by intro xs z; cases z)
    exact ⟨r1.trans (bL.mono (by simp)), ks', ws', r2.but bL (by simp; exact hLkd.symm), r3.but bL (by simp; exact hLkn.symm), r4⟩
  · obtain ⟨r1, ks', ws', r2, r3, r4⟩ := r
    obtain ⟨e0, hx⟩ := y'
    subst e0
    have hBx := hB6.keep r1.tup
    obtain ⟨r, rfl, he, hi⟩ := book_at hBx hx
    refine ⟨rfl, _, rfl, _, rfl, _, rfl, _, rfl, _, rfl, v, r, D, kd, kn, vals, n, _, ks', es, ws', rfl, hn, hv6.keep r1.tup, he, enAt_ok hO hi, hesO, hD6.but r1 (by simp; exact ⟨(hD6.neD hKd6.at_).symm, hDkn, hLD.symm⟩), r2, r3, r4, hDkn, fun H9 ks9 ws9 b9 c9 d9 a9 => ?_⟩
    refine ⟨_, rfl, ?_⟩
    rw [StB_congr hm]
    obtain ⟨xs0, hx0⟩ := hx0
    exact hC H9 ⟨r1.trans (b9.mono (by simp)), ks9, ws9, c9, d9, a9⟩ (by rw [hx0]; exact b9.rest _ _ (by simp; exact ⟨hLkd, hLkn⟩) hx0)
  · refine ⟨L, _, rfl, .inl (SqL.of e'), rfl, ?_⟩
    obtain ⟨r1, _⟩ := r
    have hLH : H L = none := by
      cases hz : H L with
      | none => rfl
      | some u => rw [s16 _ _ hz] at hL6; cases hL6
    have := q H' (But.ofNone (l := [kd, kn, L]) ((But.same s16).trans r1) (fun a ha => by
      simp only [List.mem_cons, List.not_mem_nil, or_false] at ha
      rcases ha with z | z | z
      · rw [z]; exact hkdH
      · rw [z]; exact hknH
      · rw [z]; exact hLH))
    unfold bookB at this
    rw [hsr, Bool.true_and] at this
    rw [dec_len0, hlm]
    have e3 : noneN (ents ks).length (fun i => !StB vals (ents ks) (enAt (ents ks) i)) = decide ((List.range ks.length).countP (fun i => !StB vals (ents ks) (enAt (ents ks) i)) = 0) := by
      unfold noneN
      rw [List.length_map]
    rw [e3] at this
    exact this
/-! ### is_cube_book -/
theorem scJudge : FnScope ["many", "values", "asks", "value", "entry"] ["many", "values", "asks", "value"] (defScope s_is_cube_book) := ⟨rfl, rfl, rfl, by decide +kernel, rfl, by decide +kernel, by decide +kernel⟩
def spJudge : Sp := fun vs H Q _ => ∃ (n : Nat) (v : Addr) (vals : List Int) (m : Int) (x : V), vs = [.int n, .ref v, .int m, x] ∧ (n = 2 ∨ n = 3) ∧ ValsH H v vals n ∧ 0 ≤ m ∧ ((NonBk n H x ∧ ∀ H', Same H H' → Q (.bl false) H') ∨
  ∃ t ks, x = .ref t ∧ BookH H t ks ∧ (∀ k ∈ ks, EnOk n k.2) ∧ ks.length ≤ 63 ∧ ∀ H', Same H H' → Q (.bl (judgeB vals (ents ks) m)) H')
theorem ok_judge {f f1 f2 f3 : Addr} {fd fd1 fd2 fd3 : FuncData} (F0 : Fun K "is_cube_book" "is_cube_book" s_is_cube_book f fd)
    (G1 : FnOk P w K mg base CX0 2 f1 fd1 ["value"] spMany) (b1 : Binds K fd1 ["value"] []) (k1 : PySem.W.keepIn K (.ref f1) = true) (m1 : mg "check_many" = some (.ref f1))
    (G2 : FnOk P w K mg base CX0 2 f2 fd2 ["many", "value"] spVals) (b2 : Binds K fd2 ["many", "value"] []) (k2 : PySem.W.keepIn K (.ref f2) = true) (m2 : mg "check_values" = some (.ref f2))
    (G3 : FnOk P w K mg base CX0 8 f3 fd3 ["many", "values", "value"] spBook) (b3 : Binds K fd3 ["many", "values", "value"] []) (k3 : PySem.W.keepIn K (.ref f3) = true) (m3 : mg "is_book_so" = some (.ref f3))
    (mi : mg "isinstance" = none) (mI : mg "int" = none) (mB : mg "bool" = none) (mt : mg "tuple" = none) (ml : mg "len" = none) : FnOk P w K mg base CX0 9 f fd ["many", "values", "asks", "value"] spJudge := by
  refine F0.ok scJudge (fun vs H Q E h => ?_) (fun cdv A outer s H vs Q E hr h => ?_)
  · obtain ⟨n, v, vals, m, x, rfl, _⟩ := h
    rfl
  obtain ⟨n, v, vals, m, x, rfl, hn, hv, hm0, h⟩ := h
  have nd := scJudge.nd
  refine ⟨_, pss_cons (ps_expr (pe_call G2 (hr.mono (by decide)) (by rfl) m2 k2 b2 .nil pass0 (pa_cons (pe_call G1 (hr.mono (by decide)) (by rfl) m1 k1 b1 .nil pass0 (pa_cons (pv 0) pa_nil)) (pa_cons (pv 1) pa_nil))))
    (pss_cons (ps_if (PW.pt (pw_or (pt_not (pt_val (pe_callB cr_isB (by rfl) mi (by decide +kernel) (pa_cons (pv 2) (pa_cons (pe_bltn (v := .ty "int") (by rfl) mI (by decide +kernel) rfl) pa_nil)))))
        (pw_or (pt_val (pe_callB cr_isB (by rfl) mi (by decide +kernel) (pa_cons (pv 2) (pa_cons (pe_bltn (v := .ty "bool") (by rfl) mB (by decide +kernel) rfl) pa_nil))))
        (pw_or1 (pt_cmpR op_lt (pv 2) pe_int (nomark _)))))) (pss_one ps_never) pss_nil)
    (pss_cons (ps_if (pt_cmpR op_eq (pv 2) pe_int (nomark _)) (pss_one (ps_ret (pe_and (pe_callB cr_isB (by rfl) mi (by decide +kernel) (pa_cons (pv 3) (pa_cons (pe_bltn (v := .ty "tuple") (by rfl) mt (by decide +kernel) rfl) pa_nil)))
        (pe_one (pe_cmpR op_eq (pe_callB call_len_seq (by rfl) ml PySem.boot_len (pa_cons (pv 3) pa_nil)) pe_int (nomark _)))))) pss_nil)
    (pss_cons (ps_if (pt_not (pt_val (pe_call G3 hr (by rfl) m3 k3 b3 .nil pass0 (pa_cons (pv 0) (pa_cons (pv 1) (pa_cons (pv 3) pa_nil)))))) (pss_one (ps_ret pe_bl)) pss_nil)
    (pss_one (ps_ret (pe_cmpR op_gt (pe_callB call_len_seq (by rfl) ml PySem.boot_len (pa_cons (pe_lc (own := [("entry", 4)]) (g := gName 4) rfl nd (pi_tup (pv 3)) (blkOk_by (N := ["many", "values", "asks", "value", "entry"]) (sc := defScope s_is_cube_book) (by decide +kernel))
        (fun _ _ _ _ _ => pg_name (i := 4) nd rfl (Or.inl rfl) (Or.inr rfl))
        (fun _ _ _ _ _ => pts_one (pt_cmpR op_eq (pe_ix (ix_tupK (K := K) rfl) (pv 4) pe_int (fun _ _ => rfl)) (pe_op op_sub (pv 2) pe_int) (nomark _))) (fun _ _ _ _ _ => pe_int)) pa_nil)) pe_int (nomark _))))))), ?_⟩
  refine ⟨_, rfl, n, rfl, hn, ?_⟩
  refine ⟨_, rfl, n, v, vals, rfl, hn, hv, fun H1 s1 => ?_⟩
  refine ⟨_, rfl, _, "int", "int", rfl, .base (.int m), by decide, by decide, true, rfl, ?_⟩
  refine ifF rfl ?_
  refine ⟨_, rfl, _, "int", "bool", rfl, .base (.int m), by decide, by decide, false, rfl, ?_⟩
  refine ifF rfl ?_
  refine ⟨_, rfl, _, _, rfl, rfl, _, rfl, ?_⟩
  refine ifF (decide_eq_false (by omega)) ?_
  refine ⟨_, rfl, rfl, _, rfl, if2 (fun h0 => ?_) (fun h0 => ?_)⟩
  · have em : m = 0 := V.int.inj (of_decide_eq_true h0)
    rcases h with ⟨hB, q⟩ | ⟨t, ks, rfl, hB, hO, hL, q⟩
    · cases hB.same s1 with
      | @typ x t h ht =>
        refine ⟨_, rfl, x, t, "tuple", rfl, h.tyx, h.mem, by decide, _, rfl, ?_⟩
        rw [isa_tuple h.mem ht]
        exact ifF rfl (q H1 s1)
      | @one a y h hs =>
        refine ⟨_, rfl, _, "tuple", "tuple", rfl, .base (.tup h), by decide, by decide, true, rfl, ?_⟩
        refine ifT rfl ?_
        exact ⟨_, rfl, a, [y], rfl, .inr (sqt h), rfl, q H1 s1⟩
    · have hB1 := hB.keep (same_tup s1)
      refine ⟨_, rfl, _, "tuple", "tuple", rfl, .base (.tup hB1.1), by decide, by decide, true, rfl, ?_⟩
      refine ifT rfl ?_
      refine ⟨_, rfl, t, _, rfl, .inr (sqt hB1.1), rfl, ?_⟩
      have := q H1 s1
      have e : judgeB vals (ents ks) m = decide (V.int (((ks.map fun k => V.ref k.1).length : Nat) : Int) = V.int 0) := by
        unfold judgeB
        rw [if_pos em]
        cases ks with
        | nil => rfl
        | cons k ks =>
          show false = _
          symm
          refine decide_eq_false fun z => ?_
          have := V.int.inj z
          rw [List.length_map, List.length_cons] at this
          omega
      rw [e] at this
      exact this
  have em : ¬ m = 0 := fun z => of_decide_eq_false h0 (by rw [z])
  rcases h with ⟨hB, q⟩ | ⟨t, ks, rfl, hB, hO, hL, q⟩
  · refine ⟨_, rfl, _, rfl, _, rfl, n, v, vals, x, rfl, hn, hv.keep (same_tup s1), .inl ⟨hB.same s1, fun H2 s2 => ?_⟩⟩
    exact ⟨false, rfl, ifT rfl (q H2 (s1.trans s2))⟩
  · refine ⟨_, rfl, _, rfl, _, rfl, n, v, vals, .ref t, rfl, hn, hv.keep (same_tup s1), .inr ⟨t, ks, rfl, hB.keep (same_tup s1), hO, hL, fun H2 s2 => ?_⟩⟩
    have hlm : (ks.map fun k => V.ref k.1).length = ks.length := List.length_map _
    refine ⟨_, rfl, ?_⟩
    have eJ : judgeB vals (ents ks) m = (bookB vals (ents ks) && someN (ents ks).length (fun i => (enAt (ents ks) i).1 == m - 1)) := by
      unfold judgeB bookB
      rw [if_neg em, Bool.and_assoc]
    cases hb : bookB vals (ents ks) with
    | false =>
      refine ifT rfl ?_
      have := q H2 (s1.trans s2)
      rw [eJ, hb, Bool.false_and] at this
      exact this
    | true =>
      refine ifF rfl ?_
      have hB2 := hB.keep (same_tup (s1.trans s2))
      refine ⟨_, rfl, t, rfl, ⟨_, sqt hB2.1⟩, fun L hL2 => ?_⟩
      refine lc_ones (walk_tup (xs := ks.map fun k => V.ref k.1)) (fun i => (enAt (ents ks) i).1 == m - 1) hL2 (by omega) (fun H' s' => sqt (s' _ _ hB2.1)) (fun i x H' H'' hi' s' y' Cont hC => ?_) (fun H' s' e' => ?_)
      · obtain ⟨e0, hx⟩ := y'
        subst e0
        obtain ⟨r, rfl, ⟨c, he1, he2⟩, hi⟩ := book_at (hB2.keep (same_tup s')) hx
        refine ⟨rfl, _, rfl, r, _, 0, _, rfl, rfl, sqt he1, atI_nat (j := 0) rfl, _, rfl, _, _, rfl, rfl, rfl, _, rfl, ?_⟩
        have e : decide (V.int (enAt (ents ks) i).1 = V.int (m - 1)) = ((enAt (ents ks) i).1 == m - 1) := by
          rw [Bool.eq_iff_iff, decide_eq_true_eq]
          constructor
          · intro z
            rw [V.int.inj z]
            exact beq_self_eq_true _
          · intro z
            rw [eq_of_beq z]
        have := hC _ (fun _ _ h => h)
        rw [← e] at this
        exact this
      · refine ⟨L, _, rfl, .inl (SqL.of e'), _, _, rfl, rfl, ?_⟩
        have := q H' (s1.trans (s2.trans s'))
        rw [eJ, hb, Bool.true_and] at this
        have e3 : someN (ents ks).length (fun i => (enAt (ents ks) i).1 == m - 1) = decide (0 < (List.range ks.length).countP (fun i => (enAt (ents ks) i).1 == m - 1)) := by
          unfold someN
          rw [List.length_map]
        rw [e3, ← dec_gt0 (x := V.int 1), ← hlm] at this
        exact this
end
end Kb
/-! The law's small defs: mixed, begin, draw, of, power, bits_of; equality with nothing. -/
namespace Kb
open PySem PySem.Spec PyProof.Rows L2
/-! ### data that is compared -/
theorem dpInts {K : PySem.W.Frag} {H : Hp} : ∀ ns : List Int, DpAll K H (ns.map V.int) (ns.map .int)
  | [] => .nil
  | n :: ns => .cons (.int n) (dpInts ns)
theorem dpE {K : PySem.W.Frag} {H : Hp} {r : Addr} {e : En} (h : EntH H r e) : Dp K H (.ref r) (encE e) := by
  obtain ⟨c, h1, h2⟩ := h
  exact .tup (sqt h1) (.cons (.int _) (.cons (.tup (sqt h2) (dpInts _)) .nil))
theorem dpEs {K : PySem.W.Frag} {H : Hp} : ∀ ks : List AE, (∀ k ∈ ks, EntH H k.1 k.2) → DpAll K H (ks.map fun k => V.ref k.1) (ks.map fun k => encE k.2)
  | [], _ => .nil
  | k :: ks, h => .cons (dpE (h k List.mem_cons_self)) (dpEs ks fun x hx => h x (List.mem_cons_of_mem _ hx))
theorem lay_ints : ∀ ns : List Int, PyData.canLayAll0 (ns.map .int) = true
  | [] => rfl
  | n :: ns => by
    rw [List.map_cons]
    unfold PyData.canLayAll0
    rw [lay_ints ns] <;> rfl
theorem lay_es : ∀ ks : List AE, PyData.canLayAll0 (ks.map fun k => encE k.2) = true
  | [] => rfl
  | k :: ks => by
    rw [List.map_cons]
    unfold PyData.canLayAll0
    rw [lay_es ks]
    have : PyData.canLay0 (encE k.2) = true := by
      unfold encE
      simp only [PyData.canLay0, PyData.canLayAll0, lay_ints]
      rfl
    rw [this]
    rfl
theorem depth_es : ∀ ks : List AE, PyData.depthAll (ks.map fun k => encE k.2) ≤ 5
  | [] => by simp [PyData.depthAll]
  | k :: ks => by
    have h1 := depthE k.2
    have h2 := depth_es ks
    rw [List.map_cons]
    simp only [PyData.depthAll]
    omega
theorem shI (ns : List Int) : SeqAt.shaped (.list (ns.map .int)) = true := by
  unfold SeqAt.shaped
  simp only [PyData.canLay0, lay_ints, PyData.depth, PySem.W.depth_ints]
  decide
theorem shE (e : En) : SeqAt.shaped (encE e) = true := by
  unfold SeqAt.shaped
  have h := depthE e
  have : PyData.canLay0 (encE e) = true := by
    unfold encE
    simp only [PyData.canLay0, PyData.canLayAll0, lay_ints]
    rfl
  rw [this, Bool.true_and]
  exact decide_eq_true (by omega)
theorem shB (ks : List AE) : SeqAt.shaped (.tuple (ks.map fun k => encE k.2)) = true := by
  unfold SeqAt.shaped
  have h := depth_es ks
  simp only [PyData.canLay0, lay_es, PyData.depth, Bool.true_and]
  exact decide_eq_true (by omega)
theorem eqv_nil : ∀ ds : List PyData, PyData.eqvAll ds [] = ds.isEmpty
  | [] => by unfold PyData.eqvAll; rfl
  | _ :: _ => by unfold PyData.eqvAll; rfl
section
variable {X : Cx}
/-- xs == [], xs a list of ints -/
def rEqNil (K : PySem.W.Frag) (neg : Bool) : R2 := fun x y H Q => ∃ (a b : Addr) (ns : List Int), x = .ref a ∧ y = .ref b ∧ SqL K H a (ns.map V.int) ∧ SqL K H b [] ∧ Q (.bl (if neg = true then !ns.isEmpty else ns.isEmpty)) H
theorem op_eqNil (hu : X.A.units + 64 < cLine) : OpR X (compareOp .Eq) (rEqNil X.K false) := by
  intro pins s σ H x y v u Q I rx ry h
  obtain ⟨a, b, ns, rfl, rfl, ha, hb, q⟩ := h
  refine op_eqD hu pins s σ H _ _ v u Q I rx ry ⟨.list (ns.map .int), .list [], .lst ha (dpInts ns), .lst hb .nil, shI ns, shI [], ?_⟩
  have e : PyData.eqv (.list (ns.map .int)) (.list []) = ns.isEmpty := by
    show PyData.eqvAll (ns.map .int) [] = _
    rw [eqv_nil]
    cases ns <;> rfl
  rw [e]
  exact q
theorem op_neNil (hu : X.A.units + 64 < cLine) : OpR X (compareOp .NotEq) (rEqNil X.K true) := by
  intro pins s σ H x y v u Q I rx ry h
  obtain ⟨a, b, ns, rfl, rfl, ha, hb, q⟩ := h
  refine op_neD hu pins s σ H _ _ v u Q I rx ry ⟨.list (ns.map .int), .list [], .lst ha (dpInts ns), .lst hb .nil, shI ns, shI [], ?_⟩
  have e : PyData.eqv (.list (ns.map .int)) (.list []) = ns.isEmpty := by
    show PyData.eqvAll (ns.map .int) [] = _
    rw [eqv_nil]
    cases ns <;> rfl
  rw [e]
  exact q
/-- told == (), told != (): told a book -/
def rEqNilB (neg : Bool) : R2 := fun x y H Q => ∃ (a b : Addr) (ks : List AE), x = .ref a ∧ y = .ref b ∧ BookH H a ks ∧ H b = some (.tup []) ∧ Q (.bl (if neg = true then !ks.isEmpty else ks.isEmpty)) H
theorem op_eqNilB (hu : X.A.units + 64 < cLine) : OpR X (compareOp .Eq) (rEqNilB false) := by
  intro pins s σ H x y v u Q I rx ry h
  obtain ⟨a, b, ks, rfl, rfl, ha, hb, q⟩ := h
  refine op_eqD hu pins s σ H _ _ v u Q I rx ry ⟨.tuple (ks.map fun k => encE k.2), .tuple [], .tup (sqt ha.1) (dpEs ks ha.2), .tup (sqt hb) .nil, shB ks, shB [], ?_⟩
  have e : PyData.eqv (.tuple (ks.map fun k => encE k.2)) (.tuple []) = ks.isEmpty := by
    show PyData.eqvAll (ks.map fun k => encE k.2) [] = _
    rw [eqv_nil]
    cases ks <;> rfl
  rw [e]
  exact q
theorem op_neNilB (hu : X.A.units + 64 < cLine) : OpR X (compareOp .NotEq) (rEqNilB true) := by
  intro pins s σ H x y v u Q I rx ry h
  obtain ⟨a, b, ks, rfl, rfl, ha, hb, q⟩ := h
  refine op_neD hu pins s σ H _ _ v u Q I rx ry ⟨.tuple (ks.map fun k => encE k.2), .tuple [], .tup (sqt ha.1) (dpEs ks ha.2), .tup (sqt hb) .nil, shB ks, shB [], ?_⟩
  have e : PyData.eqv (.tuple (ks.map fun k => encE k.2)) (.tuple []) = ks.isEmpty := by
    show PyData.eqvAll (ks.map fun k => encE k.2) [] = _
    rw [eqv_nil]
    cases ks <;> rfl
  rw [e]
  exact q
/-- two entries == -/
def rEqE : R2 := fun x y H Q => ∃ (a b : Addr) (e e' : En), x = .ref a ∧ y = .ref b ∧ EntH H a e ∧ EntH H b e' ∧ ∀ k : Bool, Q (.bl k) H
theorem op_eqE (hu : X.A.units + 64 < cLine) : OpR X (compareOp .Eq) rEqE := by
  intro pins s σ H x y v u Q I rx ry h
  obtain ⟨a, b, e, e', rfl, rfl, ha, hb, q⟩ := h
  exact op_eqD hu pins s σ H _ _ v u Q I rx ry ⟨encE e, encE e', dpE ha, dpE hb, shE e, shE e', q _⟩
end
theorem hu_room64 {k : Nat} {A : Around} {env : Env} (hr : Room k (A.deeper env)) : (A.deeper env).units + 64 < cLine := hr.units
section
variable {P : Program} {w : World} {K : PySem.W.Frag} {mg : Str → Option Value} {base : Heap}
/-! ### _law_mixed -/
theorem scMixed : FnScope ["_law_cell", "_law_k"] ["_law_cell", "_law_k"] (defScope s_mixed) := ⟨rfl, rfl, rfl, by decide +kernel, rfl, by decide +kernel, by decide +kernel⟩
def spMixed : Sp := fun vs H Q _ => ∃ (c k : Int), vs = [.int c, .int k] ∧ 0 ≤ k ∧ k ≤ 2000 ∧ ∀ r : Int, 0 ≤ r → r < 2147483629 → Q (.int r) H
theorem ok_mixed {f : Addr} {fd : FuncData} (F0 : Fun K "_law_mixed" "_law_mixed" s_mixed f fd) (mI : mg "int" = none) : FnOk P w K mg base CX0 1 f fd ["_law_cell", "_law_k"] spMixed := by
  refine F0.ok scMixed (fun vs H Q E h => ?_) (fun cdv A outer s H vs Q E hr h => ?_)
  · obtain ⟨c, k, rfl, _⟩ := h
    rfl
  obtain ⟨c, k, rfl, hk0, hk1, q⟩ := h
  have nd := scMixed.nd
  refine ⟨_, pss_cons (ps_set (i := 0) nd rfl (.inl rfl) (pe_op op_mod (pe_callTy call_int1 (by rfl) mI (by decide +kernel) (pa_cons (pv 0) pa_nil)) pe_int))
    (pss_one (ps_ret (pe_op op_mod (pe_op op_mul (pe_op op_mod (pe_op op_add (pe_op op_add (pe_op op_mul (pv 0) (pe_op op_add pe_int (pe_op op_mul (pe_op op_mul pe_int (pv 1)) (pv 1)))) (pe_op op_mul pe_int (pv 1))) pe_int) pe_int) pe_int) pe_int))), ?_⟩
  refine ⟨_, rfl, .inl ⟨c, rfl, c, 2147483647, rfl, rfl, (by show (0 : Int) < _; decide), ?_⟩⟩
  have h0 : 0 ≤ c % 2147483647 := Int.emod_nonneg _ (by decide)
  have h1 : c % 2147483647 < 2147483647 := Int.emod_lt_of_pos _ (by decide)
  refine ⟨_, rfl, ?_⟩
  refine ⟨_, rfl, 2, k, rfl, rfl, .inl ⟨by omega, by omega⟩, ?_⟩
  refine ⟨_, rfl, _, _, rfl, rfl, .inl ⟨by omega, by omega⟩, ?_⟩
  refine ⟨_, _, rfl, rfl, ?_⟩
  refine ⟨_, _, rfl, rfl, .inl ⟨by omega, by omega⟩, ?_⟩
  refine ⟨_, rfl, _, _, rfl, rfl, .inl ⟨by omega, by omega⟩, ?_⟩
  refine ⟨_, _, rfl, rfl, ?_⟩
  refine ⟨_, _, rfl, rfl, ?_⟩
  refine ⟨_, _, rfl, rfl, (by show (0 : Int) < _; decide), ?_⟩
  generalize ((c % 2147483647) * (48271 + 2 * k * k) + 69621 * k + 11) = z
  have g0 : 0 ≤ z % 2147483647 := Int.emod_nonneg _ (by decide)
  have g1 : z % 2147483647 < 2147483647 := Int.emod_lt_of_pos _ (by decide)
  refine ⟨_, _, rfl, rfl, .inl ⟨by omega, by omega⟩, ?_⟩
  refine ⟨_, _, rfl, rfl, (by show (0 : Int) < _; decide), ?_⟩
  exact q _ (Int.emod_nonneg _ (by decide)) (Int.emod_lt_of_pos _ (by decide))
/-! ### the state -/
/-- the drawer's state: its dict at st, its cells at ca, what is left of them at la, how often it was asked -/
def StH (H : Hp) (st ca la : Addr) (a : Int) : Prop := ∃ cells lefts : List Int, H st = some (.dK [(Sum.inr "cells", .ref ca), (Sum.inr "lefts", .ref la), (Sum.inr "at", .int a)]) ∧ H ca = some (.lst (cells.map V.int)) ∧ H la = some (.lst (lefts.map V.int)) ∧
  0 < cells.length ∧ cells.length = lefts.length ∧ ca ≠ la ∧ 0 ≤ a
theorem StH.but {H H' : Hp} {st ca la : Addr} {a : Int} {l : List Addr} (h : StH H st ca la a) (b : But l H H') (h1 : st ∉ l) (h2 : ca ∉ l) (h3 : la ∉ l) : StH H' st ca la a := by
  obtain ⟨cells, lefts, e1, e2, e3, e4⟩ := h
  exact ⟨cells, lefts, b.rest _ _ h1 e1, b.rest _ _ h2 e2, b.rest _ _ h3 e3, e4⟩
theorem StH.same {H H' : Hp} {st ca la : Addr} {a : Int} (h : StH H st ca la a) (b : Same H H') : StH H' st ca la a := h.but (But.same b (l := [])) (by simp) (by simp) (by simp)
theorem scDraw : FnScope ["_law_state", "_law_limit", "_law_at", "_law_place", "_law_left", "_law_number"] ["_law_state", "_law_limit"] (defScope s_draw) := ⟨rfl, rfl, rfl, by decide +kernel, rfl, by decide +kernel, by decide +kernel⟩
def spDraw : Sp := fun vs H Q _ => ∃ (st ca la : Addr) (a lim : Int), vs = [.ref st, .int lim] ∧ StH H st ca la a ∧ a ≤ 1000 ∧ 0 < lim ∧ lim ≤ 1000 ∧
  ∀ r H', 0 ≤ r → r < lim → But [st, la] H H' → StH H' st ca la (a + 1) → Q (.int r) H'
theorem ok_draw {f f1 : Addr} {fd fd1 : FuncData} (F0 : Fun K "_law_draw" "_law_draw" s_draw f fd)
    (G1 : FnOk P w K mg base CX0 1 f1 fd1 ["_law_cell", "_law_k"] spMixed) (b1 : Binds K fd1 ["_law_cell", "_law_k"] []) (k1 : PySem.W.keepIn K (.ref f1) = true) (m1 : mg "_law_mixed" = some (.ref f1)) (mI : mg "int" = none) (ml : mg "len" = none) :
    FnOk P w K mg base CX0 2 f fd ["_law_state", "_law_limit"] spDraw := by
  refine F0.ok scDraw (fun vs H Q E h => ?_) (fun cdv A outer s H vs Q E hr h => ?_)
  · obtain ⟨st, ca, la, a, lim, rfl, _⟩ := h
    rfl
  obtain ⟨st, ca, la, a, lim, rfl, hS, ha, hl0, hl1, q⟩ := h
  have hu := hu_room hr
  have nd := scDraw.nd
  refine ⟨_, pss_cons (ps_set (i := 2) nd rfl (.inl rfl) (pe_dget hu (pv 0) pe_str (fun _ _ => rfl)))
    (pss_cons (ps_dput hu (pv 0) pe_str (pe_op op_add (pv 2) pe_int) rfl)
    (pss_cons (ps_set (i := 3) nd rfl (.inl rfl) (pe_op op_mod (pe_callTy call_int1 (by rfl) mI (by decide +kernel) (pa_cons (pv 2) pa_nil)) (pe_callB call_len_seq (by rfl) ml PySem.boot_len (pa_cons (pe_dget hu (pv 0) pe_str (fun _ _ => rfl)) pa_nil))))
    (pss_cons (ps_set (i := 4) nd rfl (.inl rfl) (pe_ix ix_list (pe_dget hu (pv 0) pe_str (fun _ _ => rfl)) (pv 3) (fun _ _ => rfl)))
    (pss_cons (ps_if (pt_cmpR op_gt (pv 4) pe_int (nomark _))
      (pss_cons (ps_asg (pe_op op_fdivN (pv 4) (pv 1)) (pg_sub (pe_dget hu (pv 0) pe_str (fun _ _ => rfl)) (pv 3) set_list))
      (pss_one (ps_ret (pe_op op_mod (pe_callTy call_int1 (by rfl) mI (by decide +kernel) (pa_cons (pv 4) pa_nil)) (pv 1))))) pss_nil)
    (pss_cons (ps_set (i := 5) nd rfl (.inl rfl) (pe_call G1 hr (by rfl) m1 k1 b1 .nil pass0 (pa_cons (pe_call G1 hr (by rfl) m1 k1 b1 .nil pass0 (pa_cons (pe_ix ix_list (pe_dget hu (pv 0) pe_str (fun _ _ => rfl)) (pv 3) (fun _ _ => rfl)) (pa_cons (pv 2) pa_nil))) (pa_cons (pe_op op_add pe_int (pv 2)) pa_nil))))
    (pss_one (ps_ret (pe_op op_mod (pe_op op_fdivN (pe_callTy call_int1 (by rfl) mI (by decide +kernel) (pa_cons (pe_op op_add (pe_op op_mul (pv 5) pe_int) (pe_call G1 hr (by rfl) m1 k1 b1 .nil pass0 (pa_cons (pv 5) (pa_cons (pe_op op_add pe_int (pv 2)) pa_nil)))) pa_nil)) pe_int) (pv 1))))))))), ?_⟩
  obtain ⟨cells, lefts, e1, e2, e3, hlen, hll, hcl, ha0⟩ := hS
  -- at
  refine ⟨_, rfl, st, _, rfl, DGet.k (k := Sum.inr "at") e1, ?_⟩
  -- state['at'] = at + 1
  refine ⟨_, rfl, _, _, rfl, rfl, _, rfl, st, _, rfl, DPut.k (k := Sum.inr "at") e1 (small1000 (by show 3 ≤ 1000; decide)), ?_⟩
  have bA : But [st, la] H (upd H st (.dK (putK [(Sum.inr "cells", V.ref ca), (Sum.inr "lefts", .ref la), (Sum.inr "at", .int a)] (Sum.inr "at") (.int (a + 1))))) := But.at (by simp) e1 (by intro xs z; cases z)
  have e1' : (upd H st (.dK (putK [(Sum.inr "cells", V.ref ca), (Sum.inr "lefts", .ref la), (Sum.inr "at", .int a)] (Sum.inr "at") (.int (a + 1))))) st = some (.dK [(Sum.inr "cells", .ref ca), (Sum.inr "lefts", .ref la), (Sum.inr "at", .int (a + 1))]) := upd_same
  have nsc : ca ≠ st := ne_of e2 e1 (by intro z; cases z)
  have nsl : la ≠ st := ne_of e3 e1 (by intro z; cases z)
  have e2' : (upd H st (.dK (putK [(Sum.inr "cells", V.ref ca), (Sum.inr "lefts", .ref la), (Sum.inr "at", .int a)] (Sum.inr "at") (.int (a + 1))))) ca = some (.lst (cells.map V.int)) := by rw [upd_ne nsc]; exact e2
  have e3' : (upd H st (.dK (putK [(Sum.inr "cells", V.ref ca), (Sum.inr "lefts", .ref la), (Sum.inr "at", .int a)] (Sum.inr "at") (.int (a + 1))))) la = some (.lst (lefts.map V.int)) := by rw [upd_ne nsl]; exact e3
  generalize upd H st (.dK (putK [(Sum.inr "cells", V.ref ca), (Sum.inr "lefts", .ref la), (Sum.inr "at", .int a)] (Sum.inr "at") (.int (a + 1)))) = H1 at bA e1' e2' e3' ⊢
  -- place
  have hcm : (cells.map V.int).length = cells.length := List.length_map _
  have hlm : (lefts.map V.int).length = lefts.length := List.length_map _
  have hp : (0 : Int) < (((cells.map V.int).length : Nat) : Int) := by rw [hcm]; omega
  refine ⟨_, rfl, .inl ⟨_, rfl, ?_⟩⟩
  refine ⟨_, rfl, st, _, rfl, DGet.k (k := Sum.inr "cells") e1', ca, _, rfl, .inl (SqL.of e2'), _, _, rfl, rfl, hp, ?_⟩
  obtain ⟨pl, hpl, hpl2⟩ : ∃ pl : Nat, a % (((cells.map V.int).length : Nat) : Int) = (pl : Int) ∧ pl < cells.length := by
    have g0 := Int.emod_nonneg a (Int.ne_of_gt hp)
    have g1 := Int.emod_lt_of_pos a hp
    refine ⟨(a % (((cells.map V.int).length : Nat) : Int)).toNat, by omega, ?_⟩
    rw [hcm] at g0 g1 ⊢
    omega
  have hpl3 : pl < lefts.length := by omega
  have atL : atI (lefts.map V.int) (a % (((cells.map V.int).length : Nat) : Int)) = some (.int lefts[pl]) := by rw [hpl]; exact atI_nat (int_at hpl3)
  have atC : atI (cells.map V.int) (a % (((cells.map V.int).length : Nat) : Int)) = some (.int cells[pl]) := by rw [hpl]; exact atI_nat (int_at hpl2)
  -- left
  refine ⟨_, rfl, st, _, rfl, DGet.k (k := Sum.inr "lefts") e1', _, rfl, la, _, _, _, rfl, rfl, SqL.of e3', atL, ?_⟩
  refine ⟨_, rfl, _, _, rfl, rfl, _, rfl, if2 (fun hg => ?_) (fun hg => ?_)⟩
  · refine ⟨_, rfl, _, rfl, _, _, rfl, rfl, ⟨by omega, by omega⟩, ?_⟩
    refine ⟨_, rfl, st, _, rfl, DGet.k (k := Sum.inr "lefts") e1', _, rfl, la, _, _, pl, rfl, rfl, e3', ?_, ?_⟩
    · rw [hpl]
      unfold ixN
      rw [if_pos (by omega), if_pos (by rw [hlm]; omega)]
      rfl
    · have bB : But [st, la] H1 (upd H1 la (.lst ((lefts.map V.int).set pl (.int (lefts[pl].fdiv lim))))) := But.at (by simp) e3' (by intro xs z; cases z)
      refine ⟨_, rfl, .inl ⟨_, rfl, _, rfl, _, _, rfl, rfl, hl0, q _ _ (Int.emod_nonneg _ (by omega)) (Int.emod_lt_of_pos _ hl0) (bA.trans bB) ?_⟩⟩
      refine ⟨cells, lefts.set pl (lefts[pl].fdiv lim), ?_, ?_, ?_, hlen, by rw [List.length_set]; exact hll, hcl, by omega⟩
      · rw [upd_ne nsl.symm]; exact e1'
      · rw [upd_ne hcl]; exact e2'
      · rw [upd_same, List.map_set]
  · refine ⟨_, rfl, st, _, rfl, DGet.k (k := Sum.inr "cells") e1', _, rfl, ca, _, _, _, rfl, rfl, SqL.of e2', atC, ?_⟩
    refine ⟨_, rfl, _, a, rfl, ha0, by omega, fun r1 h10 h11 => ?_⟩
    refine ⟨_, rfl, _, _, rfl, rfl, r1, _, rfl, by omega, by omega, fun r2 h20 h21 => ?_⟩
    refine ⟨_, rfl, _, _, rfl, rfl, .inl ⟨by omega, by omega⟩, ?_⟩
    refine ⟨_, rfl, _, rfl, _, _, rfl, rfl, r2, _, rfl, by omega, by omega, fun r3 h30 h31 => ?_⟩
    refine ⟨_, _, rfl, rfl, .inl ⟨_, rfl, ?_⟩⟩
    refine ⟨_, _, rfl, rfl, ⟨by decide, by decide⟩, ?_⟩
    refine ⟨_, rfl, _, _, rfl, rfl, hl0, q _ _ (Int.emod_nonneg _ (by omega)) (Int.emod_lt_of_pos _ hl0) bA ?_⟩
    exact ⟨cells, lefts, e1', e2', e3', hlen, hll, hcl, by omega⟩
/-! ### _law_of -/
theorem scOf : FnScope ["_law_state", "_law_some"] ["_law_state", "_law_some"] (defScope s_of) := ⟨rfl, rfl, rfl, by decide +kernel, rfl, by decide +kernel, by decide +kernel⟩
def spOf : Sp := fun vs H Q _ => ∃ (st ca la l : Addr) (a : Int) (xs : List V), vs = [.ref st, .ref l] ∧ StH H st ca la a ∧ a ≤ 1000 ∧ H l = some (.lst xs) ∧ l ≠ la ∧ 0 < xs.length ∧ xs.length ≤ 1000 ∧
  ∀ x H', x ∈ xs → But [st, la] H H' → StH H' st ca la (a + 1) → Q x H'
theorem ok_of {f f1 : Addr} {fd fd1 : FuncData} (F0 : Fun K "_law_of" "_law_of" s_of f fd)
    (G1 : FnOk P w K mg base CX0 2 f1 fd1 ["_law_state", "_law_limit"] spDraw) (b1 : Binds K fd1 ["_law_state", "_law_limit"] []) (k1 : PySem.W.keepIn K (.ref f1) = true) (m1 : mg "_law_draw" = some (.ref f1)) (ml : mg "len" = none) :
    FnOk P w K mg base CX0 3 f fd ["_law_state", "_law_some"] spOf := by
  refine F0.ok scOf (fun vs H Q E h => ?_) (fun cdv A outer s H vs Q E hr h => ?_)
  · obtain ⟨st, ca, la, l, a, xs, rfl, _⟩ := h
    rfl
  obtain ⟨st, ca, la, l, a, xs, rfl, hS, ha, hl, hne, h0, h1, q⟩ := h
  refine ⟨_, pss_one (ps_ret (pe_ix ix_list (pv 1) (pe_call G1 hr (by rfl) m1 k1 b1 .nil pass0 (pa_cons (pv 0) (pa_cons (pe_callB call_len_seq (by rfl) ml PySem.boot_len (pa_cons (pv 1) pa_nil)) pa_nil))) (fun _ _ => rfl))), ?_⟩
  have hst : l ≠ st := by
    obtain ⟨_, _, e1, _⟩ := id hS
    exact ne_of hl e1 (by intro z; cases z)
  refine ⟨_, rfl, _, rfl, _, rfl, l, xs, rfl, .inl (SqL.of hl), st, ca, la, a, (xs.length : Int), rfl, hS, ha, by omega, by omega, fun r H1 hr0 hr1 b hS1 => ?_⟩
  have hl1 : H1 l = some (.lst xs) := b.rest _ _ (by simp; exact ⟨hst, hne⟩) hl
  obtain ⟨j, rfl⟩ : ∃ j : Nat, r = (j : Int) := ⟨r.toNat, by omega⟩
  have hj : j < xs.length := by omega
  exact ⟨l, xs, (j : Int), xs[j], rfl, rfl, SqL.of hl1, atI_nat (List.getElem?_eq_getElem hj), q _ H1 (List.getElem_mem hj) b hS1⟩
/-! ### _law_power -/
theorem scPow : FnScope ["_law_count", "_law_found", "_law_step"] ["_law_count"] (defScope s_power) := ⟨rfl, rfl, rfl, by decide +kernel, rfl, by decide +kernel, by decide +kernel⟩
def spPow : Sp := fun vs H Q _ => ∃ n : Nat, vs = [.int n] ∧ n ≤ 10 ∧ Q (.int ((2 ^ n : Nat) : Int)) H
theorem ok_pow {f : Addr} {fd : FuncData} (F0 : Fun K "_law_power" "_law_power" s_power f fd) (mr : mg "range" = none) : FnOk P w K mg base CX0 1 f fd ["_law_count"] spPow := by
  refine F0.ok scPow (fun vs H Q E h => ?_) (fun cdv A outer s H vs Q E hr h => ?_)
  · obtain ⟨n, rfl, _⟩ := h
    rfl
  obtain ⟨n, rfl, hn, q⟩ := h
  have nd := scPow.nd
  refine ⟨_, pss_cons (ps_set (i := 1) nd rfl (.inl rfl) pe_int) (pss_cons (ps_for PassesOwn.never rfl (pi_range1 (by rfl) mr (pa_cons (pv 0) pa_nil)) (pg_name (i := 2) nd rfl (.inl rfl))
    (pss_one (ps_set (i := 1) nd rfl (.inl rfl) (pe_op op_add (pv 1) (pv 1))))) (pss_one (ps_ret (pv 1)))), ?_⟩
  refine ⟨_, rfl, (n : Int), rfl, by omega, by omega, ?_⟩
  rw [Int.toNat_natCast]
  refine for_range (lo := 0) (n := n) (fun i σ' H' => ∃ y, σ' = [some (.int n), some (.int ((2 ^ i : Nat) : Int)), y] ∧ H' = H) ⟨_, rfl, rfl⟩ (fun i σ' H' _ p => ?_) (fun σ' H' p => ?_)
  · obtain ⟨y, rfl, rfl⟩ := p
    refine ⟨_, rfl, _, rfl, _, _, rfl, rfl, some (.int (0 + (i : Nat))), ?_, rfl⟩
    rw [Nat.pow_succ, show ((2 ^ i * 2 : Nat) : Int) = ((2 ^ i : Nat) : Int) + ((2 ^ i : Nat) : Int) by omega]
    rfl
  · obtain ⟨y, rfl, rfl⟩ := p
    exact ⟨_, rfl, q⟩
end
end Kb
/-! The law's small defs: begin, bits_of, worths, like, fits, lines_in, is_both. -/
namespace Kb
open PySem PySem.Spec PyProof.Rows L2
theorem But.less {l l' : List Addr} {H H' : Hp} (b : But l H H') (h : ∀ a ∈ l, a ∈ l' ∨ H a = none) : But l' H H' := ⟨b.tup, fun c o hc e => b.rest c o (fun z => by
  rcases h c z with y | y
  · exact hc y
  · rw [y] at e; cases e) e⟩
def bitAt (x i : Nat) : Int := ((x / 2 ^ i % 2 : Nat) : Int)
theorem fits_iff : ∀ (cs : List Int) (x : Nat), fitsB cs x = true ↔ ∀ i (h : i < cs.length), cs[i] = 2 ∨ cs[i] = bitAt x i
  | [], x => by simp [fitsB]
  | c :: r, x => by
    have ih := fits_iff r (x / 2)
    show ((c == 2 || c == ((x % 2 : Nat) : Int)) && fitsB r (x / 2)) = true ↔ _
    rw [Bool.and_eq_true, ih, Bool.or_eq_true, beq_iff_eq, beq_iff_eq]
    constructor
    · rintro ⟨h1, h2⟩ i hi
      cases i with
      | zero =>
        have e : bitAt x 0 = ((x % 2 : Nat) : Int) := by unfold bitAt; rw [Nat.pow_zero, Nat.div_one]
        rw [e]
        exact h1
      | succ i =>
        have := h2 i (by simpa using hi)
        have e : bitAt x (i + 1) = bitAt (x / 2) i := by unfold bitAt; rw [Nat.div_div_eq_div_mul, Nat.pow_succ, Nat.mul_comm]
        rw [e]
        simpa using this
    · intro h
      refine ⟨?_, fun i hi => ?_⟩
      · have := h 0 (by simp)
        have e : bitAt x 0 = ((x % 2 : Nat) : Int) := by unfold bitAt; rw [Nat.pow_zero, Nat.div_one]
        rw [e] at this
        simpa using this
      · have := h (i + 1) (by simpa using hi)
        have e : bitAt x (i + 1) = bitAt (x / 2) i := by unfold bitAt; rw [Nat.div_div_eq_div_mul, Nat.pow_succ, Nat.mul_comm]
        rw [e] at this
        simpa using this
def misB (cs : List Int) (x i : Nat) : Bool := !decide (cs.getD i 0 = 2) && !decide (cs.getD i 0 = bitAt x i)
theorem fits_none (cs : List Int) (x : Nat) : decide ((List.range cs.length).countP (misB cs x) = 0) = fitsB cs x := by
  rw [Bool.eq_iff_iff, decide_eq_true_eq, List.countP_eq_zero, fits_iff]
  constructor
  · intro h i hi
    have := h i (List.mem_range.mpr hi)
    unfold misB at this
    rw [List.getD_eq_getElem?_getD, List.getElem?_eq_getElem hi] at this
    by_cases e : cs[i] = 2
    · exact .inl e
    · refine .inr ?_
      simpa [e] using this
  · intro h i hi
    have hi := List.mem_range.mp hi
    unfold misB
    rw [List.getD_eq_getElem?_getD, List.getElem?_eq_getElem hi]
    rcases h i hi with e | e
    · simp [e]
    · simp [e]
theorem isE_rep {m : Nat} : (List.replicate m (1 : Int)).isEmpty = decide (m = 0) := by
  cases m with
  | zero => rfl
  | succ m => rw [List.replicate_succ]; rfl
theorem rep_int (m : Nat) : List.replicate m (V.int 1) = (List.replicate m (1 : Int)).map V.int := by rw [List.map_replicate]
section
variable {P : Program} {w : World} {K : PySem.W.Frag} {mg : Str → Option Value} {base : Heap}
/-! ### _law_begin -/
theorem scBegin : FnScope ["_law_script", "_law_cells_so", "_law_cell"] ["_law_script"] (defScope s_begin) := ⟨rfl, rfl, rfl, by decide +kernel, rfl, by decide +kernel, by decide +kernel⟩
def spBegin (K : PySem.W.Frag) : Sp := fun vs H Q _ => ∃ (a : Addr) (ns : List Int), vs = [.ref a] ∧ SqL K H a (ns.map V.int) ∧ ns.length ≤ 63 ∧ ∀ st ca la H', StH H' st ca la 0 → Q (.ref st) H'
theorem ok_begin {f : Addr} {fd : FuncData} (F0 : Fun K "_law_begin" "_law_begin" s_begin f fd) (mL : mg "list" = none) : FnOk P w K mg base CX0 1 f fd ["_law_script"] (spBegin K) := by
  refine F0.ok scBegin (fun vs H Q E h => ?_) (fun cdv A outer s H vs Q E hr h => ?_)
  · obtain ⟨a, ns, rfl, _⟩ := h
    rfl
  obtain ⟨a, ns, rfl, hS, hl, q⟩ := h
  have hu := hu_room hr
  have hu64 := hu_room64 hr
  have nd := scBegin.nd
  refine ⟨_, pss_cons (ps_set (i := 1) nd rfl (.inl rfl) (pe_ifExp (pt_cmpR (op_neNil hu64) (pv 0) (pe_lst pa_nil) (nomark _)) (pe_callTy call_list_of (by rfl) mL (by decide +kernel) (pa_cons (pv 0) pa_nil)) (pe_lst (pa_cons pe_int pa_nil))))
    (pss_one (ps_ret (pe_disp (pps_cons pe_str (pv 1) (pps_cons pe_str (pe_lc (own := [("_law_cell", 2)]) (g := gName 2) (tt := tYes) rfl nd (pi_list (pv 1)) (blkOk_by (N := ["_law_script", "_law_cells_so", "_law_cell"]) (sc := defScope s_begin) (by decide +kernel))
      (fun _ _ _ _ _ => pg_name (i := 2) nd rfl (Or.inl rfl) (Or.inr rfl)) (fun _ _ _ _ _ => pts_nil)
      (fun _ _ _ _ _ => pe_ifExp (pt_cmpR op_ge (pv 2) (pe_op op_pow pe_int pe_int) (nomark _)) (pv 2) pe_int)) (pps_cons pe_str pe_int pps_nil))) (by rfl) (by rfl) (fun z => by cases z) (by decide)))), ?_⟩
  -- what stands once the cells are there
  have fin : ∀ (H1 : Hp) (cl : Addr) (cells : List Int), H1 cl = some (.lst (cells.map V.int)) → 0 < cells.length → cells.length ≤ 64 → ∀ p, H1 p = none → ∀ D, (upd H1 p (.dK [])) D = none → ∀ H' (lefts : List Int), lefts.length = cells.length → Same (upd H1 p (.dK [])) H' → H' D = some (.lst (lefts.map V.int)) →
      Q (.ref p) (upd H' p (.dK (mergeK [] [(Sum.inr "cells", V.ref cl), (Sum.inr "lefts", .ref D), (Sum.inr "at", .int 0)]))) := by
    intro H1 cl cells hcl h0 h1 p hp D hD H' lefts hll sm hl
    have hcl' : (upd H1 p (.dK [])) cl = some (.lst (cells.map V.int)) := same_upd hp _ _ hcl
    have n1 : cl ≠ p := ne_of_none hcl hp
    have n2 : D ≠ p := ne_of_none upd_same hD |>.symm
    have n3 : cl ≠ D := ne_of_none hcl' hD
    refine q p cl D _ ⟨cells, lefts, upd_same, ?_, ?_, h0, hll.symm, n3, Int.le_refl 0⟩
    · rw [upd_ne n1]; exact sm _ _ hcl'
    · rw [upd_ne n2]; exact hl
  have hempty : ∀ t : Addr, H t = none → SqL K (upd H t (.lst [])) a (ns.map V.int) := fun t ht => (same_upd ht).seq hS
  refine ⟨_, rfl, (by show 0 ≤ sizeLine; decide), fun t ht => ⟨a, t, ns, rfl, rfl, hempty t ht, SqL.of upd_same, _, rfl, if2 (fun hb => ?_) (fun hb => ?_)⟩⟩
  · have h0 : 0 < ns.length := by
      cases ns with
      | nil => simp at hb
      | cons x r => simp
    refine ⟨_, rfl, a, _, rfl, .inl (hempty t ht), fun cl hclN => ?_⟩
    have hcl : (upd (upd H t (.lst [])) cl (.lst (ns.map V.int))) cl = some (.lst (ns.map V.int)) := upd_same
    generalize upd (upd H t (.lst [])) cl (.lst (ns.map V.int)) = H1 at hcl ⊢
    refine fun p hp => ⟨_, rfl, ⟨_, rfl, cl, rfl, ⟨_, SqL.of (same_upd hp _ _ hcl)⟩, fun D hD => ?_⟩⟩
    refine lc_list (K := K) (a := cl) (xs := ns.map V.int) (fun i H' => ∃ lefts : List Int, lefts.length = i ∧ Same (upd H1 p (.dK [])) H' ∧ H' D = some (.lst (lefts.map V.int))) ⟨[], rfl, same_upd hD, upd_same⟩ (fun i H' _ r => by
      obtain ⟨_, _, r1, _⟩ := r
      exact SqL.of (r1 _ _ (same_upd hp _ _ hcl))) (fun i x H' hx r => ?_) (fun H' r => ?_)
    · obtain ⟨lefts, r1, r2, r3⟩ := r
      rw [List.getElem?_map] at hx
      obtain ⟨z, hz, rfl⟩ := Option.map_eq_some_iff.mp hx
      have hi := (List.getElem?_eq_some_iff.mp hz).1
      refine ⟨rfl, ?_⟩
      refine ⟨_, rfl, _, _, rfl, rfl, ⟨by decide, by decide, by decide⟩, _, _, rfl, rfl, _, rfl, if2 (fun hg => ?_) (fun hg => ?_)⟩
      · refine ⟨_, rfl, _, r3, by rw [List.length_map]; exact small1000 (by omega), lefts ++ [z], by rw [List.length_append, r1]; rfl, fun b u eb => ?_, by rw [upd_same, List.map_append]; rfl⟩
        rw [upd_ne (fun e => by rw [e, hD] at eb; cases eb)]
        exact r2 _ _ eb
      · refine ⟨_, r3, by rw [List.length_map]; exact small1000 (by omega), lefts ++ [0], by rw [List.length_append, r1]; rfl, fun b u eb => ?_, by rw [upd_same, List.map_append]; rfl⟩
        rw [upd_ne (fun e => by rw [e, hD] at eb; cases eb)]
        exact r2 _ _ eb
    · obtain ⟨lefts, r1, r2, r3⟩ := r
      rw [List.length_map] at r1
      exact ⟨r2 _ _ upd_same, [(Sum.inr "cells", V.ref cl), (Sum.inr "lefts", .ref D), (Sum.inr "at", .int 0)], rfl, (by show 3 ≤ 15; decide), fin H1 cl ns hcl h0 (by omega) p hp D hD H' lefts r1 r2 r3⟩
  · refine ⟨(by show 1 ≤ sizeLine; decide), fun cl hclN => ?_⟩
    have hcl : (upd (upd H t (.lst [])) cl (.lst [.int 0])) cl = some (.lst (([0] : List Int).map V.int)) := upd_same
    generalize upd (upd H t (.lst [])) cl (.lst [.int 0]) = H1 at hcl ⊢
    refine fun p hp => ⟨_, rfl, ⟨_, rfl, cl, rfl, ⟨_, SqL.of (same_upd hp _ _ hcl)⟩, fun D hD => ?_⟩⟩
    refine lc_list (K := K) (a := cl) (xs := ([0] : List Int).map V.int) (fun i H' => ∃ lefts : List Int, lefts.length = i ∧ Same (upd H1 p (.dK [])) H' ∧ H' D = some (.lst (lefts.map V.int))) ⟨[], rfl, same_upd hD, upd_same⟩ (fun i H' _ r => by
      obtain ⟨_, _, r1, _⟩ := r
      exact SqL.of (r1 _ _ (same_upd hp _ _ hcl))) (fun i x H' hx r => ?_) (fun H' r => ?_)
    · obtain ⟨lefts, r1, r2, r3⟩ := r
      rw [List.getElem?_map] at hx
      obtain ⟨z, hz, rfl⟩ := Option.map_eq_some_iff.mp hx
      have hi := (List.getElem?_eq_some_iff.mp hz).1
      have hi' : i < 1 := hi
      refine ⟨rfl, ?_⟩
      refine ⟨_, rfl, _, _, rfl, rfl, ⟨by decide, by decide, by decide⟩, _, _, rfl, rfl, _, rfl, if2 (fun hg => ?_) (fun hg => ?_)⟩
      · refine ⟨_, rfl, _, r3, by rw [List.length_map]; exact small1000 (by omega), lefts ++ [z], by rw [List.length_append, r1]; rfl, fun b u eb => ?_, by rw [upd_same, List.map_append]; rfl⟩
        rw [upd_ne (fun e => by rw [e, hD] at eb; cases eb)]
        exact r2 _ _ eb
      · refine ⟨_, r3, by rw [List.length_map]; exact small1000 (by omega), lefts ++ [0], by rw [List.length_append, r1]; rfl, fun b u eb => ?_, by rw [upd_same, List.map_append]; rfl⟩
        rw [upd_ne (fun e => by rw [e, hD] at eb; cases eb)]
        exact r2 _ _ eb
    · obtain ⟨lefts, r1, r2, r3⟩ := r
      exact ⟨r2 _ _ upd_same, [(Sum.inr "cells", V.ref cl), (Sum.inr "lefts", .ref D), (Sum.inr "at", .int 0)], rfl, (by show 3 ≤ 15; decide), fin H1 cl [0] hcl (by decide) (by decide) p hp D hD H' lefts r1 r2 r3⟩
end
end Kb
/-! The law's small defs: bits_of, worths, like, fits, lines_in, is_both. -/
namespace Kb
open PySem PySem.Spec PyProof.Rows L2
def bitsL (x n : Nat) : List Int := (List.range n).map (bitAt x)
section
variable {P : Program} {w : World} {K : PySem.W.Frag} {mg : Str → Option Value} {base : Heap}
/-! ### _law_bits_of -/
theorem scBits : FnScope ["_law_line", "_law_count", "_law_found", "_law_step"] ["_law_line", "_law_count"] (defScope s_bits_of) := ⟨rfl, rfl, rfl, by decide +kernel, rfl, by decide +kernel, by decide +kernel⟩
def spBits : Sp := fun vs H Q _ => ∃ (x n : Nat), vs = [.int x, .int n] ∧ n ≤ 10 ∧ ∀ l H', H l = none → Same H H' → H' l = some (.lst ((bitsL x n).map V.int)) → Q (.ref l) H'
theorem ok_bits {f : Addr} {fd : FuncData} (F0 : Fun K "_law_bits_of" "_law_bits_of" s_bits_of f fd) (mr : mg "range" = none) : FnOk P w K mg base CX0 1 f fd ["_law_line", "_law_count"] spBits := by
  refine F0.ok scBits (fun vs H Q E h => ?_) (fun cdv A outer s H vs Q E hr h => ?_)
  · obtain ⟨x, n, rfl, _⟩ := h
    rfl
  obtain ⟨x, n, rfl, hn, q⟩ := h
  have nd := scBits.nd
  refine ⟨_, pss_cons (ps_set (i := 2) nd rfl (.inl rfl) (pe_lst pa_nil)) (pss_cons (ps_for PassesOwn.never rfl (pi_range1 (by rfl) mr (pa_cons (pv 1) pa_nil)) (pg_name (i := 3) nd rfl (.inl rfl))
    (pss_cons (ps_expr (pe_bm PySem.F.plainAttrs_list PySem.F.slot_list_append PySem.F.type_list_append mt_append (pv 2) (pa_cons (pe_op op_mod (pv 0) pe_int) pa_nil)))
    (pss_one (ps_set (i := 0) nd rfl (.inl rfl) (pe_op op_fdiv (pv 0) pe_int))))) (pss_one (ps_ret (pv 2)))), ?_⟩
  refine ⟨(by show 0 ≤ sizeLine; decide), fun l hl => ?_⟩
  refine ⟨_, rfl, (n : Int), rfl, by omega, by omega, ?_⟩
  rw [Int.toNat_natCast]
  refine for_range (lo := 0) (n := n) (fun i σ' H' => ∃ y, σ' = [some (.int ((x / 2 ^ i : Nat) : Int)), some (.int n), some (.ref l), y] ∧ Same H H' ∧ H' l = some (.lst ((bitsL x i).map V.int))) ⟨none, by rw [Nat.pow_zero, Nat.div_one]; rfl, same_upd hl, upd_same⟩ (fun i σ' H' hi p => ?_) (fun σ' H' p => ?_)
  · obtain ⟨y, rfl, p1, p2⟩ := p
    refine ⟨_, rfl, .inl ⟨rfl, _, SqL.of p2⟩, _, rfl, _, _, rfl, rfl, (by show (0 : Int) < 2; decide), l, _, _, rfl, rfl, p2, ?_, ?_⟩
    · rw [List.length_map]
      unfold bitsL
      rw [List.length_map, List.length_range]
      exact small1000 (by omega)
    · refine ⟨_, rfl, _, _, rfl, rfl, ⟨by decide, by decide⟩, some (.int (0 + (i : Nat))), ?_, fun b u eb => ?_, ?_⟩
      · have e : ((x / 2 ^ (i + 1) : Nat) : Int) = ((x / 2 ^ i : Nat) : Int) / 2 := by
          rw [Nat.pow_succ, ← Nat.div_div_eq_div_mul]
          rfl
        rw [e]
        rfl
      · rw [upd_ne (fun e => by rw [e, hl] at eb; cases eb)]
        exact p1 _ _ eb
      · rw [upd_same]
        unfold bitsL
        rw [List.range_succ, List.map_append, List.map_append]
        rfl
  · obtain ⟨y, rfl, p1, p2⟩ := p
    exact ⟨_, rfl, q l H' hl p1 p2⟩
/-! ### _law_worths -/
theorem scWorths : FnScope ["_law_state", "_law_count", "_law_line"] ["_law_state", "_law_count"] (defScope s_worths) := ⟨rfl, rfl, rfl, by decide +kernel, rfl, by decide +kernel, by decide +kernel⟩
def spWorths : Sp := fun vs H Q _ => ∃ (st ca la : Addr) (a : Int) (n : Nat), vs = [.ref st, .int n] ∧ (n = 2 ∨ n = 3) ∧ StH H st ca la a ∧ a ≤ 900 ∧
  ∀ v vals H', But [st, la] H H' → StH H' st ca la (a + ((2 ^ n : Nat) : Int)) → ValsH H' v vals n → Q (.ref v) H'
theorem ok_worths {f f1 f2 : Addr} {fd fd1 fd2 : FuncData} (F0 : Fun K "_law_worths" "_law_worths" s_worths f fd)
    (G1 : FnOk P w K mg base CX0 2 f1 fd1 ["_law_state", "_law_limit"] spDraw) (b1 : Binds K fd1 ["_law_state", "_law_limit"] []) (k1 : PySem.W.keepIn K (.ref f1) = true) (m1 : mg "_law_draw" = some (.ref f1))
    (G2 : FnOk P w K mg base CX0 1 f2 fd2 ["_law_count"] spPow) (b2 : Binds K fd2 ["_law_count"] []) (k2 : PySem.W.keepIn K (.ref f2) = true) (m2 : mg "_law_power" = some (.ref f2)) (mr : mg "range" = none) (mt : mg "tuple" = none) :
    FnOk P w K mg base CX0 3 f fd ["_law_state", "_law_count"] spWorths := by
  refine F0.ok scWorths (fun vs H Q E h => ?_) (fun cdv A outer s H vs Q E hr h => ?_)
  · obtain ⟨st, ca, la, a, n, rfl, _⟩ := h
    rfl
  obtain ⟨st, ca, la, a, n, rfl, hn, hS, ha, q⟩ := h
  have nd := scWorths.nd
  refine ⟨_, pss_one (ps_ret (pe_callTy call_tuple_of (by rfl) mt (by decide +kernel) (pa_cons (pe_lc (own := [("_law_line", 2)]) (g := gName 2) (tt := tYes) rfl nd (pi_range1 (by rfl) mr (pa_cons (pe_call G2 (hr.mono (by decide)) (by rfl) m2 k2 b2 .nil pass0 (pa_cons (pv 1) pa_nil)) pa_nil))
      (blkOk_by (N := ["_law_state", "_law_count", "_law_line"]) (sc := defScope s_worths) (by decide +kernel)) (fun _ _ _ _ _ => pg_name (i := 2) nd rfl (Or.inl rfl) (Or.inr rfl)) (fun _ _ _ _ _ => pts_nil)
      (fun _ _ _ _ _ => pe_call G1 hr (by rfl) m1 k1 b1 .nil pass0 (pa_cons (pv 0) (pa_cons pe_int pa_nil)))) pa_nil))), ?_⟩
  refine ⟨_, rfl, n, rfl, by omega, ?_⟩
  have hb : ((2 ^ n : Nat) : Int) ≤ 8 := by rcases hn with rfl | rfl <;> decide
  have hb0 : (0 : Int) ≤ ((2 ^ n : Nat) : Int) := Int.natCast_nonneg _
  refine ⟨((2 ^ n : Nat) : Int), rfl, by omega, by omega, ?_⟩
  rw [Int.toNat_natCast]
  refine fun D hD => ?_
  have hDn : D ≠ st ∧ D ≠ ca ∧ D ≠ la := by
    obtain ⟨_, _, e1, e2, e3, _⟩ := id hS
    exact ⟨(ne_of_none e1 hD).symm, (ne_of_none e2 hD).symm, (ne_of_none e3 hD).symm⟩
  refine lc_it (walk_range (lo := 0) (n := 2 ^ n)) (fun i H' => ∃ vals : List Int, vals.length = i ∧ (∀ x ∈ vals, x = 0 ∨ x = 1) ∧ H' D = some (.lst (vals.map V.int)) ∧ But [st, la, D] H H' ∧ StH H' st ca la (a + (i : Int)))
    ⟨[], rfl, (fun x hx => absurd hx (by simp)), upd_same, But.new hD, by
      rw [show a + ((0 : Nat) : Int) = a by omega]
      exact hS.same (same_upd hD)⟩ (fun i H' _ _ => trivial) (fun i x Ha Hb hi p y => ?_) (fun H' p => ?_)
  · obtain ⟨e0, rfl⟩ := y
    subst e0
    obtain ⟨vals, p1, p2, p3, p4, p5⟩ := p
    refine ⟨rfl, ?_⟩
    refine ⟨_, rfl, st, ca, la, a + (i : Int), 2, rfl, p5, by omega, by decide, by decide, fun r H' hr0 hr1 b h5 => ?_⟩
    have h3 : H' D = some (.lst (vals.map V.int)) := b.rest _ _ (by simp; exact ⟨hDn.1, hDn.2.2⟩) p3
    have bL : But [D] H' (upd H' D (.lst ((vals.map V.int) ++ [.int r]))) := But.at (by simp) h3 (by intro xs z; cases z)
    refine ⟨_, h3, by rw [List.length_map]; exact small1000 (by omega), vals ++ [r], by rw [List.length_append, p1]; rfl, fun x hx => ?_, by rw [upd_same, List.map_append]; rfl, p4.trans ((b.mono (by simp)).trans (bL.mono (by simp))), ?_⟩
    · rcases List.mem_append.mp hx with z | z
      · exact p2 x z
      · have : x = r := by simpa using z
        omega
    · have := h5.but bL (by simp; exact hDn.1.symm) (by simp; exact hDn.2.1.symm) (by simp; exact hDn.2.2.symm)
      rw [show a + (((i + 1 : Nat)) : Int) = a + (i : Int) + 1 by omega]
      exact this
  · obtain ⟨vals, p1, p2, p3, p4, p5⟩ := p
    refine ⟨D, _, rfl, .inl ⟨SqL.of p3, fun v hv => ?_⟩⟩
    have sv := same_upd (o := .tup (vals.map V.int)) hv
    refine q v vals _ ((p4.trans (But.same sv)).less fun b hb => ?_) (p5.same sv) ⟨upd_same, p1, p2⟩
    simp only [List.mem_cons, List.not_mem_nil, or_false] at hb ⊢
    rcases hb with z | z | z
    · exact .inl (.inl z)
    · exact .inl (.inr z)
    · exact .inr (by rw [z]; exact hD)
/-! ### _law_like -/
theorem scLike : FnScope ["_law_got", "_law_due"] ["_law_got", "_law_due"] (defScope s_like) := ⟨rfl, rfl, rfl, by decide +kernel, rfl, by decide +kernel, by decide +kernel⟩
def spLike : Sp := fun vs H Q _ => ∃ b c : Bool, vs = [.bl b, .bl c] ∧ Q (.bl (b == c)) H
theorem ok_like {f : Addr} {fd : FuncData} (F0 : Fun K "_law_like" "_law_like" s_like f fd) (mR : mg "repr" = none) : FnOk P w K mg base CX0 1 f fd ["_law_got", "_law_due"] spLike := by
  refine F0.ok scLike (fun vs H Q E h => ?_) (fun cdv A outer s H vs Q E hr h => ?_)
  · obtain ⟨b, c, rfl, _⟩ := h
    rfl
  obtain ⟨b, c, rfl, q⟩ := h
  refine ⟨_, pss_one (ps_ret (pe_cmpR op_eq (pe_callB call_reprB (by rfl) mR (by decide +kernel) (pa_cons (pv 0) pa_nil)) (pe_callB call_reprB (by rfl) mR (by decide +kernel) (pa_cons (pv 1) pa_nil)) (nomark _))), ?_⟩
  refine ⟨_, rfl, b, rfl, _, rfl, c, rfl, rfl, ?_⟩
  have e : decide (V.str (if b = true then "True" else "False") = V.str (if c = true then "True" else "False")) = (b == c) := by
    cases b <;> cases c <;> decide
  rw [← e] at q
  exact q
/-! ### _law_fits -/
theorem scFits : FnScope ["_law_cube", "_law_line", "_law_told", "_law_bit"] ["_law_cube", "_law_line"] (defScope s_fits) := ⟨rfl, rfl, rfl, by decide +kernel, rfl, by decide +kernel, by decide +kernel⟩
def spFits : Sp := fun vs H Q _ => ∃ (c : Addr) (cs : List Int) (x : Nat), vs = [.ref c, .int x] ∧ CubeH H c cs ∧ cs.length ≤ 10 ∧ ∀ H', Same H H' → Q (.bl (fitsB cs x)) H'
theorem ok_fits {f f1 : Addr} {fd fd1 : FuncData} (F0 : Fun K "_law_fits" "_law_fits" s_fits f fd)
    (G1 : FnOk P w K mg base CX0 1 f1 fd1 ["_law_line", "_law_count"] spBits) (b1 : Binds K fd1 ["_law_line", "_law_count"] []) (k1 : PySem.W.keepIn K (.ref f1) = true) (m1 : mg "_law_bits_of" = some (.ref f1)) (mz : mg "zip" = none) (ml : mg "len" = none) :
    FnOk P w K mg base CX0 2 f fd ["_law_cube", "_law_line"] spFits := by
  refine F0.ok scFits (fun vs H Q E h => ?_) (fun cdv A outer s H vs Q E hr h => ?_)
  · obtain ⟨c, cs, x, rfl, _⟩ := h
    rfl
  obtain ⟨c, cs, x, rfl, hc, hl, q⟩ := h
  have nd := scFits.nd
  have hu64 := hu_room64 hr
  refine ⟨_, pss_one (ps_ret (pe_cmpR (op_eqNil hu64) (pe_lc (own := [("_law_told", 2), ("_law_bit", 3)]) (g := g2 K 2 3) rfl nd
      (pi_zipM (by rfl) mz (pa_cons (pv 0) (pa_cons (pe_call G1 hr (by rfl) m1 k1 b1 .nil pass0 (pa_cons (pv 1) (pa_cons (pe_callB call_len_seq (by rfl) ml PySem.boot_len (pa_cons (pv 0) pa_nil)) pa_nil))) pa_nil))) (blkOk_by (N := ["_law_cube", "_law_line", "_law_told", "_law_bit"]) (sc := defScope s_fits) (by decide +kernel))
      (fun _ _ _ _ _ => pg_tup rfl (pgs_cons (pg_name (i := 2) nd rfl (Or.inl rfl) (Or.inr rfl)) (pgs_cons (pg_name (i := 3) nd rfl (Or.inl rfl) (Or.inr rfl)) pgs_nil)))
      (fun _ _ _ _ _ => pts_one (PW.pt (pw_and (pt_cmpR op_ne (pv 2) pe_int (nomark _)) (pw_and1 (pt_cmpR op_ne (pv 2) (pv 3) (nomark _)))))) (fun _ _ _ _ _ => pe_int)) (pe_lst pa_nil) (nomark _))), ?_⟩
  have hlm : (cs.map V.int).length = cs.length := List.length_map _
  refine ⟨_, rfl, _, rfl, _, rfl, c, _, rfl, .inr (sqt hc), x, cs.length, by rw [hlm]; rfl, hl, fun l H1 nl s1 e1 => ?_⟩
  refine ⟨c, l, _, _, rfl, sqt (s1 _ _ hc), SqL.of e1, ?_⟩
  have hbl : ((bitsL x cs.length).map V.int).length = cs.length := by
    unfold bitsL
    simp
  refine fun D hD => lc_ones (walk_zipM (n := cs.length) (by rw [hlm, hbl]; simp)) (misB cs x) hD (by omega) (fun H' s' => ⟨sqt (s' _ _ (s1 _ _ hc)), SqL.of (s' _ _ e1)⟩) (fun i v Ha Hb hi s' y' Cont hC => ?_) (fun H' s' e' => ?_)
  · obtain ⟨T, x1, x2, rfl, nT, rfl, hx1, hx2⟩ := y'
    have hx1 : (cs.map V.int)[i]? = some x1 := hx1
    have hx2 : ((bitsL x cs.length).map V.int)[i]? = some x2 := hx2
    rw [int_at hi] at hx1
    have e2 : (bitsL x cs.length)[i]? = some (bitAt x i) := by
      unfold bitsL
      rw [List.getElem?_map, List.getElem?_range hi]
      rfl
    rw [List.getElem?_map, e2] at hx2
    cases hx1
    cases hx2
    have sT := same_upd (o := .tup [.int cs[i], .int (bitAt x i)]) nT
    refine ⟨T, _, rfl, sqt upd_same, rfl, _, _, rfl, _, _, rfl, rfl, rfl, ?_⟩
    have hgd : cs.getD i 0 = cs[i] := by rw [List.getD_eq_getElem?_getD, List.getElem?_eq_getElem hi] <;> rfl
    have hC' := hC _ sT
    unfold misB at hC'
    rw [hgd] at hC'
    refine ⟨_, rfl, rfl, _, rfl, ?_⟩
    by_cases g1 : cs[i] = 2
    · refine ifF (by rw [decide_eq_true (by rw [g1])]; rfl) ?_
      rw [decide_eq_true g1] at hC'
      exact hC'
    · refine ifT (by rw [decide_eq_false (fun z => g1 (V.int.inj z))]; rfl) ?_
      refine ⟨_, rfl, _, rfl, rfl, _, rfl, ?_⟩
      rw [decide_eq_false g1] at hC'
      have e3 : decide (V.int cs[i] = V.int (bitAt x i)) = decide (cs[i] = bitAt x i) := by
        rw [Bool.eq_iff_iff, decide_eq_true_eq, decide_eq_true_eq]
        exact ⟨V.int.inj, fun z => by rw [z]⟩
      rw [← e3] at hC'
      exact hC'
  · refine ⟨(by show 0 ≤ sizeLine; decide), fun t ht => ?_⟩
    have sT := same_upd (o := .lst []) ht
    refine ⟨D, t, _, rfl, rfl, SqL.of (by rw [← rep_int]; exact sT _ _ e'), SqL.of upd_same, ?_⟩
    have := q _ (s1.trans (s'.trans sT))
    rw [← fits_none, ← isE_rep] at this
    exact this
/-! ### _law_lines_in -/
theorem scLines : FnScope ["_law_cube", "_law_line"] ["_law_cube"] (defScope s_lines_in) := ⟨rfl, rfl, rfl, by decide +kernel, rfl, by decide +kernel, by decide +kernel⟩
def spLines : Sp := fun vs H Q _ => ∃ (c : Addr) (cs : List Int), vs = [.ref c] ∧ CubeH H c cs ∧ cs.length ≤ 3 ∧ ∀ l H', Same H H' → H' l = some (.lst ((lines cs).map fun r : Nat => V.int r)) → Q (.ref l) H'
theorem ok_lines {f f1 f2 : Addr} {fd fd1 fd2 : FuncData} (F0 : Fun K "_law_lines_in" "_law_lines_in" s_lines_in f fd)
    (G1 : FnOk P w K mg base CX0 2 f1 fd1 ["_law_cube", "_law_line"] spFits) (b1 : Binds K fd1 ["_law_cube", "_law_line"] []) (k1 : PySem.W.keepIn K (.ref f1) = true) (m1 : mg "_law_fits" = some (.ref f1))
    (G2 : FnOk P w K mg base CX0 1 f2 fd2 ["_law_count"] spPow) (b2 : Binds K fd2 ["_law_count"] []) (k2 : PySem.W.keepIn K (.ref f2) = true) (m2 : mg "_law_power" = some (.ref f2)) (mr : mg "range" = none) (ml : mg "len" = none) :
    FnOk P w K mg base CX0 3 f fd ["_law_cube"] spLines := by
  refine F0.ok scLines (fun vs H Q E h => ?_) (fun cdv A outer s H vs Q E hr h => ?_)
  · obtain ⟨c, cs, rfl, _⟩ := h
    rfl
  obtain ⟨c, cs, rfl, hc, hl, q⟩ := h
  have nd := scLines.nd
  refine ⟨_, pss_one (ps_ret (pe_lc (own := [("_law_line", 1)]) (g := gName 1) rfl nd (pi_range1 (by rfl) mr (pa_cons (pe_call G2 (hr.mono (by decide)) (by rfl) m2 k2 b2 .nil pass0 (pa_cons (pe_callB call_len_seq (by rfl) ml PySem.boot_len (pa_cons (pv 0) pa_nil)) pa_nil)) pa_nil))
      (blkOk_by (N := ["_law_cube", "_law_line"]) (sc := defScope s_lines_in) (by decide +kernel)) (fun _ _ _ _ _ => pg_name (i := 1) nd rfl (Or.inl rfl) (Or.inr rfl))
      (fun _ _ _ _ _ => pts_one (pt_val (pe_call G1 hr (by rfl) m1 k1 b1 .nil pass0 (pa_cons (pv 0) (pa_cons (pv 1) pa_nil))))) (fun _ _ _ _ _ => pv 1))), ?_⟩
  have hlm : (cs.map V.int).length = cs.length := List.length_map _
  refine ⟨_, rfl, c, _, rfl, .inr (sqt hc), cs.length, by rw [hlm]; rfl, by omega, ?_⟩
  have h8 : 2 ^ cs.length ≤ 2 ^ 3 := Nat.pow_le_pow_right (by decide) hl
  have h8' : ((2 ^ cs.length : Nat) : Int) ≤ 8 := Int.ofNat_le.mpr h8
  have h80 : (0 : Int) ≤ ((2 ^ cs.length : Nat) : Int) := Int.natCast_nonneg _
  refine ⟨((2 ^ cs.length : Nat) : Int), rfl, by omega, by omega, ?_⟩
  rw [Int.toNat_natCast]
  refine fun D hD => lc_it (walk_range (lo := 0) (n := 2 ^ cs.length)) (fun i H' => Same H H' ∧ H' D = some (.lst (((List.range i).filter (fitsB cs)).map fun r : Nat => V.int r))) ⟨same_upd hD, upd_same⟩ (fun i H' _ _ => trivial) (fun i x Ha Hb hi p y => ?_) (fun H' p => q D H' p.1 p.2)
  obtain ⟨e0, rfl⟩ := y
  subst e0
  have e1 : (List.range (i + 1)).filter (fitsB cs) = (List.range i).filter (fitsB cs) ++ (if fitsB cs i = true then [i] else []) := by
    rw [List.range_succ, List.filter_append]
    congr 1
    rw [List.filter_cons]
    rfl
  refine ⟨rfl, _, rfl, _, rfl, c, cs, i, by show [V.ref c, V.int (0 + (i : Int))] = _; rw [Int.zero_add], p.1 _ _ hc, by omega, fun H3 s3 => ⟨_, rfl, if2 (fun hf => ?_) (fun hf => ?_)⟩⟩
  · refine ⟨_, rfl, _, s3 _ _ p.2, ?_, fun b u eb => ?_, ?_⟩
    · rw [List.length_map]
      have := List.length_filter_le (fitsB cs) (List.range i)
      rw [List.length_range] at this
      exact small1000 (by omega)
    · rw [upd_ne (fun e => by rw [e, hD] at eb; cases eb)]
      exact s3 _ _ (p.1 _ _ eb)
    · rw [upd_same, e1, if_pos hf, List.map_append]
      show some (HO.lst (_ ++ [V.int (0 + (i : Int))])) = _
      rw [Int.zero_add]
      rfl
  · refine ⟨p.1.trans s3, ?_⟩
    rw [e1, hf]
    rw [if_neg Bool.false_ne_true, List.append_nil]
    exact s3 _ _ p.2
/-! ### _law_is_both -/
theorem scBoth : FnScope ["_law_worths_here", "_law_cube", "_law_line"] ["_law_worths_here", "_law_cube"] (defScope s_is_both) := ⟨rfl, rfl, rfl, by decide +kernel, rfl, by decide +kernel, by decide +kernel⟩
def spBoth : Sp := fun vs H Q _ => ∃ (v c : Addr) (vals cs : List Int) (n : Nat), vs = [.ref v, .ref c] ∧ (n = 2 ∨ n = 3) ∧ ValsH H v vals n ∧ CubeH H c cs ∧ cs.length = n ∧ ∀ H', Same H H' → Q (.bl (decide (KD vals cs = 3))) H'
theorem ok_both {f f1 : Addr} {fd fd1 : FuncData} (F0 : Fun K "_law_is_both" "_law_is_both" s_is_both f fd)
    (G1 : FnOk P w K mg base CX0 3 f1 fd1 ["_law_cube"] spLines) (b1 : Binds K fd1 ["_law_cube"] []) (k1 : PySem.W.keepIn K (.ref f1) = true) (m1 : mg "_law_lines_in" = some (.ref f1)) (ml : mg "len" = none) (ms : mg "set" = none) :
    FnOk P w K mg base CX0 4 f fd ["_law_worths_here", "_law_cube"] spBoth := by
  refine F0.ok scBoth (fun vs H Q E h => ?_) (fun cdv A outer s H vs Q E hr h => ?_)
  · obtain ⟨v, c, vals, cs, n, rfl, _⟩ := h
    rfl
  obtain ⟨v, c, vals, cs, n, rfl, hn, hv, hc, hl, q⟩ := h
  have nd := scBoth.nd
  refine ⟨_, pss_one (ps_ret (pe_cmpR op_eq (pe_lenSetB (by rfl) ml (by rfl) ms (pe_lc (own := [("_law_line", 2)]) (g := gName 2) (tt := tYes) rfl nd (pi_list (pe_call G1 hr (by rfl) m1 k1 b1 .nil pass0 (pa_cons (pv 1) pa_nil)))
      (blkOk_by (N := ["_law_worths_here", "_law_cube", "_law_line"]) (sc := defScope s_is_both) (by decide +kernel)) (fun _ _ _ _ _ => pg_name (i := 2) nd rfl (Or.inl rfl) (Or.inr rfl)) (fun _ _ _ _ _ => pts_nil)
      (fun _ _ _ _ _ => pe_ix (ix_tupK (K := K) rfl) (pv 0) (pv 2) (fun _ _ => rfl)))) pe_int (nomark _))), ?_⟩
  refine ⟨_, rfl, c, cs, rfl, hc, by omega, fun l H1 s1 e1 => ?_⟩
  refine ⟨l, rfl, ⟨_, SqL.of e1⟩, fun D hD => ?_⟩
  have hll : (lines cs).length ≤ 8 := by
    unfold lines
    have h1 := List.length_filter_le (fitsB cs) (List.range (2 ^ cs.length))
    rw [List.length_range] at h1
    have h8 : 2 ^ cs.length ≤ 2 ^ 3 := Nat.pow_le_pow_right (by decide) (by omega)
    omega
  have hmem : ∀ r ∈ lines cs, r < vals.length := fun r hr1 => by
    unfold lines at hr1
    have := List.mem_range.mp (List.mem_filter.mp hr1).1
    rw [hv.len, ← hl]
    exact this
  refine lc_list (K := K) (a := l) (xs := (lines cs).map fun r : Nat => V.int r) (fun i H' => Same H1 H' ∧ H' D = some (.lst ((((lines cs).take i).map fun r => vals.getD r 0).map V.int))) ⟨same_upd hD, upd_same⟩ (fun i H' _ p => SqL.of (p.1 _ _ e1)) (fun i x H' hx p => ?_) (fun H' p => ?_)
  · rw [List.getElem?_map] at hx
    obtain ⟨r, hr', rfl⟩ := Option.map_eq_some_iff.mp hx
    have hrl := hmem r (List.mem_of_getElem? hr')
    have hi := (List.getElem?_eq_some_iff.mp hr').1
    refine ⟨rfl, _, rfl, _, rfl, v, _, (r : Int), _, rfl, rfl, sqt (p.1 _ _ (s1 _ _ hv.at_)), atI_nat (int_at hrl), _, p.2, ?_, fun b u eb => ?_, ?_⟩
    · rw [List.length_map, List.length_map, List.length_take]
      exact small1000 (by omega)
    · rw [upd_ne (fun e => by rw [e, hD] at eb; cases eb)]
      exact p.1 _ _ eb
    · have hgd : vals.getD r 0 = vals[r] := by rw [List.getD_eq_getElem?_getD, List.getElem?_eq_getElem hrl] <;> rfl
      rw [upd_same, List.take_add_one, hr', List.map_append, List.map_append]
      show _ = some (HO.lst (_ ++ [V.int (vals.getD r 0)]))
      rw [hgd]
  · have p2 := p.2
    rw [List.length_map, List.take_of_length_le (Nat.le_refl _)] at p2
    refine ⟨D, (lines cs).map fun r => vals.getD r 0, rfl, SqL.of p2, fun x hx => ?_, by rw [List.length_map]; omega, fun k hk => ?_⟩
    · obtain ⟨r, hr', rfl⟩ := List.mem_map.mp hx
      have hrl := hmem r hr'
      rw [List.getD_eq_getElem?_getD, List.getElem?_eq_getElem hrl]
      exact hv.dig _ (List.getElem_mem hrl)
    · refine ⟨rfl, ?_⟩
      have := q H' (s1.trans p.1)
      have hav : ∀ z : Int, hasV vals cs z = true ↔ z ∈ (lines cs).map fun r => vals.getD r 0 := fun z => by
        unfold hasV
        rw [List.any_eq_true, List.mem_map]
        constructor
        · rintro ⟨r, h1, h2⟩
          exact ⟨r, h1, eq_of_beq h2⟩
        · rintro ⟨r, h1, h2⟩
          exact ⟨r, h1, by rw [h2]; exact beq_self_eq_true _⟩
      have e : decide (KD vals cs = 3) = decide (V.int ((k : Nat) : Int) = V.int 2) := by
        rw [Bool.eq_iff_iff, decide_eq_true_eq, decide_eq_true_eq, KD_two, hav, hav, ← hk]
        constructor
        · intro z
          rw [z]
          rfl
        · intro z
          have := V.int.inj z
          omega
      rw [e] at this
      exact this
end
end Kb
/-! The law's asks_for. -/
namespace Kb
open PySem PySem.Spec PyProof.Rows L2
section
variable {P : Program} {w : World} {K : PySem.W.Frag} {mg : Str → Option Value} {base : Heap}
theorem scAF : FnScope ["_law_worths_here", "_law_cube", "_law_known", "_law_best", "_law_place", "_law_two", "_law_spot", "_law_told", "_law_bit"] ["_law_worths_here", "_law_cube", "_law_known"] (defScope s_asks_for) := ⟨rfl, rfl, rfl, by decide +kernel, rfl, by decide +kernel, by decide +kernel⟩
def spAF (k : Nat) : Sp := fun vs H Q _ => ∃ (v c d : Addr) (vals cs : List Int) (n : Nat) (ks : List (List Int)), vs = [.ref v, .ref c, .ref d] ∧ (n = 2 ∨ n = 3) ∧ ValsH H v vals n ∧ CubeH H c cs ∧ cs.length = n ∧ Dig cs ∧ (free cs).length < k ∧
  CD (F vals) n H d ks ∧ ∀ H' ks', But [d] H H' → CD (F vals) n H' d ks' → Q (.int (F vals cs)) H'
theorem af_none {j : Nat} {f : Addr} {fd : FuncData} : FnOk P w K mg base CX0 j f fd ["_law_worths_here", "_law_cube", "_law_known"] (spAF 0) := by
  have no : ∀ vs H Q E, ¬ spAF 0 vs H Q E := fun vs H Q E h => by
    obtain ⟨v, c, d, vals, cs, n, ks, _, _, _, _, _, _, h1, _⟩ := h
    omega
  exact ⟨fun vs H Q E h => absurd h (no vs H Q E), fun A outer s H args us vs Q E _ _ _ _ h => absurd h (no vs H Q E)⟩
theorem ok_af {j k : Nat} {f f1 f2 : Addr} {fd fd1 fd2 : FuncData} (hj : 4 ≤ j) (F0 : Fun K "_law_asks_for" "_law_asks_for" s_asks_for f fd) (bF : Binds K fd ["_law_worths_here", "_law_cube", "_law_known"] []) (kF : PySem.W.keepIn K (.ref f) = true) (mF : mg "_law_asks_for" = some (.ref f))
    (G : FnOk P w K mg base CX0 j f fd ["_law_worths_here", "_law_cube", "_law_known"] (spAF k))
    (G1 : FnOk P w K mg base CX0 1 f1 fd1 ["_law_cube", "_law_place", "_law_bit"] spHalf) (b1 : Binds K fd1 ["_law_cube", "_law_place", "_law_bit"] []) (k1 : PySem.W.keepIn K (.ref f1) = true) (m1 : mg "_law_half" = some (.ref f1))
    (G2 : FnOk P w K mg base CX0 4 f2 fd2 ["_law_worths_here", "_law_cube"] spBoth) (b2 : Binds K fd2 ["_law_worths_here", "_law_cube"] []) (k2 : PySem.W.keepIn K (.ref f2) = true) (m2 : mg "_law_is_both" = some (.ref f2))
    (me : mg "enumerate" = none) (mM : mg "max" = none) (mm : mg "min" = none) : FnOk P w K mg base CX0 (j + 1) f fd ["_law_worths_here", "_law_cube", "_law_known"] (spAF (k + 1)) := by
  refine F0.ok scAF (fun vs H Q E h => ?_) (fun cdv A outer s H vs Q E hr h => ?_)
  · obtain ⟨v, c, d, vals, cs, n, ks, rfl, _⟩ := h
    rfl
  obtain ⟨v, c, d, vals, cs, n, ks, rfl, hn, hv, hc, hl, hd, hk, hD, q⟩ := h
  have hu := hu_room hr
  have nd := scAF.nd
  refine ⟨_, pss_cons (ps_if (pt_cmp (pc_din hu (pv 1) (pv 2))) (pss_one (ps_ret (pe_dget hu (pv 2) (pv 1) (fun _ _ => rfl)))) pss_nil)
    (pss_cons (ps_set (i := 3) nd rfl (.inl rfl) (pe_ifExp (pt_not (pt_val (pe_call G2 (hr.mono hj) (by rfl) m2 k2 b2 .nil pass0 (pa_cons (pv 0) (pa_cons (pv 1) pa_nil))))) pe_int pe_non))
    (pss_cons (ps_for PassesOwn.never rfl (pi_list (pe_ifExp (pt_cmpR op_isN (pv 3) pe_non (nomark _))
        (pe_lc (own := [("_law_spot", 6), ("_law_told", 7)]) (g := g2 K 6 7) rfl nd (pi_enumT (by rfl) me (pa_cons (pv 1) pa_nil)) (blkOk_by (N := ["_law_worths_here", "_law_cube", "_law_known", "_law_best", "_law_place", "_law_two", "_law_spot", "_law_told", "_law_bit"]) (sc := defScope s_asks_for) (by decide +kernel))
          (fun _ _ _ _ _ => pg_tup rfl (pgs_cons (pg_name (i := 6) nd rfl (Or.inl rfl) (Or.inr rfl)) (pgs_cons (pg_name (i := 7) nd rfl (Or.inl rfl) (Or.inr rfl)) pgs_nil)))
          (fun _ _ _ _ _ => pts_one (pt_cmpR op_eq (pv 7) pe_int (nomark _))) (fun _ _ _ _ _ => pv 6)) (pe_lst pa_nil))) (pg_name (i := 4) nd rfl (.inr rfl))
      (pss_cons (ps_setLc (i := 5) (own := [("_law_bit", 8)]) (g := gName 8) (tt := tYes) rfl nd rfl rfl (sw_true rfl rfl rfl (by decide +kernel)) (pi_tup (pe_tup (pa_cons pe_int (pa_cons pe_int pa_nil))))
          (blkOk_by (N := ["_law_worths_here", "_law_cube", "_law_known", "_law_best", "_law_place", "_law_two", "_law_spot", "_law_told", "_law_bit"]) (sc := defScope s_asks_for) (by decide +kernel))
          (fun _ _ _ _ _ => pg_name (i := 8) nd rfl (Or.inl rfl) (Or.inr rfl)) (fun _ _ _ _ _ => pts_nil)
          (fun _ _ _ _ _ => pe_call G hr (by rfl) mF kF bF .nil pass0 (pa_cons (pv 0) (pa_cons (pe_call G1 (hr.mono (by omega)) (by rfl) m1 k1 b1 .nil pass0 (pa_cons (pv 1) (pa_cons (pv 4) (pa_cons (pv 8) pa_nil)))) (pa_cons (pv 2) pa_nil)))))
      (pss_one (ps_set (i := 3) nd rfl (.inl rfl) (pe_ifExp (pt_cmpR op_isN (pv 3) pe_non (nomark _)) (pe_op op_add (pe_callB (cr_max rfl) (by rfl) mM (by decide +kernel) (pa_cons (pv 5) pa_nil)) pe_int)
          (pe_callB (call_min2 rfl) (by rfl) mm (by decide +kernel) (pa_cons (pv 3) (pa_cons (pe_op op_add (pe_callB (cr_max rfl) (by rfl) mM (by decide +kernel) (pa_cons (pv 5) pa_nil)) pe_int) pa_nil))))))))
    (pss_cons (ps_dput hu (pv 2) (pv 1) (pv 3) rfl)
    (pss_one (ps_ret (pv 3)))))), ?_⟩
  have lt3 : cs.length ≤ 100 := by omega
  obtain ⟨o, g1, g2, g3⟩ := hD.get hc
  refine ⟨_, rfl, _, rfl, d, o, rfl, g1, _, rfl, ?_⟩
  by_cases hin : cs ∈ ks
  · refine ifT (by rw [g2 hin]; rfl) ?_
    exact ⟨_, rfl, _, rfl, d, _, rfl, hD.get_in hc hin, q H ks (But.refl _ _) hD⟩
  refine ifF (by rw [g3 hin]; rfl) ?_
  refine ⟨_, rfl, _, rfl, v, c, vals, cs, n, rfl, hn, hv, hc, hl, fun H1 s1 => ⟨_, rfl, ?_⟩⟩
  have hD1 := hD.but (But.same s1 (l := [])) (by simp)
  -- the end
  have fin : ∀ (H2 : Hp) (ks2 : List (List Int)), But [d] H H2 → CD (F vals) n H2 d ks2 → ∃ H3, DPut H2 d (.ref c) (.int (F vals cs)) H3 ∧ Q (.int (F vals cs)) H3 := by
    intro H2 ks2 b2 c2
    obtain ⟨H3, ks3, hp, c3, b3, _⟩ := c2.put hn (hc.keep b2.tup) hl hd
    exact ⟨H3, hp, q H3 ks3 (b2.trans b3) c3⟩
  by_cases h3 : KD vals cs = 3
  · refine ifF (by rw [decide_eq_true h3]; rfl) ?_
    refine ⟨_, rfl, rfl, _, rfl, ifT rfl ?_⟩
    -- the free places
    refine ⟨_, rfl, c, _, rfl, sqt (s1 _ _ hc), fun l hlN => ?_⟩
    have hlm : (cs.map V.int).length = cs.length := List.length_map _
    refine lc_it (walk_enumT (xs := cs.map V.int)) (fun i H' => Same H1 H' ∧ H' l = some (.lst ((freeFrom 0 (cs.take i)).map fun i : Nat => V.int i))) ⟨same_upd hlN, upd_same⟩ (fun i H' _ p => sqt (p.1 _ _ (s1 _ _ hc))) (fun i x Ha Hb hi p y => ?_) (fun H2 p => ?_)
    · have hi' : i < cs.length := by omega
      obtain ⟨T, rfl, nT, rfl⟩ := enum_ints hi' y
      have sT := same_upd (o := .tup [.int (i : Nat), .int cs[i]]) nT
      have hDT : l ≠ T := ne_of_none p.2 nT
      refine ⟨T, _, rfl, sqt upd_same, rfl, _, _, rfl, _, _, rfl, rfl, rfl, ?_⟩
      refine ⟨_, rfl, rfl, _, rfl, ?_⟩
      have tk := free_take (List.getElem?_eq_getElem hi')
      by_cases e : cs[i] = 2
      · refine ifT (decide_eq_true (by rw [e])) ?_
        refine ⟨_, rfl, _, by rw [upd_ne hDT]; exact p.2, ?_, fun b z eb => ?_, ?_⟩
        · rw [List.length_map]
          exact small1000 (Nat.le_trans (freeFrom_len _ _) (by rw [List.length_take]; omega))
        · rw [upd_ne (fun e => by rw [e, hlN] at eb; cases eb)]
          exact sT _ _ (p.1 _ _ eb)
        · rw [upd_same, tk, if_pos e, List.map_append]
          rfl
      · refine ifF (decide_eq_false fun z => e (V.int.inj z)) ?_
        refine ⟨p.1.trans sT, ?_⟩
        rw [upd_ne hDT, p.2, tk, if_neg e, List.append_nil]
    obtain ⟨s2, e2⟩ := p
    rw [hlm, List.take_length] at e2
    have e2 : H2 l = some (.lst ((free cs).map fun i : Nat => V.int i)) := e2
    have elen : ((free cs).map fun i : Nat => V.int i).length = (free cs).length := List.length_map _
    refine ⟨l, rfl, ⟨_, SqL.of e2⟩, for_list (K := K) (a := l) (xs := (free cs).map fun i : Nat => V.int i) (fun i σ' H' => ∃ y4 y5 y6 y7 y8 ks', σ' = [some (.ref v), some (.ref c), some (.ref d), some (optV (((free cs).take i).foldl (stepB fun i => 1 + max (F vals (cs.set i 1)) (F vals (cs.set i 0))) none)), y4, y5, y6, y7, y8] ∧
        H' l = some (.lst ((free cs).map fun i : Nat => V.int i)) ∧ But [d] H H' ∧ CD (F vals) n H' d ks')
      ⟨_, _, _, _, _, ks, rfl, e2, But.same (s1.trans s2), hD1.but (But.same s2 (l := [])) (by simp)⟩ (fun i σ' H' _ p => ?_) (fun i x σ' H' hx p => ?_) (fun σ' H' p => ?_)⟩
    · obtain ⟨_, _, _, _, _, _, _, p2, _⟩ := p
      exact SqL.of p2
    · obtain ⟨y4, y5, y6, y7, y8, ks', rfl, p2, p3, p4⟩ := p
      rw [List.getElem?_map] at hx
      obtain ⟨pl, hpl, rfl⟩ := Option.map_eq_some_iff.mp hx
      have hmem : pl ∈ free cs := List.mem_of_getElem? hpl
      have hf1 := free_set hmem (show (1 : Int) ≠ 2 by decide)
      have hf0 := free_set hmem (show (0 : Int) ≠ 2 by decide)
      have hld : l ≠ d := ne_of p2 p4.at_ (by intro z; cases z)
      refine ⟨(by show 2 ≤ sizeLine; decide), fun t ht => ⟨t, rfl, ⟨_, sqt upd_same⟩, fun D hDN => ?_⟩⟩
      have sT := same_upd (o := .tup [.int 0, .int 1]) ht
      have et : (upd H' t (.tup [.int 0, .int 1])) t = some (.tup [.int 0, .int 1]) := upd_same
      generalize upd H' t (.tup [.int 0, .int 1]) = H3 at sT et hDN ⊢
      have p4' := p4.but (But.same sT (l := [])) (by simp)
      have hDd : D ≠ d := (ne_of_none p4'.at_ hDN).symm
      have hDl : D ≠ l := (ne_of_none (sT _ _ p2) hDN).symm
      refine lc_it (walk_tup (xs := [.int 0, .int 1])) (fun i H4 => H4 D = some (.lst ((([0, 1] : List Int).take i).map fun b => V.int (F vals (cs.set pl b)))) ∧ But [d, D] H3 H4 ∧ ∃ ks', CD (F vals) n H4 d ks') ⟨upd_same, But.new hDN, ks', p4'.but (But.new hDN (l := [])) (by simp)⟩
        (fun i H4 _ r => sqt (r.2.1.tup _ _ et)) (fun i x H4 H5 hi r y => ?_) (fun H4 r => ?_)
      · obtain ⟨e0, hx⟩ := y
        subst e0
        obtain ⟨r1, r2, ks4, r3⟩ := r
        have hb : ∃ b : Int, x = .int b ∧ (b = 0 ∨ b = 1) ∧ (([0, 1] : List Int))[i]? = some b := by
          match i, hi, hx with
          | 0, _, hx => exact ⟨0, (Option.some.inj hx).symm, .inl rfl, rfl⟩
          | 1, _, hx => exact ⟨1, (Option.some.inj hx).symm, .inr rfl, rfl⟩
          | (i + 2), hi, _ => exact absurd hi (by show ¬ (i + 2 < 2); omega)
        obtain ⟨b, rfl, hb01, hbi⟩ := hb
        have hcH : CubeH H5 c cs := hc.keep (p3.tup.trans ((same_tup sT).trans r2.tup))
        refine ⟨rfl, _, rfl, _, rfl, _, rfl, _, rfl, c, cs, pl, b, rfl, hcH, free_lt hmem, lt3, fun p6 H6 s6 e6 => ?_⟩
        have hf : (free (cs.set pl b)).length < k := by rcases hb01 with z | z <;> rw [z] <;> omega
        refine ⟨_, rfl, v, p6, d, vals, cs.set pl b, n, ks4, rfl, hn, hv.keep (p3.tup.trans ((same_tup sT).trans (r2.tup.trans (same_tup s6)))), e6, by rw [List.length_set]; exact hl, hd.set pl (by omega), hf, r3.but (But.same s6 (l := [])) (by simp), fun H7 ks7 b7 c7 => ?_⟩
        have h7 := b7.rest _ _ (by simp; exact hDd) (s6 _ _ r1)
        have bL : But [D] H7 (upd H7 D (.lst (((([0, 1] : List Int).take i).map fun b => V.int (F vals (cs.set pl b))) ++ [.int (F vals (cs.set pl b))]))) := But.at (by simp) h7 (by intro xs z; cases z)
        refine ⟨_, h7, ?_, ?_, r2.trans ((But.same s6).trans ((b7.mono (by simp)).trans (bL.mono (by simp)))), ks7, c7.but bL (by simp; exact hDd.symm)⟩
        · rw [List.length_map, List.length_take]
          exact small1000 (by simp; omega)
        · rw [upd_same, List.take_add_one, hbi, List.map_append]
          rfl
      · obtain ⟨r1, r2, ks4, r3⟩ := r
        have r1 : H4 D = some (.lst ([F vals (cs.set pl 0), F vals (cs.set pl 1)].map V.int)) := r1
        have b4 : But [d] H H4 := p3.trans ((But.same sT).trans (r2.less fun a ha => by
          rcases List.mem_cons.mp ha with z | z
          · exact .inl (by rw [z]; simp)
          · have : a = D := by simpa using z
            exact .inr (by rw [this]; exact hDN)))
        have hl4 : H4 l = some (.lst ((free cs).map fun i : Nat => V.int i)) := r2.rest _ _ (by simp; exact ⟨hld, fun z => hDl z.symm⟩) (sT _ _ p2)
        have tk := foldl_take (f := fun i => 1 + max (F vals (cs.set i 1)) (F vals (cs.set i 0))) hpl
        have mx : ∀ m : Int, m ∈ [F vals (cs.set pl 0), F vals (cs.set pl 1)] → (∀ y, y ∈ [F vals (cs.set pl 0), F vals (cs.set pl 1)] → y ≤ m) → m = max (F vals (cs.set pl 1)) (F vals (cs.set pl 0)) := by
          intro m h1 h2
          have a1 := h2 (F vals (cs.set pl 0)) (by simp)
          have a2 := h2 (F vals (cs.set pl 1)) (by simp)
          simp only [List.mem_cons, List.not_mem_nil, or_false] at h1
          omega
        cases hbest : ((free cs).take i).foldl (stepB fun i => 1 + max (F vals (cs.set i 1)) (F vals (cs.set i 0))) none with
        | none =>
          rw [hbest] at tk
          refine ⟨_, rfl, rfl, true, rfl, ifT rfl ?_⟩
          refine ⟨_, rfl, D, _, rfl, SqL.of r1, (by show 0 < 2; decide), fun m hm1 hm2 => ?_⟩
          refine ⟨m, 1, rfl, rfl, some (.int pl), some (.ref D), y6, y7, y8, ks4, ?_, hl4, b4, r3⟩
          rw [tk]
          show _ = [_, _, _, some (V.int (1 + max (F vals (cs.set pl 1)) (F vals (cs.set pl 0)))), _, _, _, _, _]
          rw [← mx m hm1 hm2, Int.add_comm 1 m]
          rfl
        | some b0 =>
          rw [hbest] at tk
          refine ⟨_, rfl, rfl, false, rfl, ifF rfl ?_⟩
          refine ⟨_, rfl, _, rfl, D, _, rfl, SqL.of r1, (by show 0 < 2; decide), fun m hm1 hm2 => ?_⟩
          refine ⟨m, 1, rfl, rfl, b0, m + 1, rfl, some (.int pl), some (.ref D), y6, y7, y8, ks4, ?_, hl4, b4, r3⟩
          rw [tk]
          show _ = [_, _, _, some (optV (some (if 1 + max (F vals (cs.set pl 1)) (F vals (cs.set pl 0)) < b0 then 1 + max (F vals (cs.set pl 1)) (F vals (cs.set pl 0)) else b0))), _, _, _, _, _]
          rw [← mx m hm1 hm2, Int.add_comm 1 m]
          rfl
    · obtain ⟨y4, y5, y6, y7, y8, ks', rfl, p2, p3, p4⟩ := p
      rw [elen, List.take_of_length_le (Nat.le_refl _)]
      obtain ⟨r, er, _⟩ := best_cons (f := fun i => 1 + max (F vals (cs.set i 1)) (F vals (cs.set i 0))) (l := free cs) (KD_free hd h3)
      have eF : r = F vals cs := by
        rw [F_eq, if_pos h3, er]
        rfl
      have er' : (free cs).foldl (stepB fun i => 1 + max (F vals (cs.set i 1)) (F vals (cs.set i 0))) none = some r := er
      rw [er', eF]
      obtain ⟨H3, hp, hq⟩ := fin H' ks' p3 p4
      exact ⟨_, rfl, _, rfl, _, rfl, d, H3, rfl, hp, _, rfl, hq⟩
  · refine ifT (by rw [decide_eq_false h3]; rfl) ?_
    have eF : F vals cs = 0 := by rw [F_eq, if_neg h3]
    refine ⟨_, rfl, rfl, _, rfl, ifF rfl ?_⟩
    refine ⟨(by show 0 ≤ sizeLine; decide), fun l hlN => ?_⟩
    refine ⟨l, rfl, ⟨_, SqL.of upd_same⟩, for_list (K := K) (a := l) (xs := []) (fun i σ' H' => σ' = [some (.ref v), some (.ref c), some (.ref d), some (.int 0), none, none, none, none, none] ∧ H' = upd H1 l (.lst [])) ⟨rfl, rfl⟩ (fun i σ' H' _ p => ?_) (fun i x σ' H' hx p => by simp at hx) (fun σ' H' p => ?_)⟩
    · rw [p.2]
      exact SqL.of upd_same
    · obtain ⟨rfl, rfl⟩ := p
      have s2 := same_upd (o := .lst []) hlN
      obtain ⟨H3, hp, hq⟩ := fin _ ks (But.same (s1.trans s2)) (hD1.but (But.same s2 (l := [])) (by simp))
      rw [eF] at hp hq
      exact ⟨_, rfl, _, rfl, _, rfl, d, H3, rfl, hp, _, rfl, hq⟩
end
end Kb
/-! The law's cubes, less_cube, is_cube_entry. -/
namespace Kb
open PySem PySem.Spec PyProof.Rows L2
abbrev AC := Addr × List Int
/-- a list of cubes -/
def CubsH (H : Hp) (l : Addr) (cps : List AC) : Prop := H l = some (.lst (cps.map fun p => V.ref p.1)) ∧ ∀ p ∈ cps, CubeH H p.1 p.2
theorem CubsH.same {H H' : Hp} {l : Addr} {cps : List AC} (h : CubsH H l cps) (s : Same H H') : CubsH H' l cps := ⟨s _ _ h.1, fun p hp => s _ _ (h.2 p hp)⟩
theorem cubesL_length : ∀ n, (cubesL n).length = 3 ^ n
  | 0 => rfl
  | n + 1 => by
    have ih := cubesL_length n
    unfold cubesL
    rw [List.length_flatMap, Nat.pow_succ, ← ih]
    generalize cubesL n = l
    induction l with
    | nil => rfl
    | cons x l ih2 =>
      rw [List.map_cons, List.sum_cons, ih2, List.length_cons]
      simp
      omega
theorem less_iff : ∀ (cs os : List Int), cs.length = os.length → (lessB cs os = true ↔ ∀ i (h : i < cs.length) (h2 : i < os.length), os[i] = 2 ∨ cs[i] = os[i])
  | [], [], _ => by simp [lessB]
  | [], _ :: _, h => by simp at h
  | _ :: _, [], h => by simp at h
  | x :: xs, y :: ys, h => by
    have ih := less_iff xs ys (by simpa using h)
    show ((y == 2 || x == y) && lessB xs ys) = true ↔ _
    rw [Bool.and_eq_true, ih, Bool.or_eq_true, beq_iff_eq, beq_iff_eq]
    constructor
    · rintro ⟨h1, h2⟩ i hi hi2
      cases i with
      | zero => exact h1
      | succ i => exact h2 i (by simpa using hi) (by simpa using hi2)
    · intro g
      exact ⟨g 0 (by simp) (by simp), fun i hi hi2 => g (i + 1) (by simpa using hi) (by simpa using hi2)⟩
def misL (cs os : List Int) (i : Nat) : Bool := !decide (os.getD i 0 = 2) && !decide (cs.getD i 0 = os.getD i 0)
theorem less_none {cs os : List Int} (h : cs.length = os.length) : decide ((List.range cs.length).countP (misL cs os) = 0) = lessB cs os := by
  rw [Bool.eq_iff_iff, decide_eq_true_eq, List.countP_eq_zero, less_iff cs os h]
  constructor
  · intro g i hi hi2
    have := g i (List.mem_range.mpr hi)
    unfold misL at this
    rw [List.getD_eq_getElem?_getD, List.getD_eq_getElem?_getD, List.getElem?_eq_getElem hi, List.getElem?_eq_getElem hi2] at this
    by_cases e : os[i] = 2
    · exact .inl e
    · refine .inr ?_
      simpa [e] using this
  · intro g i hi
    have hi := List.mem_range.mp hi
    have hi2 : i < os.length := by omega
    unfold misL
    rw [List.getD_eq_getElem?_getD, List.getD_eq_getElem?_getD, List.getElem?_eq_getElem hi, List.getElem?_eq_getElem hi2]
    rcases g i hi hi2 with e | e
    · simp [e]
    · simp [e]
theorem dec_int {a b : Int} : decide (V.int a = V.int b) = decide (a = b) := by
  rw [Bool.eq_iff_iff, decide_eq_true_eq, decide_eq_true_eq]
  exact ⟨V.int.inj, fun z => by rw [z]⟩
section
variable {P : Program} {w : World} {K : PySem.W.Frag} {mg : Str → Option Value} {base : Heap}
/-! ### _law_cubes -/
theorem scCubes : FnScope ["_law_count", "_law_found", "_law_step", "_law_longer", "_law_cube", "_law_told"] ["_law_count"] (defScope s_cubes) := ⟨rfl, rfl, rfl, by decide +kernel, rfl, by decide +kernel, by decide +kernel⟩
def spCubes : Sp := fun vs H Q _ => ∃ n : Nat, vs = [.int n] ∧ (n = 2 ∨ n = 3) ∧ ∀ l cps H', H l = none → Same H H' → CubsH H' l cps → cps.map (·.2) = cubesL n → Q (.ref l) H'
theorem ok_cubes {f : Addr} {fd : FuncData} (F0 : Fun K "_law_cubes" "_law_cubes" s_cubes f fd) (mr : mg "range" = none) (mL : mg "list" = none) : FnOk P w K mg base CX0 1 f fd ["_law_count"] spCubes := by
  refine F0.ok scCubes (fun vs H Q E h => ?_) (fun cdv A outer s H vs Q E hr h => ?_)
  · obtain ⟨n, rfl, _⟩ := h
    rfl
  obtain ⟨n, rfl, hn, q⟩ := h
  have nd := scCubes.nd
  refine ⟨_, pss_cons (ps_set (i := 1) nd rfl (.inl rfl) (pe_lst (pa_cons (pe_tup pa_nil) pa_nil)))
    (pss_cons (ps_for PassesOwn.never rfl (pi_range1 (by rfl) mr (pa_cons (pv 0) pa_nil)) (pg_name (i := 2) nd rfl (.inl rfl))
      (pss_cons (ps_set (i := 3) nd rfl (.inl rfl) (pe_lst pa_nil))
      (pss_cons (ps_for PassesOwn.never rfl (pi_list (pv 1)) (pg_name (i := 4) nd rfl (.inr rfl))
        (pss_one (ps_set (i := 3) nd rfl (.inl rfl) (pe_op op_cat (pv 3) (pe_lc (own := [("_law_told", 5)]) (g := gName 5) (tt := tYes) rfl nd (pi_range1 (by rfl) mr (pa_cons pe_int pa_nil))
            (blkOk_by (N := ["_law_count", "_law_found", "_law_step", "_law_longer", "_law_cube", "_law_told"]) (sc := defScope s_cubes) (by decide +kernel)) (fun _ _ _ _ _ => pg_name (i := 5) nd rfl (Or.inl rfl) (Or.inr rfl)) (fun _ _ _ _ _ => pts_nil)
            (fun _ _ _ _ _ => pe_op op_catS (pv 4) (pe_tup (pa_cons (pv 5) pa_nil))))))))
      (pss_one (ps_set (i := 1) nd rfl (.inl rfl) (pe_callTy call_list_of (by rfl) mL (by decide +kernel) (pa_cons (pv 3) pa_nil)))))))
    (pss_one (ps_ret (pv 1)))), ?_⟩
  refine ⟨(by show 0 ≤ sizeLine; decide), fun t0 ht0 => ⟨(by show 1 ≤ sizeLine; decide), fun l0 hl0 => ?_⟩⟩
  have s0 := same_upd (o := .tup []) ht0
  have s1 := same_upd (o := .lst [.ref t0]) hl0
  have hl0H : H l0 = none := by
    cases hz : H l0 with
    | none => rfl
    | some u => rw [s0 _ _ hz] at hl0; cases hl0
  refine ⟨_, rfl, (n : Int), rfl, by omega, by omega, ?_⟩
  rw [Int.toNat_natCast]
  refine for_range (lo := 0) (n := n) (fun i σ' H' => ∃ y2 y3 y4 y5 lf cps, σ' = [some (.int n), some (.ref lf), y2, y3, y4, y5] ∧ Same H H' ∧ H lf = none ∧ CubsH H' lf cps ∧ cps.map (·.2) = cubesL i)
    ⟨_, _, _, _, l0, [(t0, [])], rfl, s0.trans s1, hl0H, ⟨upd_same, fun p hp => ?_⟩, rfl⟩ (fun i σ' H' hi p => ?_) (fun σ' H' p => ?_)
  · have : p = (t0, []) := by simpa using hp
    subst this
    exact s1 _ _ upd_same
  · obtain ⟨y2, y3, y4, y5, lf, cps, rfl, p1, p2, p3, p4⟩ := p
    refine ⟨(by show 0 ≤ sizeLine; decide), fun lg hlg => ?_⟩
    have s2 := same_upd (o := .lst []) hlg
    have hcl : cps.length = 3 ^ i := by
      have := congrArg List.length p4
      rw [List.length_map, cubesL_length] at this
      exact this
    have h9 : 3 ^ i ≤ 3 ^ 2 := Nat.pow_le_pow_right (by decide) (by omega)
    have hlgH : H lg = none := by
      cases hz : H lg with
      | none => rfl
      | some u => rw [p1 _ _ hz] at hlg; cases hlg
    refine ⟨_, rfl, lf, rfl, ⟨_, SqL.of (s2 _ _ p3.1)⟩, for_list (K := K) (a := lf) (xs := cps.map fun p => V.ref p.1) (fun j σ2 H2 => ∃ z4 z5 lg acc, σ2 = [some (.int n), some (.ref lf), some (.int (0 + (i : Nat))), some (.ref lg), z4, z5] ∧ Same H' H2 ∧ CubsH H2 lg acc ∧ acc.map (·.2) = ((cubesL i).take j).flatMap (fun c => [0, 1, 2].map fun x => c ++ [x]) ∧ acc.length = 3 * j)
      ⟨_, _, lg, [], rfl, s2, ⟨upd_same, (fun p hp => absurd hp (by simp))⟩, rfl, rfl⟩ (fun j σ2 H2 _ r => ?_) (fun j x σ2 H2 hx r => ?_) (fun σ2 H2 r => ?_)⟩
    · obtain ⟨_, _, _, _, _, r1, _⟩ := r
      exact SqL.of (r1 _ _ p3.1)
    · obtain ⟨z4, z5, lg, acc, rfl, r1, r2, r3, r4⟩ := r
      rw [List.getElem?_map] at hx
      obtain ⟨⟨c, cs⟩, hcp, rfl⟩ := Option.map_eq_some_iff.mp hx
      have hj := (List.getElem?_eq_some_iff.mp hcp).1
      have hc : CubeH H2 c cs := r1 _ _ (p3.2 _ (List.mem_of_getElem? hcp))
      have hcs : (cubesL i)[j]? = some cs := by
        rw [← p4, List.getElem?_map, hcp]
        rfl
      have hcl3 : cs.length = i := (of_cubesL (List.mem_of_getElem? hcs)).1
      refine ⟨_, rfl, 3, rfl, by decide, by decide, fun D hD => ?_⟩
      refine lc_it (walk_range (lo := 0) (n := 3)) (fun k H3 => ∃ qs : List AC, Same H2 H3 ∧ H3 D = some (.lst (qs.map fun p => V.ref p.1)) ∧ (∀ p ∈ qs, CubeH H3 p.1 p.2) ∧ qs.map (·.2) = (([0, 1, 2] : List Int).take k).map (fun x => cs ++ [x])) ⟨[], same_upd hD, upd_same, (fun p hp => absurd hp (by simp)), rfl⟩ (fun _ _ _ _ => trivial) (fun k x H3 H4 hk r' y => ?_) (fun H3 r' => ?_)
      · obtain ⟨e0, rfl⟩ := y
        subst e0
        obtain ⟨qs, g1, g2, g3, g4⟩ := r'
        refine ⟨rfl, ?_⟩
        refine ⟨_, rfl, _, rfl, (by show 1 ≤ sizeLine; decide), fun t ht => ?_⟩
        have sT := same_upd (o := .tup [.int (0 + (k : Nat))]) ht
        refine ⟨c, t, _, _, rfl, rfl, sT _ _ (g1 _ _ hc), upd_same, ?_, fun p H5 s5 e5 => ?_⟩
        · rw [List.length_map]
          simp
          omega
        · have e5' : CubeH H5 p (cs ++ [(k : Int)]) := by
            show H5 p = _
            rw [e5, List.map_append]
            show some (HO.tup (cs.map V.int ++ [V.int (0 + (k : Int))])) = _
            rw [Int.zero_add]
            rfl
          have gD : H5 D = some (.lst (qs.map fun p => V.ref p.1)) := s5 _ _ (sT _ _ g2)
          have hpD : p ≠ D := by
            intro z
            subst z
            rw [gD] at e5
            cases e5
          refine ⟨_, gD, ?_, qs ++ [(p, cs ++ [(k : Int)])], fun b u eb => ?_, ?_, fun p' hp' => ?_, ?_⟩
          · have := congrArg List.length g4
            rw [List.length_map, List.length_map, List.length_take] at this
            rw [List.length_map, this]
            exact small1000 (by simp; omega)
          · rw [upd_ne (fun e => by rw [e, hD] at eb; cases eb)]
            exact s5 _ _ (sT _ _ (g1 _ _ eb))
          · rw [upd_same, List.map_append]
            rfl
          · rcases List.mem_append.mp hp' with z | z
            · have h1 := s5 _ _ (sT _ _ (g3 p' z))
              show (upd H5 D _) p'.1 = _
              rw [upd_ne (fun e => by rw [e, gD] at h1; cases h1)]
              exact h1
            · have : p' = (p, cs ++ [(k : Int)]) := by simpa using z
              subst this
              show (upd H5 D _) p = _
              rw [upd_ne hpD]
              exact e5'
          · have hk3 : (([0, 1, 2] : List Int))[k]? = some (k : Int) := by
              match k, hk with
              | 0, _ => rfl
              | 1, _ => rfl
              | 2, _ => rfl
            rw [List.map_append, g4, List.take_add_one, hk3, List.map_append]
            rfl
      · obtain ⟨qs, g1, g2, g3, g4⟩ := r'
        have g4 : qs.map (·.2) = [0, 1, 2].map fun x => cs ++ [x] := g4
        have hql : qs.length = 3 := by
          have := congrArg List.length g4
          simpa using this
        refine ⟨lg, D, _, _, rfl, rfl, g1 _ _ r2.1, g2, ?_, fun lN hlN => ?_⟩
        · rw [List.length_map, List.length_map, r4, hql]
          exact small_size (by omega)
        · have sN := same_upd (o := .lst ((acc.map fun p => V.ref p.1) ++ (qs.map fun p => V.ref p.1))) hlN
          refine ⟨some (.ref c), z5, lN, acc ++ qs, rfl, r1.trans (g1.trans sN), ⟨?_, fun p hp => ?_⟩, ?_, ?_⟩
          · rw [upd_same, List.map_append]
          · rcases List.mem_append.mp hp with z | z
            · exact sN _ _ (g1 _ _ (r2.2 p z))
            · exact sN _ _ (g3 p z)
          · rw [List.map_append, r3, g4, List.take_add_one, hcs, List.flatMap_append]
            congr 1
          · rw [List.length_append, r4, hql]
            omega
    · obtain ⟨z4, z5, lg, acc, rfl, r1, r2, r3, r4⟩ := r
      refine ⟨_, rfl, lg, _, rfl, .inl (SqL.of r2.1), fun lN hlN => ?_⟩
      have sN := same_upd (o := .lst (acc.map fun p => V.ref p.1)) hlN
      have hlNH : H lN = none := by
        cases hz : H lN with
        | none => rfl
        | some u => rw [r1 _ _ (p1 _ _ hz)] at hlN; cases hlN
      refine ⟨some (.int (0 + (i : Nat))), some (.ref lg), z4, z5, lN, acc, rfl, p1.trans (r1.trans sN), hlNH, ⟨upd_same, fun p hp => sN _ _ (r2.2 p hp)⟩, ?_⟩
      rw [r3, List.length_map, hcl, ← cubesL_length, List.take_of_length_le (Nat.le_refl _)]
      rfl
  · obtain ⟨y2, y3, y4, y5, lf, cps, rfl, p1, p2, p3, p4⟩ := p
    exact ⟨_, rfl, q lf cps H' p2 p1 p3 p4⟩
/-! ### _law_less_cube -/
theorem scLess : FnScope ["_law_cube", "_law_other", "_law_told", "_law_wide"] ["_law_cube", "_law_other"] (defScope s_less_cube) := ⟨rfl, rfl, rfl, by decide +kernel, rfl, by decide +kernel, by decide +kernel⟩
def spLess : Sp := fun vs H Q _ => ∃ (c d : Addr) (cs os : List Int), vs = [.ref c, .ref d] ∧ CubeH H c cs ∧ CubeH H d os ∧ cs.length = os.length ∧ cs.length ≤ 10 ∧ ∀ H', Same H H' → Q (.bl (lessB cs os)) H'
theorem ok_less {f : Addr} {fd : FuncData} (F0 : Fun K "_law_less_cube" "_law_less_cube" s_less_cube f fd) (mz : mg "zip" = none) : FnOk P w K mg base CX0 1 f fd ["_law_cube", "_law_other"] spLess := by
  refine F0.ok scLess (fun vs H Q E h => ?_) (fun cdv A outer s H vs Q E hr h => ?_)
  · obtain ⟨c, d, cs, os, rfl, _⟩ := h
    rfl
  obtain ⟨c, d, cs, os, rfl, hc, hd, hle, hl, q⟩ := h
  have nd := scLess.nd
  have hu64 := hu_room64 hr
  refine ⟨_, pss_one (ps_ret (pe_cmpR (op_eqNil hu64) (pe_lc (own := [("_law_told", 2), ("_law_wide", 3)]) (g := g2 K 2 3) rfl nd
      (RZ.pi_zipA (by rfl) mz (pa_cons (pv 0) (pa_cons (pv 1) pa_nil))) (blkOk_by (N := ["_law_cube", "_law_other", "_law_told", "_law_wide"]) (sc := defScope s_less_cube) (by decide +kernel))
      (fun _ _ _ _ _ => pg_tup rfl (pgs_cons (pg_name (i := 2) nd rfl (Or.inl rfl) (Or.inr rfl)) (pgs_cons (pg_name (i := 3) nd rfl (Or.inl rfl) (Or.inr rfl)) pgs_nil)))
      (fun _ _ _ _ _ => pts_one (PW.pt (pw_and (pt_cmpR op_ne (pv 3) pe_int (nomark _)) (pw_and1 (pt_cmpR op_ne (pv 2) (pv 3) (nomark _)))))) (fun _ _ _ _ _ => pe_int)) (pe_lst pa_nil) (nomark _))), ?_⟩
  have hlm : (cs.map V.int).length = cs.length := List.length_map _
  have hom : (os.map V.int).length = os.length := List.length_map _
  refine ⟨_, rfl, _, rfl, c, d, _, _, rfl, .inr ⟨sqt hc, sqt hd, ?_⟩⟩
  refine fun D hD => lc_ones (walk_zipT (n := cs.length) (by rw [hlm, hom]; omega)) (misL cs os) hD (by omega) (fun H' s' => ⟨sqt (s' _ _ hc), sqt (s' _ _ hd)⟩) (fun i v Ha Hb hi s' y' Cont hC => ?_) (fun H' s' e' => ?_)
  · obtain ⟨T, x1, x2, rfl, nT, rfl, hx1, hx2⟩ := y'
    have hi2 : i < os.length := by omega
    have hx1 : (cs.map V.int)[i]? = some x1 := hx1
    have hx2 : (os.map V.int)[i]? = some x2 := hx2
    rw [int_at hi] at hx1
    rw [int_at hi2] at hx2
    cases hx1
    cases hx2
    have sT := same_upd (o := .tup [.int cs[i], .int os[i]]) nT
    refine ⟨T, _, rfl, sqt upd_same, rfl, _, _, rfl, _, _, rfl, rfl, rfl, ?_⟩
    have hgd : cs.getD i 0 = cs[i] := by rw [List.getD_eq_getElem?_getD, List.getElem?_eq_getElem hi] <;> rfl
    have hgo : os.getD i 0 = os[i] := by rw [List.getD_eq_getElem?_getD, List.getElem?_eq_getElem hi2] <;> rfl
    have hC' := hC _ sT
    unfold misL at hC'
    rw [hgd, hgo] at hC'
    refine ⟨_, rfl, rfl, _, rfl, ?_⟩
    by_cases g1 : os[i] = 2
    · refine ifF (by rw [decide_eq_true (by rw [g1])]; rfl) ?_
      rw [decide_eq_true g1] at hC'
      exact hC'
    · refine ifT (by rw [decide_eq_false (fun z => g1 (V.int.inj z))]; rfl) ?_
      refine ⟨_, rfl, _, rfl, rfl, _, rfl, ?_⟩
      rw [decide_eq_false g1] at hC'
      rw [← dec_int (a := cs[i]) (b := os[i])] at hC'
      exact hC'
  · refine ⟨(by show 0 ≤ sizeLine; decide), fun t ht => ?_⟩
    have sT := same_upd (o := .lst []) ht
    refine ⟨D, t, _, rfl, rfl, SqL.of (by rw [← rep_int]; exact sT _ _ e'), SqL.of upd_same, ?_⟩
    have := q _ (s'.trans sT)
    rw [← less_none hle, ← isE_rep] at this
    exact this
/-! ### _law_is_cube_entry -/
theorem scLE : FnScope ["_law_count", "_law_told", "_law_one"] ["_law_count", "_law_told"] (defScope s_l_is_entry) := ⟨rfl, rfl, rfl, by decide +kernel, rfl, by decide +kernel, by decide +kernel⟩
def spLE : Sp := fun vs H Q _ => ∃ (n : Nat) (r : Addr) (e : En), vs = [.int n, .ref r] ∧ EntH H r e ∧ EnOk n e ∧ Q (.bl true) H
theorem ok_LE {f : Addr} {fd : FuncData} (F0 : Fun K "_law_is_cube_entry" "_law_is_cube_entry" s_l_is_entry f fd) (mi : mg "isinstance" = none) (mI : mg "int" = none) (mB : mg "bool" = none) (mt : mg "tuple" = none) (ml : mg "len" = none) :
    FnOk P w K mg base CX0 1 f fd ["_law_count", "_law_told"] spLE := by
  refine F0.ok scLE (fun vs H Q E h => ?_) (fun cdv A outer s H vs Q E hr h => ?_)
  · obtain ⟨n, r, e, rfl, _⟩ := h
    rfl
  obtain ⟨n, r, ⟨a, cs⟩, rfl, ⟨c, he1, he2⟩, ⟨o1, o2, o3, o4⟩, q⟩ := h
  have o1 : 0 ≤ a := o1
  have o3 : cs.length = n := o3
  have o4 : Dig cs := o4
  have he1 : H r = some (.tup [.int a, .ref c]) := he1
  have he2 : H c = some (.tup (cs.map V.int)) := he2
  have nd := scLE.nd
  refine ⟨_, pss_cons (ps_if (PW.pt (pw_or (pt_not (pt_val (pe_callB cr_isB (by rfl) mi (by decide +kernel) (pa_cons (pv 1) (pa_cons (pe_bltn (v := .ty "tuple") (by rfl) mt (by decide +kernel) rfl) pa_nil)))))
        (pw_or (pt_cmpR op_ne (pe_callB call_len_seq (by rfl) ml PySem.boot_len (pa_cons (pv 1) pa_nil)) pe_int (nomark _))
        (pw_or (pt_not (pt_val (pe_callB cr_isB (by rfl) mi (by decide +kernel) (pa_cons (pe_ix ix_tup (pv 1) pe_int (fun _ _ => rfl)) (pa_cons (pe_bltn (v := .ty "int") (by rfl) mI (by decide +kernel) rfl) pa_nil)))))
        (pw_or1 (pt_val (pe_callB cr_isB (by rfl) mi (by decide +kernel) (pa_cons (pe_ix ix_tup (pv 1) pe_int (fun _ _ => rfl)) (pa_cons (pe_bltn (v := .ty "bool") (by rfl) mB (by decide +kernel) rfl) pa_nil)))))))))
      (pss_one (ps_ret pe_bl)) pss_nil)
    (pss_cons (ps_if (PW.pt (pw_or (pt_cmpR op_lt (pe_ix ix_tup (pv 1) pe_int (fun _ _ => rfl)) pe_int (nomark _))
        (pw_or (pt_not (pt_val (pe_callB cr_isB (by rfl) mi (by decide +kernel) (pa_cons (pe_ix ix_tup (pv 1) pe_int (fun _ _ => rfl)) (pa_cons (pe_bltn (v := .ty "tuple") (by rfl) mt (by decide +kernel) rfl) pa_nil)))))
        (pw_or1 (pt_cmpR op_ne (pe_callB call_len_seq (by rfl) ml PySem.boot_len (pa_cons (pe_ix ix_tup (pv 1) pe_int (fun _ _ => rfl)) pa_nil)) (pv 0) (nomark _))))))
      (pss_one (ps_ret pe_bl)) pss_nil)
    (pss_cons (ps_for PassesOwn.never rfl (pi_tup (pe_ix ix_tup (pv 1) pe_int (fun _ _ => rfl))) (pg_name (i := 2) nd rfl (.inl rfl))
      (pss_one (ps_if (PW.pt (pw_or (pt_not (pt_val (pe_callB cr_isB (by rfl) mi (by decide +kernel) (pa_cons (pv 2) (pa_cons (pe_bltn (v := .ty "int") (by rfl) mI (by decide +kernel) rfl) pa_nil)))))
        (pw_or (pt_val (pe_callB cr_isB (by rfl) mi (by decide +kernel) (pa_cons (pv 2) (pa_cons (pe_bltn (v := .ty "bool") (by rfl) mB (by decide +kernel) rfl) pa_nil))))
        (pw_or (pt_cmpR op_lt (pv 2) pe_int (nomark _)) (pw_or1 (pt_cmpR op_gt (pv 2) pe_int (nomark _))))))) (pss_one (ps_ret pe_bl)) pss_nil)))
    (pss_one (ps_ret pe_bl)))), ?_⟩
  refine ⟨_, rfl, _, "tuple", "tuple", rfl, .base (.tup he1), by decide, by decide, true, rfl, ifF rfl ?_⟩
  refine ⟨_, rfl, r, _, rfl, .inr (sqt he1), rfl, _, rfl, ifF rfl ?_⟩
  refine ⟨_, rfl, r, [.int a, .ref c], 0, .int a, rfl, rfl, sqt he1, atI_nat (j := 0) rfl, _, "int", "int", rfl, .base (.int a), by decide, by decide, true, rfl, ifF rfl ?_⟩
  refine ⟨_, rfl, r, [.int a, .ref c], 0, .int a, rfl, rfl, sqt he1, atI_nat (j := 0) rfl, _, "int", "bool", rfl, .base (.int a), by decide, by decide, false, rfl, ifF rfl ?_⟩
  refine ⟨_, rfl, r, [.int a, .ref c], 0, .int a, rfl, rfl, sqt he1, atI_nat (j := 0) rfl, _, _, rfl, rfl, _, rfl, ifF (decide_eq_false (by omega)) ?_⟩
  refine ⟨_, rfl, r, [.int a, .ref c], 1, .ref c, rfl, rfl, sqt he1, atI_nat (j := 1) rfl, _, "tuple", "tuple", rfl, .base (.tup he2), by decide, by decide, true, rfl, ifF rfl ?_⟩
  refine ⟨_, rfl, r, [.int a, .ref c], 1, .ref c, rfl, rfl, sqt he1, atI_nat (j := 1) rfl, c, _, rfl, .inr (sqt he2), _, rfl, rfl, _, rfl, ifF ?_ ?_⟩
  · rw [Bool.not_eq_false']
    exact decide_eq_true (by rw [List.length_map, o3])
  refine ⟨_, rfl, r, [.int a, .ref c], 1, .ref c, rfl, rfl, sqt he1, atI_nat (j := 1) rfl, c, rfl, ⟨_, sqt he2⟩, ?_⟩
  refine for_it (walk_tup (xs := cs.map V.int)) (fun i σ' H' => ∃ y, σ' = [some (.int n), some (.ref r), y] ∧ H' = H) ⟨_, rfl, rfl⟩ (fun i σ' H' _ p => by
    obtain ⟨_, _, e⟩ := p
    rw [e]
    exact sqt he2) (fun i x σ' H' H'' hi p y => ?_) (fun σ' H' p => ?_)
  · obtain ⟨y2, rfl, rfl⟩ := p
    obtain ⟨e0, hx⟩ := y
    subst e0
    rw [List.getElem?_map] at hx
    obtain ⟨z, hz, rfl⟩ := Option.map_eq_some_iff.mp hx
    have hz3 := o4 z (List.mem_of_getElem? hz)
    refine ⟨_, rfl, _, "int", "int", rfl, .base (.int z), by decide, by decide, true, rfl, ifF rfl ?_⟩
    refine ⟨_, rfl, _, "int", "bool", rfl, .base (.int z), by decide, by decide, false, rfl, ifF rfl ?_⟩
    refine ⟨_, rfl, _, _, rfl, rfl, _, rfl, ifF (decide_eq_false (by omega)) ?_⟩
    refine ⟨_, rfl, _, _, rfl, rfl, _, rfl, ifF (decide_eq_false (by omega)) ?_⟩
    exact ⟨_, rfl, rfl⟩
  · obtain ⟨y2, rfl, rfl⟩ := p
    exact q
end
end Kb
/-! The law's cube_stands. -/
namespace Kb
open PySem PySem.Spec PyProof.Rows L2
/-- what is held: the cubes of the entries of one level -/
def heldL (es : List En) (b : Int) : List (List Int) := (es.filter fun e => e.1 == b).map (·.2)
theorem ix_listK {X : Cx} {K : PySem.W.Frag} (e : X.K = K) : IxR X (rIxL K) := by
  subst e
  exact ix_list
theorem held_none {es : List En} {b : Int} {s0 s1 : List Int} : decide ((List.range (heldL es b).length).countP (fun i => lessB ((heldL es b).getD i []) s0 || lessB ((heldL es b).getD i []) s1) = 0) = !(WB es b s1 || WB es b s0) := by
  rw [Bool.eq_iff_iff, decide_eq_true_eq, List.countP_eq_zero, Bool.not_eq_true', Bool.or_eq_false_iff]
  have mem : ∀ o : List Int, o ∈ heldL es b ↔ ∃ e ∈ es, e.1 = b ∧ e.2 = o := fun o => by
    unfold heldL
    rw [List.mem_map]
    constructor
    · rintro ⟨e, he, rfl⟩
      obtain ⟨h1, h2⟩ := List.mem_filter.mp he
      exact ⟨e, h1, eq_of_beq h2, rfl⟩
    · rintro ⟨e, h1, h2, rfl⟩
      exact ⟨e, List.mem_filter.mpr ⟨h1, by rw [h2]; exact beq_self_eq_true _⟩, rfl⟩
  have wb : ∀ s : List Int, WB es b s = false ↔ ∀ o ∈ heldL es b, lessB o s = false := fun s => by
    unfold WB
    rw [List.any_eq_false]
    constructor
    · intro h o ho
      obtain ⟨e, h1, h2, rfl⟩ := (mem o).mp ho
      have := h e h1
      rw [h2, beq_self_eq_true, Bool.true_and, Bool.not_eq_true] at this
      exact this
    · intro h e he
      by_cases hb : e.1 = b
      · rw [h e.2 ((mem e.2).mpr ⟨e, he, hb, rfl⟩), Bool.and_false]
        exact Bool.false_ne_true
      · have : (e.1 == b) = false := beq_eq_false_iff_ne.mpr hb
        rw [this, Bool.false_and]
        exact Bool.false_ne_true
  rw [wb, wb]
  constructor
  · intro h
    have g : ∀ o ∈ heldL es b, lessB o s0 = false ∧ lessB o s1 = false := fun o ho => by
      obtain ⟨i, hi, rfl⟩ := List.getElem_of_mem ho
      have := h i (List.mem_range.mpr hi)
      rw [List.getD_eq_getElem?_getD, List.getElem?_eq_getElem hi, Option.getD_some, Bool.not_eq_true, Bool.or_eq_false_iff] at this
      exact this
    exact ⟨fun o ho => (g o ho).2, fun o ho => (g o ho).1⟩
  · rintro ⟨h1, h0⟩ i hi
    have hi := List.mem_range.mp hi
    rw [List.getD_eq_getElem?_getD, List.getElem?_eq_getElem hi, Option.getD_some, h0 _ (List.getElem_mem hi), h1 _ (List.getElem_mem hi)]
    exact Bool.false_ne_true
section
variable {P : Program} {w : World} {K : PySem.W.Frag} {mg : Str → Option Value} {base : Heap}
theorem scLS : FnScope ["_law_worths_here", "_law_told", "_law_entry", "_law_level", "_law_cube", "_law_held", "_law_free", "_law_place", "_law_sides", "_law_one", "_law_spot", "_law_bit"] ["_law_worths_here", "_law_told", "_law_entry"] (defScope s_cube_stands) := ⟨rfl, rfl, rfl, by decide +kernel, rfl, by decide +kernel, by decide +kernel⟩
def spLS : Sp := fun vs H Q _ => ∃ (v t r : Addr) (vals : List Int) (n : Nat) (ks : List AE) (e : En), vs = [.ref v, .ref t, .ref r] ∧ (n = 2 ∨ n = 3) ∧ ValsH H v vals n ∧ BookH H t ks ∧ (∀ k ∈ ks, EnOk n k.2) ∧ ks.length ≤ 63 ∧ EntH H r e ∧ EnOk n e ∧
  ∀ H', Same H H' → Q (.bl (StB vals (ents ks) e)) H'
theorem ok_LS {f f1 f2 f3 : Addr} {fd fd1 fd2 fd3 : FuncData} (F0 : Fun K "_law_cube_stands" "_law_cube_stands" s_cube_stands f fd)
    (G1 : FnOk P w K mg base CX0 1 f1 fd1 ["_law_cube", "_law_place", "_law_bit"] spHalf) (b1 : Binds K fd1 ["_law_cube", "_law_place", "_law_bit"] []) (k1 : PySem.W.keepIn K (.ref f1) = true) (m1 : mg "_law_half" = some (.ref f1))
    (G2 : FnOk P w K mg base CX0 4 f2 fd2 ["_law_worths_here", "_law_cube"] spBoth) (b2 : Binds K fd2 ["_law_worths_here", "_law_cube"] []) (k2 : PySem.W.keepIn K (.ref f2) = true) (m2 : mg "_law_is_both" = some (.ref f2))
    (G3 : FnOk P w K mg base CX0 1 f3 fd3 ["_law_cube", "_law_other"] spLess) (b3 : Binds K fd3 ["_law_cube", "_law_other"] []) (k3 : PySem.W.keepIn K (.ref f3) = true) (m3 : mg "_law_less_cube" = some (.ref f3))
    (me : mg "enumerate" = none) : FnOk P w K mg base CX0 5 f fd ["_law_worths_here", "_law_told", "_law_entry"] spLS := by
  refine F0.ok scLS (fun vs H Q E h => ?_) (fun cdv A outer s H vs Q E hr h => ?_)
  · obtain ⟨v, t, r, vals, n, ks, e, rfl, _⟩ := h
    rfl
  obtain ⟨v, t, r, vals, n, ks, ⟨a, cs⟩, rfl, hn, hv, hB, hO, hL, ⟨c, he1, he2⟩, ⟨o1, o2, o3, o4⟩, q⟩ := h
  have o1 : 0 ≤ a := o1
  have o3 : cs.length = n := o3
  have o4 : Dig cs := o4
  have he1 : H r = some (.tup [.int a, .ref c]) := he1
  have hc : CubeH H c cs := he2
  have nd := scLS.nd
  have hu64 := hu_room64 hr
  have bk : ∀ {scope : Scope} {own : List (Str × Nat)}, blkC ["_law_worths_here", "_law_told", "_law_entry", "_law_level", "_law_cube", "_law_held", "_law_free", "_law_place", "_law_sides", "_law_one", "_law_spot", "_law_bit"] (defScope s_cube_stands) scope own = true → BlkOk ["_law_worths_here", "_law_told", "_law_entry", "_law_level", "_law_cube", "_law_held", "_law_free", "_law_place", "_law_sides", "_law_one", "_law_spot", "_law_bit"] (defScope s_cube_stands) scope own := fun h => blkOk_by h
  refine ⟨_, pss_cons (ps_asg (pv 2) (pg_tup rfl (pgs_cons (pg_name (i := 3) nd rfl (.inr rfl)) (pgs_cons (pg_name (i := 4) nd rfl (.inr rfl)) pgs_nil))))
    (pss_cons (ps_if (pt_cmpR op_eq (pv 3) pe_int (nomark _)) (pss_one (ps_ret (pe_call G2 hr (by rfl) m2 k2 b2 .nil pass0 (pa_cons (pv 0) (pa_cons (pv 4) pa_nil))))) pss_nil)
    (pss_cons (ps_par (i := 5) (j := 6) rfl nd rfl rfl (by decide) rfl rfl
        (pa_cons (pe_lc (own := [("_law_one", 9)]) (g := gName 9) rfl nd (pi_tup (pv 1)) (bk (by decide +kernel)) (fun _ _ _ _ _ => pg_name (i := 9) nd rfl (Or.inl rfl) (Or.inr rfl))
            (fun _ _ _ _ _ => pts_one (pt_cmpR op_eq (pe_ix (ix_tupK (K := K) rfl) (pv 9) pe_int (fun _ _ => rfl)) (pe_op op_sub (pv 3) pe_int) (nomark _))) (fun _ _ _ _ _ => pe_ix (ix_tupK (K := K) rfl) (pv 9) pe_int (fun _ _ => rfl)))
        (pa_cons (pe_lc (own := [("_law_spot", 10), ("_law_one", 9)]) (g := g2 K 10 9) rfl nd (pi_enumT (by rfl) me (pa_cons (pv 4) pa_nil)) (bk (by decide +kernel))
            (fun _ _ _ _ _ => pg_tup rfl (pgs_cons (pg_name (i := 10) nd rfl (Or.inl rfl) (Or.inr rfl)) (pgs_cons (pg_name (i := 9) nd rfl (Or.inl rfl) (Or.inr rfl)) pgs_nil)))
            (fun _ _ _ _ _ => pts_one (pt_cmpR op_eq (pv 9) pe_int (nomark _))) (fun _ _ _ _ _ => pv 10)) pa_nil)) (by rfl))
    (pss_cons (ps_for PassesOwn.never rfl (pi_list (pv 6)) (pg_name (i := 7) nd rfl (.inr rfl))
      (pss_cons (ps_set (i := 8) nd rfl (.inr rfl) (pe_lc (own := [("_law_bit", 11)]) (g := gName 11) (tt := tYes) rfl nd (pi_tup (pe_tup (pa_cons pe_int (pa_cons pe_int pa_nil)))) (bk (by decide +kernel))
          (fun _ _ _ _ _ => pg_name (i := 11) nd rfl (Or.inl rfl) (Or.inr rfl)) (fun _ _ _ _ _ => pts_nil)
          (fun _ _ _ _ _ => pe_call G1 (hr.mono (by decide)) (by rfl) m1 k1 b1 .nil pass0 (pa_cons (pv 4) (pa_cons (pv 7) (pa_cons (pv 11) pa_nil))))))
      (pss_one (ps_if (pt_cmpR (op_eqNil hu64) (pe_lc (own := [("_law_one", 9)]) (g := gName 9) rfl nd (pi_list (pv 5)) (bk (by decide +kernel)) (fun _ _ _ _ _ => pg_name (i := 9) nd rfl (Or.inl rfl) (Or.inr rfl))
          (fun _ _ _ _ _ => pts_one (PW.pt (pw_or (pt_val (pe_call G3 (hr.mono (by decide)) (by rfl) m3 k3 b3 .nil pass0 (pa_cons (pv 9) (pa_cons (pe_ix (ix_listK (K := K) rfl) (pv 8) pe_int (fun _ _ => rfl)) pa_nil))))
            (pw_or1 (pt_val (pe_call G3 (hr.mono (by decide)) (by rfl) m3 k3 b3 .nil pass0 (pa_cons (pv 9) (pa_cons (pe_ix (ix_listK (K := K) rfl) (pv 8) pe_int (fun _ _ => rfl)) pa_nil)))))))) (fun _ _ _ _ _ => pe_int)) (pe_lst pa_nil) (nomark _)) (pss_one (ps_ret pe_bl)) pss_nil))))
    (pss_one (ps_ret (pe_cmpR (op_neNil hu64) (pv 6) (pe_lst pa_nil) (nomark _))))))), ?_⟩
  refine ⟨_, rfl, r, _, rfl, sqt he1, rfl, _, _, rfl, _, _, rfl, rfl, ?_⟩
  refine ⟨_, rfl, rfl, _, rfl, if2 (fun h0 => ?_) (fun h0 => ?_)⟩
  · have ea : a = 0 := V.int.inj (of_decide_eq_true h0)
    refine ⟨_, rfl, _, rfl, v, c, vals, cs, n, rfl, hn, hv, hc, o3, fun H1 s1 => ?_⟩
    have es0 : StB vals (ents ks) (a, cs) = decide (KD vals cs = 3) := by
      unfold StB
      rw [if_pos ea, Bool.eq_iff_iff, decide_eq_true_eq, beq_iff_eq]
    have := q H1 s1
    rw [es0] at this
    exact this
  have na : ¬ a = 0 := fun z => of_decide_eq_false h0 (by rw [z])
  have eS : StB vals (ents ks) (a, cs) = (((free cs).all fun i => WB (ents ks) (a - 1) (cs.set i 1) || WB (ents ks) (a - 1) (cs.set i 0)) && !(free cs).isEmpty) := by
    unfold StB
    rw [if_neg (show ¬ (a, cs).1 = 0 from na)]
  have hkm : (ks.map fun k => V.ref k.1).length = ks.length := List.length_map _
  have hlm : (cs.map V.int).length = cs.length := List.length_map _
  -- held
  refine ⟨_, rfl, t, rfl, ⟨_, sqt hB.1⟩, fun D1 hD1 => ?_⟩
  refine lc_it (walk_tup (xs := ks.map fun k => V.ref k.1)) (fun i H' => Same H H' ∧ ∃ hs : List AC, H' D1 = some (.lst (hs.map fun p => V.ref p.1)) ∧ (∀ p ∈ hs, CubeH H' p.1 p.2) ∧ hs.map (·.2) = heldL ((ents ks).take i) (a - 1) ∧ hs.length ≤ i)
    ⟨same_upd hD1, [], upd_same, (fun p hp => absurd hp (by simp)), rfl, Nat.le_refl _⟩ (fun i H' _ p => sqt (p.1 _ _ hB.1)) (fun i x H' H'' hi p y => ?_) (fun H1 p1 => ?_)
  · obtain ⟨e0, hx⟩ := y
    subst e0
    obtain ⟨p1, hs, p2, p3, p4, p5⟩ := p
    obtain ⟨r1, rfl, ⟨c1, hr1, hr2⟩, hik⟩ := book_at (hB.keep (same_tup p1)) hx
    have hil : i < (ents ks).length := by rw [List.length_map]; exact hik
    have tk : heldL ((ents ks).take (i + 1)) (a - 1) = heldL ((ents ks).take i) (a - 1) ++ (if ((enAt (ents ks) i).1 == a - 1) = true then [(enAt (ents ks) i).2] else []) := by
      unfold heldL
      rw [List.take_add_one, List.getElem?_eq_getElem hil, List.filter_append, List.map_append, enAt_get hil]
      congr 1
      show List.map _ (List.filter _ [(ents ks)[i]]) = _
      rw [List.filter_cons]
      split <;> rfl
    refine ⟨rfl, _, rfl, r1, [.int (enAt (ents ks) i).1, .ref c1], 0, _, rfl, rfl, sqt hr1, atI_nat (j := 0) rfl, _, rfl, _, _, rfl, rfl, rfl, _, rfl, ?_⟩
    by_cases e : (enAt (ents ks) i).1 = a - 1
    · refine ifT (decide_eq_true (by rw [e])) ?_
      refine ⟨_, rfl, r1, [.int (enAt (ents ks) i).1, .ref c1], 1, .ref c1, rfl, rfl, sqt hr1, atI_nat (j := 1) rfl, _, p2, ?_, fun b u eb => ?_, hs ++ [(c1, (enAt (ents ks) i).2)], ?_, fun p hp => ?_, ?_, ?_⟩
      · rw [List.length_map]
        exact small1000 (by omega)
      · rw [upd_ne (fun e => by rw [e, hD1] at eb; cases eb)]
        exact p1 _ _ eb
      · rw [upd_same, List.map_append]
        rfl
      · have kt : ∀ z zs, H'' z = some (.tup zs) → (upd H'' D1 (.lst ((hs.map fun p => V.ref p.1) ++ [.ref c1]))) z = some (.tup zs) := fun z zs ez => by
          rw [upd_ne (fun e => by rw [e, p2] at ez; cases ez)]
          exact ez
        rcases List.mem_append.mp hp with z | z
        · exact kt _ _ (p3 p z)
        · have : p = (c1, (enAt (ents ks) i).2) := by simpa using z
          subst this
          exact kt _ _ hr2
      · rw [List.map_append, p4, tk, if_pos (by rw [e]; exact beq_self_eq_true _)]
        rfl
      · rw [List.length_append]
        exact Nat.succ_le_succ p5
    · refine ifF (decide_eq_false fun z => e (V.int.inj z)) ?_
      refine ⟨p1, hs, p2, p3, ?_, Nat.le_succ_of_le p5⟩
      rw [tk, if_neg (fun z => e (eq_of_beq z)), List.append_nil]
      exact p4
  obtain ⟨s1, hs, e1, hsC, hsE, hsl⟩ := p1
  rw [hkm] at hsl
  rw [hkm, List.take_of_length_le (by rw [List.length_map]; exact Nat.le_refl _)] at hsE
  -- free
  refine ⟨_, rfl, c, _, rfl, sqt (s1 _ _ hc), fun D2 hD2 => ?_⟩
  refine lc_it (walk_enumT (xs := cs.map V.int)) (fun i H' => Same H1 H' ∧ H' D2 = some (.lst ((freeFrom 0 (cs.take i)).map fun i : Nat => V.int i))) ⟨same_upd hD2, upd_same⟩ (fun i H' _ p => sqt (p.1 _ _ (s1 _ _ hc))) (fun i x Ha Hb hi p y => ?_) (fun H2 p => ?_)
  · have hi' : i < cs.length := by omega
    obtain ⟨T, rfl, nT, rfl⟩ := enum_ints hi' y
    have sT := same_upd (o := .tup [.int (i : Nat), .int cs[i]]) nT
    have hDT : D2 ≠ T := ne_of_none p.2 nT
    refine ⟨T, _, rfl, sqt upd_same, rfl, _, _, rfl, _, _, rfl, rfl, rfl, ?_⟩
    refine ⟨_, rfl, rfl, _, rfl, ?_⟩
    have tk := free_take (List.getElem?_eq_getElem hi')
    by_cases e : cs[i] = 2
    · refine ifT (decide_eq_true (by rw [e])) ?_
      refine ⟨_, rfl, _, by rw [upd_ne hDT]; exact p.2, ?_, fun b z eb => ?_, ?_⟩
      · rw [List.length_map]
        exact small1000 (Nat.le_trans (freeFrom_len _ _) (by rw [List.length_take]; omega))
      · rw [upd_ne (fun e => by rw [e, hD2] at eb; cases eb)]
        exact sT _ _ (p.1 _ _ eb)
      · rw [upd_same, tk, if_pos e, List.map_append]
        rfl
    · refine ifF (decide_eq_false fun z => e (V.int.inj z)) ?_
      refine ⟨p.1.trans sT, ?_⟩
      rw [upd_ne hDT, p.2, tk, if_neg e, List.append_nil]
  obtain ⟨s2, e2⟩ := p
  rw [hlm, List.take_length] at e2
  have e2 : H2 D2 = some (.lst ((free cs).map fun i : Nat => V.int i)) := e2
  have elen : ((free cs).map fun i : Nat => V.int i).length = (free cs).length := List.length_map _
  refine ⟨_, _, rfl, ?_⟩
  refine ⟨_, rfl, D2, rfl, ⟨_, SqL.of e2⟩, for_list (K := K) (a := D2) (xs := (free cs).map fun i : Nat => V.int i) (fun i σ' H' => ∃ y7 y8 y9 y10 y11, σ' = [some (.ref v), some (.ref t), some (.ref r), some (.int a), some (.ref c), some (.ref D1), some (.ref D2), y7, y8, y9, y10, y11] ∧ Same H2 H' ∧
      ∀ k ∈ (free cs).take i, (WB (ents ks) (a - 1) (cs.set k 1) || WB (ents ks) (a - 1) (cs.set k 0)) = true)
    ⟨_, _, _, _, _, rfl, fun _ _ h => h, fun k hk => by simp at hk⟩ (fun i σ' H' _ p => ?_) (fun i x σ' H' hx p => ?_) (fun σ' H' p => ?_)⟩
  · obtain ⟨_, _, _, _, _, _, p2, _⟩ := p
    exact SqL.of (p2 _ _ e2)
  · obtain ⟨y7, y8, y9, y10, y11, rfl, p2, p3⟩ := p
    rw [List.getElem?_map] at hx
    obtain ⟨pl, hpl, rfl⟩ := Option.map_eq_some_iff.mp hx
    have hmem : pl ∈ free cs := List.mem_of_getElem? hpl
    have tk : ∀ k ∈ (free cs).take (i + 1), k ∈ (free cs).take i ∨ k = pl := by
      intro k hk
      rw [List.take_add_one, hpl] at hk
      rcases List.mem_append.mp hk with z | z
      · exact .inl z
      · exact .inr (by simpa using z)
    have sH : Same H H' := s1.trans (s2.trans p2)
    refine ⟨(by show 2 ≤ sizeLine; decide), fun t3 ht3 => ⟨t3, rfl, ⟨_, sqt upd_same⟩, fun D3 hD3 => ?_⟩⟩
    have sT := same_upd (o := .tup [.int 0, .int 1]) ht3
    have et : (upd H' t3 (.tup [.int 0, .int 1])) t3 = some (.tup [.int 0, .int 1]) := upd_same
    generalize upd H' t3 (.tup [.int 0, .int 1]) = H3 at sT et hD3 ⊢
    refine lc_it (walk_tup (xs := [.int 0, .int 1])) (fun i H4 => Same H3 H4 ∧ ∃ sd : List AC, H4 D3 = some (.lst (sd.map fun p => V.ref p.1)) ∧ (∀ p ∈ sd, CubeH H4 p.1 p.2) ∧ sd.map (·.2) = (([0, 1] : List Int).take i).map fun b => cs.set pl b) ⟨same_upd hD3, [], upd_same, (fun p hp => absurd hp (by simp)), rfl⟩
      (fun i H4 _ r => sqt (r.1 _ _ et)) (fun i x H4 H5 hi r' y => ?_) (fun H4 r' => ?_)
    · obtain ⟨e0, hx⟩ := y
      subst e0
      obtain ⟨g1, sd, g2, g3, g4⟩ := r'
      have hb : ∃ b : Int, x = .int b ∧ (([0, 1] : List Int))[i]? = some b := by
        match i, hi, hx with
        | 0, _, hx => exact ⟨0, (Option.some.inj hx).symm, rfl⟩
        | 1, _, hx => exact ⟨1, (Option.some.inj hx).symm, rfl⟩
        | (i + 2), hi, _ => exact absurd hi (by show ¬ (i + 2 < 2); omega)
      obtain ⟨b, rfl, hbi⟩ := hb
      refine ⟨rfl, _, rfl, _, rfl, _, rfl, c, cs, pl, b, rfl, g1 _ _ (sT _ _ (sH _ _ hc)), free_lt hmem, by omega, fun p6 H6 s6 e6 => ?_⟩
      have gD := s6 _ _ g2
      have kt : ∀ z zs, H6 z = some (.tup zs) → (upd H6 D3 (.lst ((sd.map fun p => V.ref p.1) ++ [.ref p6]))) z = some (.tup zs) := fun z zs ez => by
        rw [upd_ne (fun e => by rw [e, gD] at ez; cases ez)]
        exact ez
      refine ⟨_, gD, ?_, fun b u eb => ?_, sd ++ [(p6, cs.set pl b)], ?_, fun p hp => ?_, ?_⟩
      · have := congrArg List.length g4
        rw [List.length_map, List.length_map, List.length_take] at this
        rw [List.length_map, this]
        exact small1000 (by simp; omega)
      · rw [upd_ne (fun e => by rw [e, hD3] at eb; cases eb)]
        exact s6 _ _ (g1 _ _ eb)
      · rw [upd_same, List.map_append]
        rfl
      · rcases List.mem_append.mp hp with z | z
        · exact kt _ _ (s6 _ _ (g3 p z))
        · have : p = (p6, cs.set pl b) := by simpa using z
          subst this
          exact kt _ _ e6
      · rw [List.map_append, g4, List.take_add_one, hbi, List.map_append]
        rfl
    · obtain ⟨g1, sd, g2, g3, g4⟩ := r'
      obtain ⟨⟨q0, z0⟩, ⟨q1, z1⟩, rfl⟩ : ∃ x y, sd = [x, y] := by
        have := congrArg List.length g4
        rw [List.length_map] at this
        match sd, this with
        | [x, y], _ => exact ⟨x, y, rfl⟩
      have g4 : [z0, z1] = [cs.set pl 0, cs.set pl 1] := g4
      injection g4 with h00 g4
      injection g4 with h11 _
      subst h00
      subst h11
      have g2 : H4 D3 = some (.lst [.ref q0, .ref q1]) := g2
      have sH4 : Same H2 H4 := p2.trans (sT.trans g1)
      have hs4 : H4 D1 = some (.lst (hs.map fun p => V.ref p.1)) := sH4 _ _ (s2 _ _ e1)
      have hsm : (hs.map fun p => V.ref p.1).length = hs.length := List.length_map _
      have hel : (heldL (ents ks) (a - 1)).length = hs.length := by rw [← hsE, List.length_map]
      refine ⟨_, rfl, D1, rfl, ⟨_, SqL.of hs4⟩, fun D4 hD4 => ?_⟩
      refine lc_ones (walk_list (K := K) (a := D1) (xs := hs.map fun p => V.ref p.1)) (fun i => lessB ((heldL (ents ks) (a - 1)).getD i []) (cs.set pl 0) || lessB ((heldL (ents ks) (a - 1)).getD i []) (cs.set pl 1)) hD4 (by omega) (fun H' s' => SqL.of (s' _ _ hs4)) (fun i x H5 H6 hi s' y' Cont hC => ?_) (fun H5 s' e' => ?_)
      · obtain ⟨e0, hx⟩ := y'
        subst e0
        rw [List.getElem?_map] at hx
        obtain ⟨⟨pc, po⟩, hpi, rfl⟩ := Option.map_eq_some_iff.mp hx
        have ego : (heldL (ents ks) (a - 1)).getD i [] = po := by
          rw [← hsE, List.getD_eq_getElem?_getD, List.getElem?_map, hpi]
          rfl
        have hpm := List.mem_of_getElem? hpi
        have hpo : po.length = n := by
          have : po ∈ heldL (ents ks) (a - 1) := by
            rw [← hsE]
            exact List.mem_map.mpr ⟨_, hpm, rfl⟩
          unfold heldL at this
          obtain ⟨e, he, rfl⟩ := List.mem_map.mp this
          obtain ⟨k, hk, rfl⟩ := List.mem_map.mp (List.mem_filter.mp he).1
          exact (hO k hk).2.2.1
        have hcp : CubeH H6 pc po := s' _ _ (sH4 _ _ (s2 _ _ (hsC _ hpm)))
        have hq0 : CubeH H6 q0 (cs.set pl 0) := s' _ _ (g3 (q0, cs.set pl 0) (by simp))
        have hq1 : CubeH H6 q1 (cs.set pl 1) := s' _ _ (g3 (q1, cs.set pl 1) (by simp))
        refine ⟨rfl, _, rfl, _, rfl, D3, [.ref q0, .ref q1], 0, .ref q0, rfl, rfl, SqL.of (s' _ _ g2), atI_nat (j := 0) rfl, pc, q0, po, cs.set pl 0, rfl, hcp, hq0, by rw [List.length_set, hpo, o3], by omega, fun H7 s7 => ⟨_, rfl, ?_⟩⟩
        rw [ego] at hC
        cases hlb : lessB po (cs.set pl 0) with
        | true =>
          have := hC H7 s7
          rw [hlb, Bool.true_or] at this
          exact ifT rfl this
        | false =>
          refine ifF rfl ?_
          refine ⟨_, rfl, _, rfl, D3, [.ref q0, .ref q1], 1, .ref q1, rfl, rfl, SqL.of (s7 _ _ (s' _ _ g2)), atI_nat (j := 1) rfl, pc, q1, po, cs.set pl 1, rfl, s7 _ _ hcp, s7 _ _ hq1, by rw [List.length_set, hpo, o3], by omega, fun H8 s8 => ⟨_, rfl, ?_⟩⟩
          have := hC H8 (s7.trans s8)
          rw [hlb, Bool.false_or] at this
          exact this
      · refine ⟨(by show 0 ≤ sizeLine; decide), fun t9 ht9 => ?_⟩
        have s9 := same_upd (o := .lst []) ht9
        refine ⟨D4, t9, _, rfl, rfl, SqL.of (by rw [← rep_int]; exact s9 _ _ e'), SqL.of upd_same, _, rfl, ?_⟩
        have ev : (if false = true then !(List.replicate ((List.range (hs.map fun p => V.ref p.1).length).countP (fun i => lessB ((heldL (ents ks) (a - 1)).getD i []) (cs.set pl 0) || lessB ((heldL (ents ks) (a - 1)).getD i []) (cs.set pl 1))) (1 : Int)).isEmpty
            else (List.replicate ((List.range (hs.map fun p => V.ref p.1).length).countP (fun i => lessB ((heldL (ents ks) (a - 1)).getD i []) (cs.set pl 0) || lessB ((heldL (ents ks) (a - 1)).getD i []) (cs.set pl 1))) (1 : Int)).isEmpty) = !(WB (ents ks) (a - 1) (cs.set pl 1) || WB (ents ks) (a - 1) (cs.set pl 0)) := by
          rw [if_neg Bool.false_ne_true, isE_rep, hsm, ← hel]
          exact held_none
        cases hw : (WB (ents ks) (a - 1) (cs.set pl 1) || WB (ents ks) (a - 1) (cs.set pl 0)) with
        | true =>
          rw [hw] at ev
          refine ifF ev ?_
          refine ⟨_, _, _, _, _, rfl, sH4.trans (s'.trans s9), fun k hk => ?_⟩
          rcases tk k hk with z | z
          · exact p3 k z
          · rw [z]; exact hw
        | false =>
          rw [hw] at ev
          refine ifT ev ?_
          have := q _ (s1.trans (s2.trans (sH4.trans (s'.trans s9))))
          have eF : StB vals (ents ks) (a, cs) = false := by
            rw [eS]
            have : ((free cs).all fun i => WB (ents ks) (a - 1) (cs.set i 1) || WB (ents ks) (a - 1) (cs.set i 0)) = false := by
              rw [Bool.eq_false_iff]
              intro z
              have := List.all_eq_true.mp z pl hmem
              rw [hw] at this
              cases this
            rw [this]
            rfl
          rw [eF] at this
          exact this
  · obtain ⟨y7, y8, y9, y10, y11, rfl, p2, p3⟩ := p
    rw [elen, List.take_of_length_le (Nat.le_refl _)] at p3
    refine ⟨_, rfl, (by show 0 ≤ sizeLine; decide), fun t9 ht9 => ?_⟩
    have s9 := same_upd (o := .lst []) ht9
    refine ⟨D2, t9, (free cs).map (fun i : Nat => (i : Int)), rfl, rfl, SqL.of (by rw [List.map_map]; exact s9 _ _ (p2 _ _ e2)), SqL.of upd_same, ?_⟩
    have := q _ (s1.trans (s2.trans (p2.trans s9)))
    have eT : StB vals (ents ks) (a, cs) = (if true = true then !((free cs).map (fun i : Nat => (i : Int))).isEmpty else ((free cs).map (fun i : Nat => (i : Int))).isEmpty) := by
      rw [eS, List.all_eq_true.mpr p3, Bool.true_and, if_pos rfl]
      cases free cs <;> rfl
    rw [eT] at this
    exact this
end
end Kb
/-! The law's judge and its whole book. -/
namespace Kb
open PySem PySem.Spec PyProof.Rows L2
theorem ix_tupKK {X : Cx} {K : PySem.W.Frag} (e : X.K = K) : IxR X (rIxT K) := ix_tupK e
section
variable {P : Program} {w : World} {K : PySem.W.Frag} {mg : Str → Option Value} {base : Heap}
/-! ### _law_is_cube_book -/
theorem scLJ : FnScope ["_law_count", "_law_worths_here", "_law_most", "_law_told", "_law_one", "_law_other"] ["_law_count", "_law_worths_here", "_law_most", "_law_told"] (defScope s_l_is_book) := ⟨rfl, rfl, rfl, by decide +kernel, rfl, by decide +kernel, by decide +kernel⟩
def spLJ : Sp := fun vs H Q _ => ∃ (n : Nat) (v t : Addr) (vals : List Int) (m : Int) (ks : List AE), vs = [.int n, .ref v, .int m, .ref t] ∧ (n = 2 ∨ n = 3) ∧ ValsH H v vals n ∧ BookH H t ks ∧ (∀ k ∈ ks, EnOk n k.2) ∧ ks.length ≤ 63 ∧ ∀ H', Same H H' → Q (.bl (judgeB vals (ents ks) m)) H'
theorem ok_LJ {f f1 f2 : Addr} {fd fd1 fd2 : FuncData} (F0 : Fun K "_law_is_cube_book" "_law_is_cube_book" s_l_is_book f fd)
    (G1 : FnOk P w K mg base CX0 1 f1 fd1 ["_law_count", "_law_told"] spLE) (b1 : Binds K fd1 ["_law_count", "_law_told"] []) (k1 : PySem.W.keepIn K (.ref f1) = true) (m1 : mg "_law_is_cube_entry" = some (.ref f1))
    (G2 : FnOk P w K mg base CX0 5 f2 fd2 ["_law_worths_here", "_law_told", "_law_entry"] spLS) (b2 : Binds K fd2 ["_law_worths_here", "_law_told", "_law_entry"] []) (k2 : PySem.W.keepIn K (.ref f2) = true) (m2 : mg "_law_cube_stands" = some (.ref f2))
    (mi : mg "isinstance" = none) (mt : mg "tuple" = none) (mz : mg "zip" = none) : FnOk P w K mg base CX0 6 f fd ["_law_count", "_law_worths_here", "_law_most", "_law_told"] spLJ := by
  refine F0.ok scLJ (fun vs H Q E h => ?_) (fun cdv A outer s H vs Q E hr h => ?_)
  · obtain ⟨n, v, t, vals, m, ks, rfl, _⟩ := h
    rfl
  obtain ⟨n, v, t, vals, m, ks, rfl, hn, hv, hB, hO, hL, q⟩ := h
  have nd := scLJ.nd
  have hu64 := hu_room64 hr
  have hu20 := hu_room20 hr
  have bk : ∀ {scope : Scope} {own : List (Str × Nat)}, blkC ["_law_count", "_law_worths_here", "_law_most", "_law_told", "_law_one", "_law_other"] (defScope s_l_is_book) scope own = true → BlkOk ["_law_count", "_law_worths_here", "_law_most", "_law_told", "_law_one", "_law_other"] (defScope s_l_is_book) scope own := fun h => blkOk_by h
  refine ⟨_, pss_cons (ps_if (PW.pt (pw_or (pt_not (pt_val (pe_callB cr_isB (by rfl) mi (by decide +kernel) (pa_cons (pv 3) (pa_cons (pe_bltn (v := .ty "tuple") (by rfl) mt (by decide +kernel) rfl) pa_nil)))))
        (pw_or1 (pt_cmpR (op_neNil hu64) (pe_lc (own := [("_law_one", 4)]) (g := gName 4) rfl nd (pi_tup (pv 3)) (bk (by decide +kernel)) (fun _ _ _ _ _ => pg_name (i := 4) nd rfl (Or.inl rfl) (Or.inr rfl))
          (fun _ _ _ _ _ => pts_one (pt_not (pt_val (pe_call G1 (hr.mono (by decide)) (by rfl) m1 k1 b1 .nil pass0 (pa_cons (pv 0) (pa_cons (pv 4) pa_nil)))))) (fun _ _ _ _ _ => pe_int)) (pe_lst pa_nil) (nomark _))))) (pss_one (ps_ret pe_bl)) pss_nil)
    (pss_cons (ps_if (pt_cmpR (op_neNil hu64) (pe_lc (own := [("_law_one", 4), ("_law_other", 5)]) (g := g2 K 4 5) rfl nd (RZ.pi_zipA (by rfl) mz (pa_cons (pv 3) (pa_cons (pe_slice sl_tupS (pv 3) (po_some pe_int) po_none) pa_nil))) (bk (by decide +kernel))
          (fun _ _ _ _ _ => pg_tup rfl (pgs_cons (pg_name (i := 4) nd rfl (Or.inl rfl) (Or.inr rfl)) (pgs_cons (pg_name (i := 5) nd rfl (Or.inl rfl) (Or.inr rfl)) pgs_nil)))
          (fun _ _ _ _ _ => pts_one (pt_cmpR (op_geE hu20) (pv 4) (pv 5) (nomark _))) (fun _ _ _ _ _ => pe_int)) (pe_lst pa_nil) (nomark _)) (pss_one (ps_ret pe_bl)) pss_nil)
    (pss_cons (ps_if (pt_cmpR op_eq (pv 2) pe_int (nomark _)) (pss_one (ps_ret (pe_cmpR (op_eqNilB hu64) (pv 3) (pe_tup pa_nil) (nomark _)))) pss_nil)
    (pss_cons (ps_if (pt_cmpR (op_eqNil hu64) (pe_lc (own := [("_law_one", 4)]) (g := gName 4) rfl nd (pi_tup (pv 3)) (bk (by decide +kernel)) (fun _ _ _ _ _ => pg_name (i := 4) nd rfl (Or.inl rfl) (Or.inr rfl))
          (fun _ _ _ _ _ => pts_one (pt_cmpR op_eq (pe_ix (ix_tupK (K := K) rfl) (pv 4) pe_int (fun _ _ => rfl)) (pe_op op_sub (pv 2) pe_int) (nomark _))) (fun _ _ _ _ _ => pe_int)) (pe_lst pa_nil) (nomark _)) (pss_one (ps_ret pe_bl)) pss_nil)
    (pss_one (ps_ret (pe_cmpR (op_eqNil hu64) (pe_lc (own := [("_law_one", 4)]) (g := gName 4) rfl nd (pi_tup (pv 3)) (bk (by decide +kernel)) (fun _ _ _ _ _ => pg_name (i := 4) nd rfl (Or.inl rfl) (Or.inr rfl))
          (fun _ _ _ _ _ => pts_one (pt_not (pt_val (pe_call G2 hr (by rfl) m2 k2 b2 .nil pass0 (pa_cons (pv 1) (pa_cons (pv 3) (pa_cons (pv 4) pa_nil))))))) (fun _ _ _ _ _ => pe_int)) (pe_lst pa_nil) (nomark _))))))), ?_⟩
  have hkm : (ks.map fun k => V.ref k.1).length = ks.length := List.length_map _
  have hel : (ents ks).length = ks.length := List.length_map _
  refine ⟨_, rfl, _, "tuple", "tuple", rfl, .base (.tup hB.1), by decide, by decide, true, rfl, ifF rfl ?_⟩
  -- every one an entry
  refine ⟨_, rfl, t, rfl, ⟨_, sqt hB.1⟩, fun D hD => ?_⟩
  refine lc_ones (walk_tup (xs := ks.map fun k => V.ref k.1)) (fun _ => false) hD (by omega) (fun H' s' => sqt (s' _ _ hB.1)) (fun i x H' H'' hi' s' y' Cont hC => ?_) (fun H1 s1 e1 => ?_)
  · obtain ⟨e0, hx⟩ := y'
    subst e0
    obtain ⟨r, rfl, he, hi⟩ := book_at (hB.keep (same_tup s')) hx
    exact ⟨rfl, _, rfl, _, rfl, n, r, _, rfl, he, enAt_ok hO hi, true, rfl, hC _ (fun _ _ h => h)⟩
  rw [countP_none (fun _ _ => rfl)] at e1
  refine ⟨(by show 0 ≤ sizeLine; decide), fun t1 ht1 => ?_⟩
  have sT1 := same_upd (o := .lst []) ht1
  refine ⟨D, t1, [], rfl, rfl, SqL.of (sT1 _ _ e1), SqL.of upd_same, _, rfl, ifF rfl ?_⟩
  have s2 : Same H (upd H1 t1 (.lst [])) := s1.trans sT1
  generalize upd H1 t1 (.lst []) = H2 at s2 ⊢
  -- in order
  refine ⟨_, rfl, _, rfl, _, rfl, t, _, rfl, s2 _ _ hB.1, fun p H3 s3 e3 => ?_⟩
  rw [cut_one] at e3
  have s13 := s2.trans s3
  refine ⟨t, p, _, _, rfl, .inr ⟨sqt (s13 _ _ hB.1), sqt e3, ?_⟩⟩
  refine fun D2 hD2 => lc_ones (RZ_walk (a := t) (b := p) (xs := ks.map fun k => V.ref k.1)) (fun i => geD (enAt (ents ks) i) (enAt (ents ks) (i + 1))) hD2 (by omega) (fun H' s' => ⟨sqt (s' _ _ (s13 _ _ hB.1)), sqt (s' _ _ e3)⟩) (fun i x H4 H5 hi' s' y' Cont hC => ?_) (fun H4 s4 e4 => ?_)
  · obtain ⟨T, x1, x2, rfl, nT, rfl, hx1, hx2⟩ := y'
    have hx1 : (ks.map fun k => V.ref k.1)[i]? = some x1 := hx1
    have hx2 : ((ks.map fun k => V.ref k.1).drop 1)[i]? = some x2 := hx2
    rw [List.getElem?_drop, Nat.add_comm 1 i] at hx2
    have sT := same_upd (o := .tup [x1, x2]) nT
    have hB4 := hB.keep (same_tup (s13.trans (s'.trans sT)))
    obtain ⟨r1, rfl, he1, _⟩ := book_at hB4 hx1
    obtain ⟨r2, rfl, he2, _⟩ := book_at hB4 hx2
    refine ⟨T, _, rfl, sqt upd_same, rfl, _, _, rfl, _, _, rfl, rfl, rfl, ?_⟩
    exact ⟨_, rfl, _, rfl, r1, r2, _, _, rfl, rfl, he1, he2, _, rfl, hC _ sT⟩
  refine ⟨(by show 0 ≤ sizeLine; decide), fun t5 ht5 => ?_⟩
  have sT5 := same_upd (o := .lst []) ht5
  refine ⟨D2, t5, _, rfl, rfl, SqL.of (by rw [← rep_int]; exact sT5 _ _ e4), SqL.of upd_same, _, rfl, ?_⟩
  have s15 : Same H (upd H4 t5 (.lst [])) := s13.trans (s4.trans sT5)
  generalize upd H4 t5 (.lst []) = H5 at s15 ⊢
  have ev : (if true = true then !(List.replicate ((List.range ((ks.map fun k => V.ref k.1).length - 1)).countP (fun i => geD (enAt (ents ks) i) (enAt (ents ks) (i + 1)))) (1 : Int)).isEmpty else (List.replicate ((List.range ((ks.map fun k => V.ref k.1).length - 1)).countP (fun i => geD (enAt (ents ks) i) (enAt (ents ks) (i + 1)))) (1 : Int)).isEmpty) = !srtB (ents ks) := by
    rw [if_pos rfl, isE_rep]
    unfold srtB noneN
    rw [hkm, hel]
  cases hsr : srtB (ents ks) with
  | false =>
    rw [hsr] at ev
    refine ifT ev ?_
    have := q _ s15
    have eJ : judgeB vals (ents ks) m = false := by
      unfold judgeB
      rw [hsr, Bool.false_and]
      split
      · cases ks with
        | nil => exact absurd hsr (by decide)
        | cons k ks => rfl
      · rfl
    rw [eJ] at this
    exact this
  | true =>
  rw [hsr] at ev
  refine ifF ev ?_
  have hB5 := hB.keep (same_tup s15)
  refine ⟨_, rfl, rfl, _, rfl, if2 (fun h0 => ?_) (fun h0 => ?_)⟩
  · have em : m = 0 := V.int.inj (of_decide_eq_true h0)
    refine ⟨_, rfl, (by show 0 ≤ sizeLine; decide), fun t6 ht6 => ?_⟩
    have s6 := same_upd (o := .tup []) ht6
    refine ⟨t, t6, ks, rfl, rfl, hB5.keep (same_tup s6), upd_same, ?_⟩
    have := q _ (s15.trans s6)
    have eJ : judgeB vals (ents ks) m = (if false = true then !ks.isEmpty else ks.isEmpty) := by
      unfold judgeB
      rw [if_pos em, if_neg Bool.false_ne_true]
      cases ks <;> rfl
    rw [eJ] at this
    exact this
  have em : ¬ m = 0 := fun z => of_decide_eq_false h0 (by rw [z])
  have eJ : judgeB vals (ents ks) m = (noneN (ents ks).length (fun i => !StB vals (ents ks) (enAt (ents ks) i)) && someN (ents ks).length (fun i => (enAt (ents ks) i).1 == m - 1)) := by
    unfold judgeB
    rw [if_neg em, hsr, Bool.true_and]
  -- the level
  refine ⟨_, rfl, t, rfl, ⟨_, sqt hB5.1⟩, fun D6 hD6 => ?_⟩
  refine lc_ones (walk_tup (xs := ks.map fun k => V.ref k.1)) (fun i => (enAt (ents ks) i).1 == m - 1) hD6 (by omega) (fun H' s' => sqt (s' _ _ hB5.1)) (fun i x H' H'' hi' s' y' Cont hC => ?_) (fun H6 s6 e6 => ?_)
  · obtain ⟨e0, hx⟩ := y'
    subst e0
    obtain ⟨r, rfl, ⟨c, he1, he2⟩, hi⟩ := book_at (hB5.keep (same_tup s')) hx
    refine ⟨rfl, _, rfl, r, _, 0, _, rfl, rfl, sqt he1, atI_nat (j := 0) rfl, _, rfl, _, _, rfl, rfl, rfl, _, rfl, ?_⟩
    have e : decide (V.int (enAt (ents ks) i).1 = V.int (m - 1)) = ((enAt (ents ks) i).1 == m - 1) := by
      rw [dec_int]
      rfl
    have := hC _ (fun _ _ h => h)
    rw [← e] at this
    exact this
  refine ⟨(by show 0 ≤ sizeLine; decide), fun t7 ht7 => ?_⟩
  have sT7 := same_upd (o := .lst []) ht7
  refine ⟨D6, t7, _, rfl, rfl, SqL.of (by rw [← rep_int]; exact sT7 _ _ e6), SqL.of upd_same, _, rfl, ?_⟩
  have s17 : Same H (upd H6 t7 (.lst [])) := s15.trans (s6.trans sT7)
  generalize upd H6 t7 (.lst []) = H7 at s17 ⊢
  have ev2 : (if false = true then !(List.replicate ((List.range (ks.map fun k => V.ref k.1).length).countP (fun i => (enAt (ents ks) i).1 == m - 1)) (1 : Int)).isEmpty else (List.replicate ((List.range (ks.map fun k => V.ref k.1).length).countP (fun i => (enAt (ents ks) i).1 == m - 1)) (1 : Int)).isEmpty) = !someN (ents ks).length (fun i => (enAt (ents ks) i).1 == m - 1) := by
    rw [if_neg Bool.false_ne_true, isE_rep]
    unfold someN
    rw [hkm, hel, Bool.eq_iff_iff, decide_eq_true_eq, Bool.not_eq_true', decide_eq_false_iff_not]
    omega
  cases hso : someN (ents ks).length (fun i => (enAt (ents ks) i).1 == m - 1) with
  | false =>
    rw [hso] at ev2
    refine ifT ev2 ?_
    have := q _ s17
    rw [eJ, hso, Bool.and_false] at this
    exact this
  | true =>
  rw [hso] at ev2
  refine ifF ev2 ?_
  have hB7 := hB.keep (same_tup s17)
  refine ⟨_, rfl, t, rfl, ⟨_, sqt hB7.1⟩, fun D8 hD8 => ?_⟩
  refine lc_ones (walk_tup (xs := ks.map fun k => V.ref k.1)) (fun i => !StB vals (ents ks) (enAt (ents ks) i)) hD8 (by omega) (fun H' s' => sqt (s' _ _ hB7.1)) (fun i x H' H'' hi' s' y' Cont hC => ?_) (fun H8 s8 e8 => ?_)
  · obtain ⟨e0, hx⟩ := y'
    subst e0
    have hBx := hB7.keep (same_tup s')
    obtain ⟨r, rfl, he, hi⟩ := book_at hBx hx
    exact ⟨rfl, _, rfl, _, rfl, _, rfl, v, t, r, vals, n, ks, _, rfl, hn, hv.keep (same_tup (s17.trans s')), hBx, hO, hL, he, enAt_ok hO hi, fun H9 s9 => ⟨_, rfl, hC H9 s9⟩⟩
  refine ⟨(by show 0 ≤ sizeLine; decide), fun t9 ht9 => ?_⟩
  have sT9 := same_upd (o := .lst []) ht9
  refine ⟨D8, t9, _, rfl, rfl, SqL.of (by rw [← rep_int]; exact sT9 _ _ e8), SqL.of upd_same, ?_⟩
  have := q _ (s17.trans (s8.trans sT9))
  rw [eJ, hso, Bool.and_true] at this
  have ev3 : noneN (ents ks).length (fun i => !StB vals (ents ks) (enAt (ents ks) i)) = (if false = true then !(List.replicate ((List.range (ks.map fun k => V.ref k.1).length).countP (fun i => !StB vals (ents ks) (enAt (ents ks) i))) (1 : Int)).isEmpty else (List.replicate ((List.range (ks.map fun k => V.ref k.1).length).countP (fun i => !StB vals (ents ks) (enAt (ents ks) i))) (1 : Int)).isEmpty) := by
    rw [if_neg Bool.false_ne_true, isE_rep]
    unfold noneN
    rw [hkm, hel]
  rw [ev3] at this
  exact this
/-! ### _law_whole_book -/
theorem free_sum {n : Nat} (h : n = 2 ∨ n = 3) : ((cubesL n).map fun cs => (free cs).length).sum ≤ 27 := by
  rcases h with rfl | rfl
  · decide +kernel
  · decide +kernel
theorem take_sum (l : List (List Int)) (j : Nat) : ((l.take j).map fun cs => (free cs).length).sum ≤ (l.map fun cs => (free cs).length).sum := by
  induction l generalizing j with
  | nil => simp
  | cons x l ih =>
    cases j with
    | zero => simp
    | succ j =>
      rw [List.take_succ_cons, List.map_cons, List.map_cons, List.sum_cons, List.sum_cons]
      have := ih j
      omega
theorem scWh : FnScope ["_law_count", "_law_worths_here", "_law_known", "_law_found", "_law_cube", "_law_level"] ["_law_count", "_law_worths_here"] (defScope s_whole_book) := ⟨rfl, rfl, rfl, by decide +kernel, rfl, by decide +kernel, by decide +kernel⟩
def spWh : Sp := fun vs H Q _ => ∃ (n : Nat) (v : Addr) (vals : List Int), vs = [.int n, .ref v] ∧ (n = 2 ∨ n = 3) ∧ ValsH H v vals n ∧ ∀ H' t ks, Same H H' → BookH H' t ks → (∀ k ∈ ks, EnLo n k.2) → ks.length ≤ 27 → Q (.ref t) H'
theorem ok_Wh {f f1 f2 : Addr} {fd fd1 fd2 : FuncData} (F0 : Fun K "_law_whole_book" "_law_whole_book" s_whole_book f fd)
    (G1 : FnOk P w K mg base CX0 1 f1 fd1 ["_law_count"] spCubes) (b1 : Binds K fd1 ["_law_count"] []) (k1 : PySem.W.keepIn K (.ref f1) = true) (m1 : mg "_law_cubes" = some (.ref f1))
    (G2 : FnOk P w K mg base CX0 8 f2 fd2 ["_law_worths_here", "_law_cube", "_law_known"] (spAF 4)) (b2 : Binds K fd2 ["_law_worths_here", "_law_cube", "_law_known"] []) (k2 : PySem.W.keepIn K (.ref f2) = true) (m2 : mg "_law_asks_for" = some (.ref f2))
    (mr : mg "range" = none) (ms : mg "sorted" = none) (mt : mg "tuple" = none) : FnOk P w K mg base CX0 9 f fd ["_law_count", "_law_worths_here"] spWh := by
  refine F0.ok scWh (fun vs H Q E h => ?_) (fun cdv A outer s H vs Q E hr h => ?_)
  · obtain ⟨n, v, vals, rfl, _⟩ := h
    rfl
  obtain ⟨n, v, vals, rfl, hn, hv, q⟩ := h
  have nd := scWh.nd
  have hu20 := hu_room20 hr
  refine ⟨_, pss_cons (ps_par (i := 2) (j := 3) rfl nd rfl rfl (by decide) rfl rfl (pa_cons pe_dnewT (pa_cons (pe_lst pa_nil) pa_nil)) (by rfl))
    (pss_cons (ps_for PassesOwn.never rfl (pi_list (pe_call G1 (hr.mono (by decide)) (by rfl) m1 k1 b1 .nil pass0 (pa_cons (pv 0) pa_nil))) (pg_name (i := 4) nd rfl (.inr rfl))
      (pss_one (ps_set (i := 3) nd rfl (.inl rfl) (pe_op op_cat (pv 3) (pe_lc (own := [("_law_level", 5)]) (g := gName 5) (tt := tYes) rfl nd (pi_range1 (by rfl) mr (pa_cons (pe_call G2 hr (by rfl) m2 k2 b2 .nil pass0 (pa_cons (pv 1) (pa_cons (pv 4) (pa_cons (pv 2) pa_nil)))) pa_nil))
          (blkOk_by (N := ["_law_count", "_law_worths_here", "_law_known", "_law_found", "_law_cube", "_law_level"]) (sc := defScope s_whole_book) (by decide +kernel)) (fun _ _ _ _ _ => pg_name (i := 5) nd rfl (Or.inl rfl) (Or.inr rfl)) (fun _ _ _ _ _ => pts_nil)
          (fun _ _ _ _ _ => pe_tup (pa_cons (pv 5) (pa_cons (pv 4) pa_nil))))))))
    (pss_one (ps_ret (pe_callTy call_tuple_of (by rfl) mt (by decide +kernel) (pa_cons (pe_callB (cr_sortE hu20) (by rfl) ms (by decide +kernel) (pa_cons (pv 3) pa_nil)) pa_nil))))), ?_⟩
  refine fun d hd => ⟨(by show 0 ≤ sizeLine; decide), fun l0 hl0 => ⟨_, _, rfl, ?_⟩⟩
  have s1 := same_upd (o := .dT []) hd
  have s2 := same_upd (o := .lst []) hl0
  have ed : (upd (upd H d (.dT [])) l0 (.lst [])) d = some (.dT []) := s2 _ _ upd_same
  have el0 : (upd (upd H d (.dT [])) l0 (.lst [])) l0 = some (.lst []) := upd_same
  have hl0H : H l0 = none := by
    cases hz : H l0 with
    | none => rfl
    | some u => rw [s1 _ _ hz] at hl0; cases hl0
  generalize upd (upd H d (.dT [])) l0 (.lst []) = H2 at s2 ed el0 ⊢
  refine ⟨_, rfl, n, rfl, hn, fun lc cps H3 nlc s3 hC hE => ?_⟩
  have hlcd : lc ≠ d := (ne_of_none ed nlc).symm
  have s13 : Same H H3 := s1.trans (s2.trans s3)
  have hcm : (cps.map fun p => V.ref p.1).length = cps.length := List.length_map _
  refine ⟨lc, rfl, ⟨_, SqL.of hC.1⟩, for_list (K := K) (a := lc) (xs := cps.map fun p => V.ref p.1) (fun j σ' H' => ∃ y4 y5 lf its kd, σ' = [some (.int n), some (.ref v), some (.ref d), some (.ref lf), y4, y5] ∧ But [d] H3 H' ∧ H' lf = some (.lst (its.map fun k : AE => V.ref k.1)) ∧ (∀ k ∈ its, EntH H' k.1 k.2 ∧ EnLo n k.2) ∧
      its.length ≤ (((cubesL n).take j).map fun cs => (free cs).length).sum ∧ CD (F vals) n H' d kd)
    ⟨_, _, l0, [], [], rfl, But.refl _ _, s3 _ _ el0, (fun k hk => absurd hk (by simp)), Nat.zero_le _, CD.empty (s3 _ _ ed)⟩ (fun j σ' H' _ p => ?_) (fun j x σ' H' hx p => ?_) (fun σ' H' p => ?_)⟩
  · obtain ⟨_, _, _, _, _, _, p2, _⟩ := p
    exact SqL.of (p2.rest _ _ (by simp; exact hlcd) hC.1)
  · obtain ⟨y4, y5, lf, its, kd, rfl, p2, p3, p4, p5, p6⟩ := p
    rw [List.getElem?_map] at hx
    obtain ⟨⟨c, cs⟩, hcp, rfl⟩ := Option.map_eq_some_iff.mp hx
    have hcs : (cubesL n)[j]? = some cs := by
      rw [← hE, List.getElem?_map, hcp]
      rfl
    obtain ⟨hcl, hcd⟩ := of_cubesL (List.mem_of_getElem? hcs)
    have hc : CubeH H' c cs := p2.tup _ _ (hC.2 _ (List.mem_of_getElem? hcp))
    have hfl := free_len cs
    have hlfd : lf ≠ d := ne_of p3 p6.at_ (by intro z; cases z)
    refine ⟨_, rfl, _, rfl, _, rfl, _, rfl, v, c, d, vals, cs, n, kd, rfl, hn, hv.keep ((same_tup s13).trans p2.tup), hc, hcl, hcd, by omega, p6, fun H4 kd4 b4 c4 => ?_⟩
    have h0 := F_nn vals cs
    have h1 := F_le vals cs
    have hlf4 : H4 lf = some (.lst (its.map fun k : AE => V.ref k.1)) := b4.rest _ _ (by simp; exact hlfd) p3
    have hc4 : CubeH H4 c cs := hc.keep b4.tup
    refine ⟨F vals cs, rfl, by omega, by omega, fun D hD => ?_⟩
    refine lc_it (walk_range (lo := 0) (n := (F vals cs).toNat)) (fun i H5 => Same H4 H5 ∧ ∃ ns : List AE, H5 D = some (.lst (ns.map fun k => V.ref k.1)) ∧ (∀ k ∈ ns, EntH H5 k.1 k.2 ∧ EnLo n k.2) ∧ ns.length = i) ⟨same_upd hD, [], upd_same, (fun k hk => absurd hk (by simp)), rfl⟩ (fun _ _ _ _ => trivial) (fun i x H5 H6 hi r y => ?_) (fun H5 r => ?_)
    · obtain ⟨e0, rfl⟩ := y
      subst e0
      obtain ⟨r1, ns, r2, r3, r4⟩ := r
      refine ⟨rfl, ?_⟩
      refine ⟨_, rfl, _, rfl, (by show 2 ≤ sizeLine; decide), fun t ht => ?_⟩
      have sT := same_upd (o := .tup [.int (0 + (i : Nat)), .ref c]) ht
      have enT : EntH (upd H6 t (.tup [.int (0 + (i : Nat)), .ref c])) t (0 + (i : Int), cs) := ⟨c, upd_same, sT _ _ (r1 _ _ hc4)⟩
      have gD := sT _ _ r2
      have kt : KeepT (upd H6 t (.tup [.int (0 + (i : Nat)), .ref c])) (upd (upd H6 t (.tup [.int (0 + (i : Nat)), .ref c])) D (.lst ((ns.map fun k => V.ref k.1) ++ [.ref t]))) := fun z zs ez => by
        rw [upd_ne (fun e => by rw [e, gD] at ez; cases ez)]
        exact ez
      refine ⟨_, gD, ?_, fun b u eb => ?_, ns ++ [(t, (0 + (i : Int), cs))], ?_, fun k hk => ?_, ?_⟩
      · rw [List.length_map, r4]
        exact small1000 (by omega)
      · rw [upd_ne (fun e => by rw [e, hD] at eb; cases eb)]
        exact sT _ _ (r1 _ _ eb)
      · rw [upd_same, List.map_append]
        rfl
      · rcases List.mem_append.mp hk with z | z
        · exact ⟨((r3 k z).1.keep (same_tup sT)).keep kt, (r3 k z).2⟩
        · have : k = (t, (0 + (i : Int), cs)) := by simpa using z
          subst this
          refine ⟨enT.keep kt, ⟨?_, ?_, hcl, hcd⟩, ?_⟩
          · show 0 ≤ 0 + (i : Int)
            omega
          · show 0 + (i : Int) ≤ 4
            omega
          · show 0 + (i : Int) ≤ 3
            omega
      · rw [List.length_append, r4]
        rfl
    · obtain ⟨r1, ns, r2, r3, r4⟩ := r
      have htk := take_sum (cubesL n) j
      have hfs := free_sum hn
      refine ⟨lf, D, _, _, rfl, rfl, r1 _ _ hlf4, r2, ?_, fun lN hlN => ?_⟩
      · rw [List.length_map, List.length_map]
        exact small_size (by omega)
      · have sN := same_upd (o := .lst ((its.map fun k : AE => V.ref k.1) ++ (ns.map fun k => V.ref k.1))) hlN
        have b5 : But [d] H3 (upd H5 lN (.lst ((its.map fun k : AE => V.ref k.1) ++ (ns.map fun k => V.ref k.1)))) := p2.trans (b4.trans (But.same (r1.trans sN)))
        refine ⟨some (.ref c), y5, lN, its ++ ns, kd4, rfl, b5, ?_, fun k hk => ?_, ?_, c4.but (But.same (r1.trans sN) (l := [])) (by simp)⟩
        · rw [upd_same, List.map_append]
        · rcases List.mem_append.mp hk with z | z
          · exact ⟨(b4.trans (But.same (r1.trans sN))).ent (p4 k z).1, (p4 k z).2⟩
          · exact ⟨(r3 k z).1.keep (same_tup sN), (r3 k z).2⟩
        · rw [List.length_append, r4, List.take_add_one, hcs, List.map_append, List.sum_append]
          have : ((some cs).toList.map fun cs => (free cs).length).sum = (free cs).length := by simp
          rw [this]
          omega
  · obtain ⟨y4, y5, lf, its, kd, rfl, p2, p3, p4, p5, p6⟩ := p
    refine ⟨_, rfl, lf, its, rfl, SqL.of p3, fun k hk => (p4 k hk).1, fun ks' p pm hp => ?_⟩
    have sP := same_upd (o := .lst (ks'.map fun k => V.ref k.1)) hp
    refine ⟨p, _, rfl, .inl ⟨SqL.of upd_same, fun t ht => ?_⟩⟩
    have sT := same_upd (o := .tup (ks'.map fun k => V.ref k.1)) ht
    have htk := take_sum (cubesL n) cps.length
    have hfs := free_sum hn
    rw [hcm] at p5
    refine q _ t ks' (But.ofNone (l := [d]) ((But.same s13).trans (p2.trans (But.same (sP.trans sT)))) fun a ha => ?_) ⟨upd_same, fun k hk => ((p4 k (pm.mem_iff.mp hk)).1.keep (same_tup sP)).keep (same_tup sT)⟩ (fun k hk => (p4 k (pm.mem_iff.mp hk)).2) ?_
    · have : a = d := by simpa using ha
      rw [this]; exact hd
    · rw [pm.length_eq]
      omega
end
end Kb
/-! The law's bent book. -/
namespace Kb
open PySem PySem.Spec PyProof.Rows L2
/-- a well-formed book -/
def GoodB (n : Nat) (H : Hp) (x : V) : Prop := ∃ t ks, x = .ref t ∧ BookH H t ks ∧ (∀ k ∈ ks, EnOk n k.2) ∧ ks.length ≤ 63
theorem GoodB.keep {n : Nat} {H H' : Hp} {x : V} (h : GoodB n H x) (k : KeepT H H') : GoodB n H' x := by
  obtain ⟨t, ks, e, hB, hO, hL⟩ := h
  exact ⟨t, ks, e, hB.keep k, hO, hL⟩
def cutK (ks : List AE) (lo hi : Option Int) : List AE := (ks.drop (HT.sIx ks.length 0 lo)).take (HT.sIx ks.length ks.length hi - HT.sIx ks.length 0 lo)
theorem cut_map (ks : List AE) (lo hi : Option Int) : cutV (ks.map fun k => V.ref k.1) lo hi = (cutK ks lo hi).map fun k => V.ref k.1 := by
  unfold cutV cutK
  rw [List.length_map, List.map_take, List.map_drop]
theorem cutK_sub {ks : List AE} {lo hi : Option Int} : ∀ k ∈ cutK ks lo hi, k ∈ ks := fun k hk => List.mem_of_mem_drop (List.mem_of_mem_take hk)
theorem cutK_len {ks : List AE} {lo hi : Option Int} : (cutK ks lo hi).length ≤ ks.length := by
  unfold cutK
  rw [List.length_take, List.length_drop]
  omega
theorem book_cut {H H' : Hp} {t p : Addr} {ks : List AE} {lo hi : Option Int} (h : BookH H t ks) (k : KeepT H H') (e : H' p = some (.tup (cutV (ks.map fun k => V.ref k.1) lo hi))) : BookH H' p (cutK ks lo hi) :=
  ⟨by rw [e, cut_map], fun x hx => (h.2 x (cutK_sub x hx)).keep k⟩
theorem book_cat {H H' : Hp} {a b p : Addr} {ks ms : List AE} (h1 : BookH H a ks) (h2 : BookH H b ms) (k : KeepT H H') (e : H' p = some (.tup ((ks.map fun k => V.ref k.1) ++ (ms.map fun k => V.ref k.1)))) : BookH H' p (ks ++ ms) := by
  refine ⟨by rw [e, List.map_append], fun x hx => ?_⟩
  rcases List.mem_append.mp hx with z | z
  · exact (h1.2 x z).keep k
  · exact (h2.2 x z).keep k
theorem setsort_read {P : Program} {w : World} {K : PySem.W.Frag} {H : Hp} {l : Addr} {ks : List AE} {Q : VK} (hB : BookH H l ks) (hl : ks.length < 63) (q : ∀ t ks' H', Same H H' → BookH H' t ks' → (∀ k ∈ ks', k ∈ ks) → ks'.length ≤ 63 → Q (.ref t) H') :
    rSetE K P w [.ref l] H fun y H2 => rSortSetE P w [y] H2 fun z H3 => ∃ p ys, [z] = [V.ref p] ∧ ((SqL K H3 p ys ∧ ∀ l, H3 l = none → Q (.ref l) (upd H3 l (.tup ys))) ∨ (SqT K H3 p ys ∧ Q (.ref p) H3)) := by
  refine ⟨l, ks, rfl, sqt hB.1, hB.2, hl, fun a ha => ?_⟩
  have s1 := same_upd (o := SetEO P w ks a) ha
  refine ⟨a, ks, rfl, upd_same, fun k hk => (hB.2 k hk).keep (same_tup s1), fun ks' p hsub hl' hp => ?_⟩
  have s2 := same_upd (o := .lst (ks'.map fun k => V.ref k.1)) hp
  refine ⟨p, _, rfl, .inl ⟨SqL.of upd_same, fun t ht => ?_⟩⟩
  have s3 := same_upd (o := .tup (ks'.map fun k => V.ref k.1)) ht
  exact q t ks' _ (s1.trans (s2.trans s3)) ⟨upd_same, fun k hk => (hB.2 k (hsub k hk)).keep (same_tup (s1.trans (s2.trans s3)))⟩ hsub (by omega)
section
variable {P : Program} {w : World} {K : PySem.W.Frag} {mg : Str → Option Value} {base : Heap}
theorem scBent : FnScope ["_law_state", "_law_count", "_law_told", "_law_at", "_law_level", "_law_cube", "_law_spot", "_law_other", "_law_some", "_law_one"] ["_law_state", "_law_count", "_law_told"] (defScope s_bent) := ⟨rfl, rfl, rfl, by decide +kernel, rfl, by decide +kernel, by decide +kernel⟩
def spBent : Sp := fun vs H Q _ => ∃ (st ca la t : Addr) (a : Int) (n : Nat) (ks : List AE), vs = [.ref st, .int n, .ref t] ∧ (n = 2 ∨ n = 3) ∧ StH H st ca la a ∧ a ≤ 900 ∧ BookH H t ks ∧ (∀ k ∈ ks, EnLo n k.2) ∧ 0 < ks.length ∧ ks.length ≤ 27 ∧
  ∀ x H', But [st, la] H H' → StH H' st ca la (a + 3) → GoodB n H' x → Q x H'
theorem ok_bent {f f1 f2 : Addr} {fd fd1 fd2 : FuncData} (F0 : Fun K "_law_bent" "_law_bent" s_bent f fd)
    (G1 : FnOk P w K mg base CX0 2 f1 fd1 ["_law_state", "_law_limit"] spDraw) (b1 : Binds K fd1 ["_law_state", "_law_limit"] []) (k1 : PySem.W.keepIn K (.ref f1) = true) (m1 : mg "_law_draw" = some (.ref f1))
    (G2 : FnOk P w K mg base CX0 3 f2 fd2 ["_law_state", "_law_some"] spOf) (b2 : Binds K fd2 ["_law_state", "_law_some"] []) (k2 : PySem.W.keepIn K (.ref f2) = true) (m2 : mg "_law_of" = some (.ref f2))
    (ml : mg "len" = none) (mt : mg "tuple" = none) (ms : mg "sorted" = none) (me : mg "set" = none) : FnOk P w K mg base CX0 4 f fd ["_law_state", "_law_count", "_law_told"] spBent := by
  refine F0.ok scBent (fun vs H Q E h => ?_) (fun cdv A outer s H vs Q E hr h => ?_)
  · obtain ⟨st, ca, la, t, a, n, ks, rfl, _⟩ := h
    rfl
  obtain ⟨st, ca, la, t, a, n, ks, rfl, hn, hS, ha, hB, hO, hk0, hk1, q⟩ := h
  have nd := scBent.nd
  have hu64 := hu_room64 hr
  have hu20 := hu_room20 hr
  have hu40 : (A.deeper (envOfC "_law_bent" (defScope s_bent) s.heap.objs.size f cdv)).units + 40 < cLine := by have := hu64; omega
  have bk : ∀ {scope : Scope} {own : List (Str × Nat)}, blkC ["_law_state", "_law_count", "_law_told", "_law_at", "_law_level", "_law_cube", "_law_spot", "_law_other", "_law_some", "_law_one"] (defScope s_bent) scope own = true → BlkOk ["_law_state", "_law_count", "_law_told", "_law_at", "_law_level", "_law_cube", "_law_spot", "_law_other", "_law_some", "_law_one"] (defScope s_bent) scope own := fun h => blkOk_by h
  refine ⟨_, pss_cons (ps_set (i := 3) nd rfl (.inr rfl) (pe_call G1 (hr.mono (by decide)) (by rfl) m1 k1 b1 .nil pass0 (pa_cons (pv 0) (pa_cons (pe_callB call_len_seq (by rfl) ml PySem.boot_len (pa_cons (pv 2) pa_nil)) pa_nil))))
    (pss_cons (ps_asg (pe_ix ix_tup (pv 2) (pv 3) (fun _ _ => rfl)) (pg_tup rfl (pgs_cons (pg_name (i := 4) nd rfl (.inr rfl)) (pgs_cons (pg_name (i := 5) nd rfl (.inl rfl)) pgs_nil))))
    (pss_cons (ps_set (i := 6) nd rfl (.inl rfl) (pe_call G1 (hr.mono (by decide)) (by rfl) m1 k1 b1 .nil pass0 (pa_cons (pv 0) (pa_cons (pv 1) pa_nil))))
    (pss_cons (ps_set (i := 7) nd rfl (.inl rfl) (pe_tup (pa_cons (pv 4) (pa_cons (pe_op op_catS (pe_op op_catS (pe_slice sl_tupS (pv 5) po_none (po_some (pv 6))) (pe_tup (pa_cons (pe_op op_mod (pe_op op_add (pe_ix ix_tup (pv 5) (pv 6) (fun _ _ => rfl)) pe_int) pe_int) pa_nil))) (pe_slice sl_tupS (pv 5) (po_some (pe_op op_add (pv 6) pe_int)) po_none)) pa_nil))))
    (pss_cons (ps_set (i := 8) nd rfl (.inl rfl) (pe_lst (pa_cons (pe_op op_catS (pe_slice sl_tupS (pv 2) po_none (po_some (pv 3))) (pe_slice sl_tupS (pv 2) (po_some (pe_op op_add (pv 3) pe_int)) po_none))
        (pa_cons (pe_callTy call_tuple_of (by rfl) mt (by decide +kernel) (pa_cons (pe_callB (cr_sortSetE rfl hu20) (by rfl) ms (by decide +kernel) (pa_cons (pe_callTy (cr_setE rfl hu40) (by rfl) me (by decide +kernel) (pa_cons (pe_op op_catS (pv 2) (pe_tup (pa_cons (pv 7) pa_nil))) pa_nil)) pa_nil)) pa_nil))
        (pa_cons (pe_op op_catS (pe_op op_catS (pe_slice sl_tupS (pv 2) po_none (po_some (pv 3))) (pe_tup (pa_cons (pv 7) pa_nil))) (pe_slice sl_tupS (pv 2) (po_some (pe_op op_add (pv 3) pe_int)) po_none)) pa_nil)))))
    (pss_cons (ps_set (i := 8) nd rfl (.inl rfl) (pe_op op_cat (pv 8) (pe_lst (pa_cons (pe_revT (pv 2))
        (pa_cons (pe_op op_catS (pv 2) (pe_slice sl_tupS (pv 2) (po_some (pv 3)) (po_some (pe_op op_add (pv 3) pe_int))))
        (pa_cons (pe_callTy call_tuple_of (by rfl) mt (by decide +kernel) (pa_cons (pe_callB (cr_sortSetE rfl hu20) (by rfl) ms (by decide +kernel) (pa_cons (pe_callTy (cr_setE rfl hu40) (by rfl) me (by decide +kernel) (pa_cons (pe_op op_catS (pv 2) (pe_tup (pa_cons (pe_tup (pa_cons (pe_op op_add (pv 4) pe_int) (pa_cons (pv 5) pa_nil))) pa_nil))) pa_nil)) pa_nil)) pa_nil)) pa_nil))))))
    (pss_cons (ps_expr (pe_bm PySem.F.plainAttrs_list PySem.F.slot_list_append PySem.F.type_list_append mt_append (pv 8) (pa_cons (pe_callTy call_tuple_of (by rfl) mt (by decide +kernel) (pa_cons
        (pe_lc (own := [("_law_one", 9)]) (g := gName 9) rfl nd (pi_tup (pv 2)) (bk (by decide +kernel)) (fun _ _ _ _ _ => pg_name (i := 9) nd rfl (Or.inl rfl) (Or.inr rfl))
          (fun _ _ _ _ _ => pts_one (pt_cmpR op_gt (pe_ix (ix_tupK (K := K) rfl) (pv 9) pe_int (fun _ _ => rfl)) pe_int (nomark _))) (fun _ _ _ _ _ => pv 9)) pa_nil)) pa_nil)))
    (pss_cons (ps_expr (pe_bm PySem.F.plainAttrs_list PySem.F.slot_list_append PySem.F.type_list_append mt_append (pv 8) (pa_cons (pe_callTy call_tuple_of (by rfl) mt (by decide +kernel) (pa_cons
        (pe_lc (own := [("_law_one", 9)]) (g := gName 9) rfl nd (pi_tup (pv 2)) (bk (by decide +kernel)) (fun _ _ _ _ _ => pg_name (i := 9) nd rfl (Or.inl rfl) (Or.inr rfl))
          (fun _ _ _ _ _ => pts_one (PW.pt (pw_or (pt_cmpR op_ne (pe_ix (ix_tupK (K := K) rfl) (pv 9) pe_int (fun _ _ => rfl)) (pv 4) (nomark _)) (pw_or1 (pt_cmpR (op_eqE hu64) (pv 9) (pe_ix (ix_tupK (K := K) rfl) (pv 2) (pv 3) (fun _ _ => rfl)) (nomark _)))))) (fun _ _ _ _ _ => pv 9)) pa_nil)) pa_nil)))
    (pss_cons (ps_expr (pe_bm PySem.F.plainAttrs_list PySem.F.slot_list_append PySem.F.type_list_append mt_append (pv 8) (pa_cons (pe_callTy call_tuple_of (by rfl) mt (by decide +kernel) (pa_cons (pe_callB (cr_sortSetE rfl hu20) (by rfl) ms (by decide +kernel) (pa_cons (pe_callTy (cr_setE rfl hu40) (by rfl) me (by decide +kernel)
        (pa_cons (pe_op op_catS (pe_op op_catS (pe_slice sl_tupS (pv 2) po_none (po_some (pv 3))) (pe_tup (pa_cons (pv 7) pa_nil))) (pe_slice sl_tupS (pv 2) (po_some (pe_op op_add (pv 3) pe_int)) po_none)) pa_nil)) pa_nil)) pa_nil)) pa_nil)))
    (pss_one (ps_ret (pe_call G2 hr (by rfl) m2 k2 b2 .nil pass0 (pa_cons (pv 0) (pa_cons (pv 8) pa_nil))))))))))))), ?_⟩
  have hkm : (ks.map fun k => V.ref k.1).length = ks.length := List.length_map _
  -- at
  refine ⟨_, rfl, _, rfl, t, _, rfl, .inr (sqt hB.1), st, ca, la, a, ((ks.map fun k => V.ref k.1).length : Int), rfl, hS, by omega, by omega, by omega, fun r0 H1 hr0 hr1 b01 hS1 => ?_⟩
  obtain ⟨j, rfl⟩ : ∃ j : Nat, r0 = (j : Int) := ⟨r0.toNat, by omega⟩
  have hj : j < ks.length := by omega
  have hB1 := hB.keep b01.tup
  obtain ⟨⟨rj, lv, cs⟩, hkj⟩ : ∃ k, ks[j] = k := ⟨_, rfl⟩
  have hkm' : ((rj, lv, cs) : AE) ∈ ks := by rw [← hkj]; exact List.getElem_mem hj
  have hxj : (ks.map fun k => V.ref k.1)[j]? = some (.ref rj) := by
    rw [List.getElem?_map, List.getElem?_eq_getElem hj, hkj]
    rfl
  obtain ⟨c, hj1, hj2⟩ := hB1.2 _ hkm'
  have hj1 : H1 rj = some (.tup [.int lv, .ref c]) := hj1
  have hj2 : CubeH H1 c cs := hj2
  obtain ⟨⟨ok1, ok2, ok3, ok4⟩, ok5⟩ := hO _ hkm'
  have ok1 : 0 ≤ lv := ok1
  have ok3 : cs.length = n := ok3
  have ok4 : Dig cs := ok4
  have ok5 : lv ≤ 3 := ok5
  -- level, cube
  refine ⟨_, rfl, _, rfl, t, _, (j : Int), .ref rj, rfl, rfl, sqt hB1.1, atI_nat hxj, ?_⟩
  refine ⟨rj, _, rfl, sqt hj1, rfl, _, _, rfl, _, _, rfl, rfl, ?_⟩
  -- spot
  refine ⟨_, rfl, _, rfl, st, ca, la, a + 1, (n : Int), rfl, hS1, by omega, by omega, by omega, fun r1 H2 hr10 hr11 b12 hS2 => ?_⟩
  obtain ⟨sp, rfl⟩ : ∃ s : Nat, r1 = (s : Int) := ⟨r1.toNat, by omega⟩
  have hsp : sp < cs.length := by omega
  have b02 : But [st, la] H H2 := b01.trans b12
  have hB2 := hB.keep b02.tup
  have hc2 : CubeH H2 c cs := hj2.keep b12.tup
  -- other
  have hclm : (cs.map V.int).length = cs.length := List.length_map _
  refine ⟨_, rfl, _, rfl, _, rfl, _, rfl, c, cs.map V.int, rfl, hc2, fun p1 H3 s3 e3 => ?_⟩
  have hc3 : CubeH H3 c cs := s3 _ _ hc2
  refine ⟨_, rfl, _, rfl, c, _, (sp : Int), .int cs[sp], rfl, rfl, sqt hc3, atI_nat (int_at hsp), _, _, rfl, rfl, _, _, rfl, rfl, (by show (0 : Int) < 3; decide), (by show 1 ≤ sizeLine; decide), fun t4 ht4 => ?_⟩
  have hr4 := half_read (b := (cs[sp] + 1) % 3) (Q := fun x H5 => True → ∀ p, x = .ref p → CubeH H5 p (cs.set sp ((cs[sp] + 1) % 3)) → True) hc2 hsp (by omega) (fun p H5 _ _ _ _ _ _ => trivial) p1 H3 s3 e3 t4 ht4
  have s4 := same_upd (o := .tup [.int ((cs[sp] + 1) % 3)]) ht4
  have et4 : (upd H3 t4 (.tup [.int ((cs[sp] + 1) % 3)])) t4 = some (.tup [.int ((cs[sp] + 1) % 3)]) := upd_same
  have e3' : (upd H3 t4 (.tup [.int ((cs[sp] + 1) % 3)])) p1 = some (.tup (cutV (cs.map V.int) none (some (sp : Int)))) := s4 _ _ e3
  have hc4 : CubeH (upd H3 t4 (.tup [.int ((cs[sp] + 1) % 3)])) c cs := s4 _ _ hc3
  have s24 : Same H2 (upd H3 t4 (.tup [.int ((cs[sp] + 1) % 3)])) := s3.trans s4
  generalize upd H3 t4 (.tup [.int ((cs[sp] + 1) % 3)]) = H4 at s24 et4 e3' hc4 ⊢
  clear hr4 s4
  rw [cut_to (by omega)] at e3'
  refine ⟨p1, t4, _, _, rfl, rfl, e3', et4, by rw [List.length_take, hclm]; simp; omega, fun p5 H5 s5 e5 => ?_⟩
  refine ⟨_, rfl, _, rfl, _, _, rfl, rfl, _, rfl, c, cs.map V.int, rfl, s5 _ _ hc4, fun p6 H6 s6 e6 => ?_⟩
  rw [show ((sp : Int) + 1) = ((sp + 1 : Nat) : Int) by omega, cut_from (by omega)] at e6
  refine ⟨p5, p6, _, _, rfl, rfl, s6 _ _ e5, e6, ?_, fun p7 H7 s7 e7 => ?_⟩
  · simp only [List.length_append, List.length_take, List.length_drop, hclm, List.length_cons, List.length_nil]
    omega
  have hb3 : (cs[sp] + 1) % 3 = 0 ∨ (cs[sp] + 1) % 3 = 1 ∨ (cs[sp] + 1) % 3 = 2 := by omega
  generalize (cs[sp] + 1) % 3 = b3 at hb3 e5 e7
  have e7' : CubeH H7 p7 (cs.set sp b3) := by
    show H7 p7 = _
    rw [e7, set_cut hsp]
  refine ⟨(by show 2 ≤ sizeLine; decide), fun ot hot => ?_⟩
  have s8 := same_upd (o := .tup [.int lv, .ref p7]) hot
  have s28 : Same H2 (upd H7 ot (.tup [.int lv, .ref p7])) := s24.trans (s5.trans (s6.trans (s7.trans s8)))
  have eOt : EntH (upd H7 ot (.tup [.int lv, .ref p7])) ot (lv, cs.set sp b3) := ⟨p7, upd_same, s8 _ _ e7'⟩
  generalize upd H7 ot (.tup [.int lv, .ref p7]) = H8 at s28 eOt ⊢
  have okO : EnOk n (lv, cs.set sp b3) := ⟨ok1, by show lv ≤ 4; omega, by show (cs.set sp b3).length = n; rw [List.length_set]; exact ok3, ok4.set sp hb3⟩
  have hOk : ∀ k ∈ ks, EnOk n k.2 := fun k hk => (hO k hk).1
  clear e7' e7 e6 e5 hc4 et4 e3' s24 s5 s6 s7 s8
  have hB8 := hB2.keep (same_tup s28)
  -- the first three
  refine ⟨_, rfl, _, rfl, _, rfl, t, _, rfl, hB8.1, fun p9 H9 s9 e9 => ?_⟩
  refine ⟨_, rfl, _, rfl, _, _, rfl, rfl, _, rfl, t, _, rfl, s9 _ _ hB8.1, fun p10 H10 s10 e10 => ?_⟩
  have b9 := book_cut (hB8) (same_tup (s9.trans s10)) (s10 _ _ e9)
  have b10 := book_cut (hB8) (same_tup (s9.trans s10)) e10
  refine ⟨p9, p10, _, _, rfl, rfl, b9.1, b10.1, ?_, fun x1 H11 s11 e11 => ?_⟩
  · rw [List.length_map, List.length_map]
    have h1 := @cutK_len ks none (some (j : Int))
    have h2 := @cutK_len ks (some ((j : Int) + 1)) none
    omega
  have g1 : GoodB n H11 (.ref x1) := ⟨x1, _, rfl, book_cat b9 b10 (same_tup s11) e11, fun k hk => by
    rcases List.mem_append.mp hk with z | z
    · exact hOk k (cutK_sub k z)
    · exact hOk k (cutK_sub k z), by
    rw [List.length_append]
    have h1 := @cutK_len ks none (some (j : Int))
    have h2 := @cutK_len ks (some ((j : Int) + 1)) none
    omega⟩
  have s8_11 : Same H8 H11 := s9.trans (s10.trans s11)
  clear b9 b10 e9 e10 e11 s9 s10 s11
  have hB11 := hB8.keep (same_tup s8_11)
  have eOt11 := eOt.keep (same_tup s8_11)
  -- tuple(sorted(set(told + (other,))))
  refine ⟨_, rfl, _, rfl, (by show 1 ≤ sizeLine; decide), fun t12 ht12 => ?_⟩
  have s12 := same_upd (o := .tup [.ref ot]) ht12
  have bOt : BookH (upd H11 t12 (.tup [.ref ot])) t12 [(ot, (lv, cs.set sp b3))] := ⟨upd_same, fun k hk => by
    have : k = (ot, (lv, cs.set sp b3)) := by simpa using hk
    subst this
    exact eOt11.keep (same_tup s12)⟩
  have hB12 := hB11.keep (same_tup s12)
  generalize upd H11 t12 (.tup [.ref ot]) = H12 at s12 bOt hB12 ⊢
  refine ⟨t, t12, _, _, rfl, rfl, hB12.1, bOt.1, by rw [hkm]; simp; omega, fun p13 H13 s13 e13 => ?_⟩
  have b13 := book_cat hB12 bOt (same_tup s13) e13
  have okA : ∀ k ∈ ks ++ [((ot, (lv, cs.set sp b3)) : AE)], EnOk n k.2 := fun k hk => by
    rcases List.mem_append.mp hk with z | z
    · exact hOk k z
    · have : k = (ot, (lv, cs.set sp b3)) := by simpa using z
      rw [this]
      exact okO
  refine ⟨p13, _, rfl, sqt b13.1, b13.2, (by rw [List.length_append, List.length_singleton]; omega), fun a14 ha14 => ⟨a14, _, rfl, upd_same, fun k hk => (b13.2 k hk).keep (same_tup (same_upd ha14)), fun ks2 q14 sub14 hl14 hq14 => ⟨q14, _, rfl, .inl ⟨SqL.of upd_same, fun x2 hx2 => ?_⟩⟩⟩⟩
  have s14 := (same_upd ha14).trans ((same_upd hq14).trans (same_upd (o := .tup (ks2.map fun k => V.ref k.1)) hx2))
  have b14 : BookH _ x2 ks2 := ⟨upd_same (o := .tup (ks2.map fun k => V.ref k.1)), fun k hk => (b13.2 k (sub14 k hk)).keep (same_tup s14)⟩
  have len14 : ks2.length ≤ 63 := by omega
  generalize upd _ x2 (.tup (ks2.map fun k => V.ref k.1)) = H14 at s14 b14 ⊢
  have g2 : GoodB n H14 (.ref x2) := ⟨x2, ks2, rfl, b14, fun k hk => okA k (sub14 k hk), len14⟩
  have s8_14 : Same H8 H14 := s8_11.trans (s12.trans (s13.trans s14))
  have g1 := g1.keep (same_tup (s12.trans (s13.trans s14)))
  clear b13 b14 bOt hB12 e13 s12 s13 s14 hB11 eOt11
  have hB14 := hB8.keep (same_tup s8_14)
  have eOt14 := eOt.keep (same_tup s8_14)
  -- told[:at] + (other,) + told[at + 1:]
  refine ⟨_, rfl, _, rfl, _, rfl, t, _, rfl, hB14.1, fun p15 H15 s15 e15 => ?_⟩
  refine ⟨_, rfl, (by show 1 ≤ sizeLine; decide), fun t16 ht16 => ?_⟩
  have s16 := same_upd (o := .tup [.ref ot]) ht16
  have bOt : BookH (upd H15 t16 (.tup [.ref ot])) t16 [(ot, (lv, cs.set sp b3))] := ⟨upd_same, fun k hk => by
    have : k = (ot, (lv, cs.set sp b3)) := by simpa using hk
    subst this
    exact eOt14.keep (same_tup (s15.trans s16))⟩
  have b15 := book_cut hB14 (same_tup (s15.trans s16)) (s16 _ _ e15)
  have s14_16 : Same H14 (upd H15 t16 (.tup [.ref ot])) := s15.trans s16
  generalize upd H15 t16 (.tup [.ref ot]) = H16 at bOt b15 s14_16 ⊢
  have lc1 := @cutK_len ks none (some (j : Int))
  have lc2 := @cutK_len ks (some ((j : Int) + 1)) none
  refine ⟨p15, t16, _, _, rfl, rfl, b15.1, bOt.1, by rw [List.length_map]; simp; omega, fun p17 H17 s17 e17 => ?_⟩
  have b17 := book_cat b15 bOt (same_tup s17) e17
  have hB17 := hB14.keep (same_tup (s14_16.trans s17))
  refine ⟨_, rfl, _, rfl, _, _, rfl, rfl, _, rfl, t, _, rfl, hB17.1, fun p18 H18 s18 e18 => ?_⟩
  have b18 := book_cut hB17 (same_tup s18) e18
  have b17' := b17.keep (same_tup s18)
  refine ⟨p17, p18, _, _, rfl, rfl, b17'.1, b18.1, by rw [List.length_map, List.length_map, List.length_append, List.length_singleton]; omega, fun x3 H19 s19 e19 => ?_⟩
  have b19 := book_cat b17' b18 (same_tup s19) e19
  have okC : ∀ k ∈ (cutK ks none (some (j : Int)) ++ [((ot, (lv, cs.set sp b3)) : AE)]) ++ cutK ks (some ((j : Int) + 1)) none, EnOk n k.2 := fun k hk => by
    rcases List.mem_append.mp hk with z | z
    · rcases List.mem_append.mp z with y | y
      · exact hOk k (cutK_sub k y)
      · have : k = (ot, (lv, cs.set sp b3)) := by simpa using y
        rw [this]
        exact okO
    · exact hOk k (cutK_sub k z)
  have lenC : ((cutK ks none (some (j : Int)) ++ [((ot, (lv, cs.set sp b3)) : AE)]) ++ cutK ks (some ((j : Int) + 1)) none).length < 63 := by
    rw [List.length_append, List.length_append, List.length_singleton]
    omega
  have g3 : GoodB n H19 (.ref x3) := ⟨x3, _, rfl, b19, okC, by omega⟩
  have s14_19 : Same H14 H19 := s14_16.trans (s17.trans (s18.trans s19))
  have g1 := g1.keep (same_tup s14_19)
  have g2 := g2.keep (same_tup s14_19)
  have s8_19 : Same H8 H19 := s8_14.trans s14_19
  clear b19 b18 b17 b17' b15 bOt hB17 e19 e18 e17 s14_16 s15 s16 s17 s18 s19 e15 hB14 eOt14
  refine ⟨(by show 3 ≤ sizeLine; decide), fun l1 hl1 => ?_⟩
  have s20 := same_upd (o := .lst [.ref x1, .ref x2, .ref x3]) hl1
  have el1 : (upd H19 l1 (.lst [.ref x1, .ref x2, .ref x3])) l1 = some (.lst [.ref x1, .ref x2, .ref x3]) := upd_same
  have g1 := g1.keep (same_tup s20)
  have g2 := g2.keep (same_tup s20)
  have g3 := g3.keep (same_tup s20)
  have s8_20 : Same H8 (upd H19 l1 (.lst [.ref x1, .ref x2, .ref x3])) := s8_19.trans s20
  generalize upd H19 l1 (.lst [.ref x1, .ref x2, .ref x3]) = H20 at el1 g1 g2 g3 s8_20 ⊢
  clear s20 s8_19
  have hB20 := hB8.keep (same_tup s8_20)
  -- the next three
  refine ⟨_, rfl, _, rfl, t, _, rfl, sqt hB20.1, fun x4 hx4 => ?_⟩
  have s21 := same_upd (o := .tup (ks.map fun k => V.ref k.1).reverse) hx4
  have g4 : GoodB n (upd H20 x4 (.tup (ks.map fun k => V.ref k.1).reverse)) (.ref x4) := ⟨x4, ks.reverse, rfl, ⟨by rw [upd_same, List.map_reverse], fun k hk => (hB20.2 k (List.mem_reverse.mp hk)).keep (same_tup s21)⟩, fun k hk => hOk k (List.mem_reverse.mp hk), by rw [List.length_reverse]; omega⟩
  generalize upd H20 x4 (.tup (ks.map fun k => V.ref k.1).reverse) = H21 at s21 g4 ⊢
  have hB21 := hB20.keep (same_tup s21)
  -- told + told[at:at + 1]
  refine ⟨_, rfl, _, rfl, _, rfl, _, rfl, _, rfl, _, _, rfl, rfl, _, rfl, t, _, rfl, hB21.1, fun p22 H22 s22 e22 => ?_⟩
  have b22 := book_cut hB21 (same_tup s22) e22
  have hB22 := hB21.keep (same_tup s22)
  have lc3 := @cutK_len ks (some (j : Int)) (some ((j : Int) + 1))
  refine ⟨t, p22, _, _, rfl, rfl, hB22.1, b22.1, by rw [hkm, List.length_map]; omega, fun x5 H23 s23 e23 => ?_⟩
  have g5 : GoodB n H23 (.ref x5) := ⟨x5, _, rfl, book_cat hB22 b22 (same_tup s23) e23, fun k hk => by
    rcases List.mem_append.mp hk with z | z
    · exact hOk k z
    · exact hOk k (cutK_sub k z), by rw [List.length_append]; omega⟩
  have s20_23 : Same H20 H23 := s21.trans (s22.trans s23)
  have g4 := g4.keep (same_tup (s22.trans s23))
  clear b22 hB22 hB21 e22 e23 s21 s22 s23
  have hB23 := hB20.keep (same_tup s20_23)
  have hc23 : CubeH H23 c cs := s20_23 _ _ (s8_20 _ _ (s28 _ _ hc2))
  -- the level one up
  refine ⟨_, rfl, _, rfl, _, _, rfl, rfl, _, rfl, (by show 2 ≤ sizeLine; decide), fun t24 ht24 => ⟨(by show 1 ≤ sizeLine; decide), fun t25 ht25 => ?_⟩⟩
  have s24 := same_upd (o := .tup [.int (lv + 1), .ref c]) ht24
  have s25 := same_upd (o := .tup [.ref t24]) ht25
  have bUp : BookH (upd (upd H23 t24 (.tup [.int (lv + 1), .ref c])) t25 (.tup [.ref t24])) t25 [(t24, (lv + 1, cs))] := ⟨upd_same, fun k hk => by
    have : k = (t24, (lv + 1, cs)) := by simpa using hk
    subst this
    exact ⟨c, s25 _ _ upd_same, s25 _ _ (s24 _ _ hc23)⟩⟩
  have s23_25 : Same H23 (upd (upd H23 t24 (.tup [.int (lv + 1), .ref c])) t25 (.tup [.ref t24])) := s24.trans s25
  generalize upd (upd H23 t24 (.tup [.int (lv + 1), .ref c])) t25 (.tup [.ref t24]) = H25 at bUp s23_25 ⊢
  have hB25 := hB23.keep (same_tup s23_25)
  refine ⟨t, t25, _, _, rfl, rfl, hB25.1, bUp.1, by rw [hkm]; simp; omega, fun p26 H26 s26 e26 => ?_⟩
  have b26 := book_cat hB25 bUp (same_tup s26) e26
  have okU : ∀ k ∈ ks ++ [((t24, (lv + 1, cs)) : AE)], EnOk n k.2 := fun k hk => by
    rcases List.mem_append.mp hk with z | z
    · exact hOk k z
    · have : k = (t24, (lv + 1, cs)) := by simpa using z
      rw [this]
      exact ⟨by show 0 ≤ lv + 1; omega, by show lv + 1 ≤ 4; omega, ok3, ok4⟩
  refine ⟨p26, _, rfl, sqt b26.1, b26.2, (by rw [List.length_append, List.length_singleton]; omega), fun a27 ha27 => ⟨a27, _, rfl, upd_same, fun k hk => (b26.2 k hk).keep (same_tup (same_upd ha27)), fun ks6 q27 sub27 hl27 hq27 => ⟨q27, _, rfl, .inl ⟨SqL.of upd_same, fun x6 hx6 => ?_⟩⟩⟩⟩
  have s27 := (same_upd ha27).trans ((same_upd hq27).trans (same_upd (o := .tup (ks6.map fun k => V.ref k.1)) hx6))
  have b27 : BookH _ x6 ks6 := ⟨upd_same (o := .tup (ks6.map fun k => V.ref k.1)), fun k hk => (b26.2 k (sub27 k hk)).keep (same_tup s27)⟩
  have len27 : ks6.length ≤ 63 := by omega
  generalize upd _ x6 (.tup (ks6.map fun k => V.ref k.1)) = H27 at s27 b27 ⊢
  have g6 : GoodB n H27 (.ref x6) := ⟨x6, ks6, rfl, b27, fun k hk => okU k (sub27 k hk), len27⟩
  have s23_27 : Same H23 H27 := s23_25.trans (s26.trans s27)
  have s20_27 : Same H20 H27 := s20_23.trans s23_27
  have g5 := g5.keep (same_tup s23_27)
  have g4 := g4.keep (same_tup s23_27)
  have g3 := g3.keep (same_tup s20_27)
  have g2 := g2.keep (same_tup s20_27)
  have g1 := g1.keep (same_tup s20_27)
  clear b26 b27 bUp hB25 e26 s23_25 s24 s25 s26 s27 hB23
  refine ⟨(by show 3 ≤ sizeLine; decide), fun l2 hl2 => ?_⟩
  have s28' := same_upd (o := .lst [.ref x4, .ref x5, .ref x6]) hl2
  refine ⟨l1, l2, _, _, rfl, rfl, s28' _ _ (s20_27 _ _ el1), upd_same, (by show 6 ≤ sizeLine; decide), fun l3 hl3 => ?_⟩
  have s29 := same_upd (o := .lst ([.ref x1, .ref x2, .ref x3] ++ [.ref x4, .ref x5, .ref x6])) hl3
  have el3 : (upd (upd H27 l2 (.lst [.ref x4, .ref x5, .ref x6])) l3 (.lst ([.ref x1, .ref x2, .ref x3] ++ [.ref x4, .ref x5, .ref x6]))) l3 = some (.lst [.ref x1, .ref x2, .ref x3, .ref x4, .ref x5, .ref x6]) := upd_same
  have s27_29 : Same H27 (upd (upd H27 l2 (.lst [.ref x4, .ref x5, .ref x6])) l3 (.lst ([.ref x1, .ref x2, .ref x3] ++ [.ref x4, .ref x5, .ref x6]))) := s28'.trans s29
  generalize upd (upd H27 l2 (.lst [.ref x4, .ref x5, .ref x6])) l3 (.lst ([.ref x1, .ref x2, .ref x3] ++ [.ref x4, .ref x5, .ref x6])) = H29 at el3 s27_29 ⊢
  have s2_29 : Same H2 H29 := s28.trans (s8_20.trans (s20_27.trans s27_29))
  have g6 := g6.keep (same_tup s27_29)
  have g5 := g5.keep (same_tup s27_29)
  have g4 := g4.keep (same_tup s27_29)
  have g3 := g3.keep (same_tup s27_29)
  have g2 := g2.keep (same_tup s27_29)
  have g1 := g1.keep (same_tup s27_29)
  have hB29 := hB2.keep (same_tup s2_29)
  have hS29 := hS2.same s2_29
  have eOt29 := eOt.keep (same_tup (s8_20.trans (s20_27.trans s27_29)))
  have nl3 : l3 ≠ st ∧ l3 ≠ ca ∧ l3 ≠ la := by
    obtain ⟨_, _, e1, e2, e3, _⟩ := id hS2
    have s27 : Same H2 (upd H27 l2 (.lst [.ref x4, .ref x5, .ref x6])) := s28.trans (s8_20.trans (s20_27.trans s28'))
    exact ⟨(ne_of_none (s27 _ _ e1) hl3).symm, (ne_of_none (s27 _ _ e2) hl3).symm, (ne_of_none (s27 _ _ e3) hl3).symm⟩
  have hl3H2 : H2 l3 = none := by
    cases hz : H2 l3 with
    | none => rfl
    | some u =>
      have s27 : Same H2 (upd H27 l2 (.lst [.ref x4, .ref x5, .ref x6])) := s28.trans (s8_20.trans (s20_27.trans s28'))
      rw [s27 _ _ hz] at hl3
      cases hl3
  clear s28' s29
  -- those above the ground
  refine ⟨_, rfl, .inl ⟨rfl, _, SqL.of el3⟩, ?_⟩
  refine ⟨_, rfl, t, rfl, ⟨_, sqt hB29.1⟩, fun D hD => ?_⟩
  refine lc_it (walk_tup (xs := ks.map fun k => V.ref k.1)) (fun i H' => Same H29 H' ∧ ∃ ms : List AE, H' D = some (.lst (ms.map fun k => V.ref k.1)) ∧ (∀ k ∈ ms, k ∈ ks) ∧ ms.length ≤ i) ⟨same_upd hD, [], upd_same, (fun k hk => absurd hk (by simp)), Nat.le_refl _⟩
    (fun i H' _ p => sqt (p.1 _ _ hB29.1)) (fun i x H' H'' hi p y => ?_) (fun H30 p => ?_)
  · obtain ⟨e0, hx⟩ := y
    subst e0
    obtain ⟨p1, ms, p2, p3, p4⟩ := p
    rw [List.getElem?_map] at hx
    obtain ⟨k, hki, rfl⟩ := Option.map_eq_some_iff.mp hx
    have hkk := List.mem_of_getElem? hki
    obtain ⟨cc, hk1, hk2⟩ := (hB29.keep (same_tup p1)).2 k hkk
    refine ⟨rfl, _, rfl, k.1, [.int k.2.1, .ref cc], 0, _, rfl, rfl, sqt hk1, atI_nat (j := 0) rfl, _, _, rfl, rfl, _, rfl, if2 (fun hg => ?_) (fun hg => ?_)⟩
    · refine ⟨_, rfl, _, p2, by rw [List.length_map]; exact small1000 (by omega), fun b u eb => ?_, ms ++ [k], ?_, fun k' hk' => ?_, ?_⟩
      · rw [upd_ne (fun e => by rw [e, hD] at eb; cases eb)]
        exact p1 _ _ eb
      · rw [upd_same, List.map_append]
        rfl
      · rcases List.mem_append.mp hk' with z | z
        · exact p3 k' z
        · have : k' = k := by simpa using z
          rw [this]; exact hkk
      · rw [List.length_append]
        exact Nat.succ_le_succ p4
    · exact ⟨p1, ms, p2, p3, Nat.le_succ_of_le p4⟩
  obtain ⟨s30, ms7, e30, sub30, len30⟩ := p
  rw [hkm] at len30
  refine ⟨D, _, rfl, .inl ⟨SqL.of e30, fun x7 hx7 => ?_⟩⟩
  have s31 := same_upd (o := .tup (ms7.map fun k => V.ref k.1)) hx7
  have s29_31 : Same H29 (upd H30 x7 (.tup (ms7.map fun k => V.ref k.1))) := s30.trans s31
  have g7 : GoodB n (upd H30 x7 (.tup (ms7.map fun k => V.ref k.1))) (.ref x7) := ⟨x7, ms7, rfl, ⟨upd_same, fun k hk => (hB29.2 k (sub30 k hk)).keep (same_tup s29_31)⟩, fun k hk => hOk k (sub30 k hk), by omega⟩
  generalize upd H30 x7 (.tup (ms7.map fun k => V.ref k.1)) = H31 at s29_31 g7 ⊢
  clear s30 s31 e30
  have el31 := s29_31 _ _ el3
  refine ⟨l3, _, _, rfl, rfl, el31, small1000 (by show 6 ≤ 1000; decide), ?_⟩
  have bA : But [l3] H31 (upd H31 l3 (.lst ([.ref x1, .ref x2, .ref x3, .ref x4, .ref x5, .ref x6] ++ [.ref x7]))) := But.at (by simp) el31 (by intro xs z; cases z)
  have el32 : (upd H31 l3 (.lst ([.ref x1, .ref x2, .ref x3, .ref x4, .ref x5, .ref x6] ++ [.ref x7]))) l3 = some (.lst [.ref x1, .ref x2, .ref x3, .ref x4, .ref x5, .ref x6, .ref x7]) := upd_same
  generalize upd H31 l3 (.lst ([.ref x1, .ref x2, .ref x3, .ref x4, .ref x5, .ref x6] ++ [.ref x7])) = H32 at bA el32 ⊢
  have b29_32 : But [l3] H29 H32 := (But.same s29_31).trans bA
  have hB32 := hB29.keep b29_32.tup
  -- the level left out
  refine ⟨_, rfl, .inl ⟨rfl, _, SqL.of el32⟩, ?_⟩
  refine ⟨_, rfl, t, rfl, ⟨_, sqt hB32.1⟩, fun D2 hD2 => ?_⟩
  refine lc_it (walk_tup (xs := ks.map fun k => V.ref k.1)) (fun i H' => Same H32 H' ∧ ∃ ms : List AE, H' D2 = some (.lst (ms.map fun k => V.ref k.1)) ∧ (∀ k ∈ ms, k ∈ ks) ∧ ms.length ≤ i) ⟨same_upd hD2, [], upd_same, (fun k hk => absurd hk (by simp)), Nat.le_refl _⟩
    (fun i H' _ p => sqt (p.1 _ _ hB32.1)) (fun i x H' H'' hi p y => ?_) (fun H33 p => ?_)
  · obtain ⟨e0, hx⟩ := y
    subst e0
    obtain ⟨p1, ms, p2, p3, p4⟩ := p
    rw [List.getElem?_map] at hx
    obtain ⟨k, hki, rfl⟩ := Option.map_eq_some_iff.mp hx
    have hkk := List.mem_of_getElem? hki
    have hBx := hB32.keep (same_tup p1)
    obtain ⟨cc, hk1, hk2⟩ := hBx.2 k hkk
    have add : ∃ acc, H'' D2 = some (.lst acc) ∧ acc.length < sizeLine ∧ Same H32 (upd H'' D2 (.lst (acc ++ [.ref k.1]))) ∧ ∃ ms : List AE, (upd H'' D2 (.lst (acc ++ [.ref k.1]))) D2 = some (.lst (ms.map fun k => V.ref k.1)) ∧ (∀ k ∈ ms, k ∈ ks) ∧ ms.length ≤ i + 1 := by
      refine ⟨_, p2, by rw [List.length_map]; exact small1000 (by omega), fun b u eb => ?_, ms ++ [k], ?_, fun k' hk' => ?_, ?_⟩
      · rw [upd_ne (fun e => by rw [e, hD2] at eb; cases eb)]
        exact p1 _ _ eb
      · rw [upd_same, List.map_append]
        rfl
      · rcases List.mem_append.mp hk' with z | z
        · exact p3 k' z
        · have : k' = k := by simpa using z
          rw [this]; exact hkk
      · rw [List.length_append]
        exact Nat.succ_le_succ p4
    refine ⟨rfl, _, rfl, k.1, [.int k.2.1, .ref cc], 0, _, rfl, rfl, sqt hk1, atI_nat (j := 0) rfl, _, rfl, rfl, _, rfl, if2 (fun hg => ?_) (fun hg => ?_)⟩
    · exact ifT rfl ⟨_, rfl, add⟩
    · refine ⟨_, rfl, _, rfl, _, rfl, t, _, (j : Int), .ref rj, rfl, rfl, sqt hBx.1, atI_nat hxj, k.1, rj, k.2, (lv, cs), rfl, rfl, ⟨cc, hk1, hk2⟩, hBx.2 _ hkm', fun bb => ⟨bb, rfl, ?_⟩⟩
      cases bb with
      | true => exact ifT rfl ⟨_, rfl, add⟩
      | false => exact ifF rfl ⟨p1, ms, p2, p3, Nat.le_succ_of_le p4⟩
  obtain ⟨s33, ms8, e33, sub33, len33⟩ := p
  rw [hkm] at len33
  refine ⟨D2, _, rfl, .inl ⟨SqL.of e33, fun x8 hx8 => ?_⟩⟩
  have s34 := same_upd (o := .tup (ms8.map fun k => V.ref k.1)) hx8
  have s32_34 : Same H32 (upd H33 x8 (.tup (ms8.map fun k => V.ref k.1))) := s33.trans s34
  have g8 : GoodB n (upd H33 x8 (.tup (ms8.map fun k => V.ref k.1))) (.ref x8) := ⟨x8, ms8, rfl, ⟨upd_same, fun k hk => (hB32.2 k (sub33 k hk)).keep (same_tup s32_34)⟩, fun k hk => hOk k (sub33 k hk), by omega⟩
  generalize upd H33 x8 (.tup (ms8.map fun k => V.ref k.1)) = H34 at s32_34 g8 ⊢
  clear s33 s34 e33
  have el34 := s32_34 _ _ el32
  refine ⟨l3, _, _, rfl, rfl, el34, small1000 (by show 7 ≤ 1000; decide), ?_⟩
  have bA2 : But [l3] H34 (upd H34 l3 (.lst ([.ref x1, .ref x2, .ref x3, .ref x4, .ref x5, .ref x6, .ref x7] ++ [.ref x8]))) := But.at (by simp) el34 (by intro xs z; cases z)
  have el35 : (upd H34 l3 (.lst ([.ref x1, .ref x2, .ref x3, .ref x4, .ref x5, .ref x6, .ref x7] ++ [.ref x8]))) l3 = some (.lst [.ref x1, .ref x2, .ref x3, .ref x4, .ref x5, .ref x6, .ref x7, .ref x8]) := upd_same
  generalize upd H34 l3 (.lst ([.ref x1, .ref x2, .ref x3, .ref x4, .ref x5, .ref x6, .ref x7] ++ [.ref x8])) = H35 at bA2 el35 ⊢
  have b29_35 : But [l3] H29 H35 := b29_32.trans ((But.same s32_34).trans bA2)
  have hB35 := hB29.keep b29_35.tup
  have eOt35 := eOt29.keep b29_35.tup
  -- the last one
  refine ⟨_, rfl, .inl ⟨rfl, _, SqL.of el35⟩, ?_⟩
  refine ⟨_, rfl, _, rfl, _, rfl, t, _, rfl, hB35.1, fun p36 H36 s36 e36 => ?_⟩
  refine ⟨_, rfl, (by show 1 ≤ sizeLine; decide), fun t37 ht37 => ?_⟩
  have s37 := same_upd (o := .tup [.ref ot]) ht37
  have bOt : BookH (upd H36 t37 (.tup [.ref ot])) t37 [(ot, (lv, cs.set sp b3))] := ⟨upd_same, fun k hk => by
    have : k = (ot, (lv, cs.set sp b3)) := by simpa using hk
    subst this
    exact eOt35.keep (same_tup (s36.trans s37))⟩
  have b36 := book_cut hB35 (same_tup (s36.trans s37)) (s37 _ _ e36)
  have s35_37 : Same H35 (upd H36 t37 (.tup [.ref ot])) := s36.trans s37
  generalize upd H36 t37 (.tup [.ref ot]) = H37 at bOt b36 s35_37 ⊢
  refine ⟨p36, t37, _, _, rfl, rfl, b36.1, bOt.1, by rw [List.length_map]; simp; omega, fun p38 H38 s38 e38 => ?_⟩
  have b38 := book_cat b36 bOt (same_tup s38) e38
  have hB38 := hB35.keep (same_tup (s35_37.trans s38))
  refine ⟨_, rfl, _, rfl, _, _, rfl, rfl, _, rfl, t, _, rfl, hB38.1, fun p39 H39 s39 e39 => ?_⟩
  have b39 := book_cut hB38 (same_tup s39) e39
  have b38' := b38.keep (same_tup s39)
  refine ⟨p38, p39, _, _, rfl, rfl, b38'.1, b39.1, by rw [List.length_map, List.length_map, List.length_append, List.length_singleton]; omega, fun p40 H40 s40 e40 => ?_⟩
  have b40 := book_cat b38' b39 (same_tup s40) e40
  refine ⟨p40, _, rfl, sqt b40.1, b40.2, lenC, fun a41 ha41 => ⟨a41, _, rfl, upd_same, fun k hk => (b40.2 k hk).keep (same_tup (same_upd ha41)), fun ks9 q41 sub41 hl41 hq41 => ⟨q41, _, rfl, .inl ⟨SqL.of upd_same, fun x9 hx9 => ?_⟩⟩⟩⟩
  have s41 := (same_upd ha41).trans ((same_upd hq41).trans (same_upd (o := .tup (ks9.map fun k => V.ref k.1)) hx9))
  have b41 : BookH _ x9 ks9 := ⟨upd_same (o := .tup (ks9.map fun k => V.ref k.1)), fun k hk => (b40.2 k (sub41 k hk)).keep (same_tup s41)⟩
  have len41 : ks9.length ≤ 63 := by omega
  generalize upd _ x9 (.tup (ks9.map fun k => V.ref k.1)) = H41 at s41 b41 ⊢
  have g9 : GoodB n H41 (.ref x9) := ⟨x9, ks9, rfl, b41, fun k hk => okC k (sub41 k hk), len41⟩
  have s35_41 : Same H35 H41 := s35_37.trans (s38.trans (s39.trans (s40.trans s41)))
  have el41 := s35_41 _ _ el35
  refine ⟨l3, _, _, rfl, rfl, el41, small1000 (by show 8 ≤ 1000; decide), ?_⟩
  have bA3 : But [l3] H41 (upd H41 l3 (.lst ([.ref x1, .ref x2, .ref x3, .ref x4, .ref x5, .ref x6, .ref x7, .ref x8] ++ [.ref x9]))) := But.at (by simp) el41 (by intro xs z; cases z)
  have el42 : (upd H41 l3 (.lst ([.ref x1, .ref x2, .ref x3, .ref x4, .ref x5, .ref x6, .ref x7, .ref x8] ++ [.ref x9]))) l3 = some (.lst [.ref x1, .ref x2, .ref x3, .ref x4, .ref x5, .ref x6, .ref x7, .ref x8, .ref x9]) := upd_same
  generalize upd H41 l3 (.lst ([.ref x1, .ref x2, .ref x3, .ref x4, .ref x5, .ref x6, .ref x7, .ref x8] ++ [.ref x9])) = H42 at bA3 el42 ⊢
  have k31 : KeepT H31 H42 := bA.tup.trans ((same_tup s32_34).trans (bA2.tup.trans ((same_tup s35_41).trans bA3.tup)))
  have k34 : KeepT H34 H42 := bA2.tup.trans ((same_tup s35_41).trans bA3.tup)
  have b29_42 : But [l3] H29 H42 := b29_35.trans ((But.same s35_41).trans bA3)
  have hS42 := hS29.but b29_42 (by simp; exact nl3.1.symm) (by simp; exact nl3.2.1.symm) (by simp; exact nl3.2.2.symm)
  refine ⟨_, rfl, _, rfl, st, ca, la, l3, a + 1 + 1, _, rfl, hS42, by omega, el42, nl3.2.2, by simp, by simp, fun x H43 hx b43 hS43 => ?_⟩
  have hb : But [st, la] H H43 := b02.trans (((But.same s2_29).trans (b29_42)).less (fun z hz => by
    have : z = l3 := by simpa using hz
    exact .inr (by rw [this]; exact hl3H2)) |>.trans b43)
  have hS43 : StH H43 st ca la (a + 3) := by
    rw [show a + 3 = a + 1 + 1 + 1 by omega]
    exact hS43
  refine q x H43 hb hS43 ?_
  have kf := b43.tup
  have k29 := b29_42.tup
  simp only [List.mem_cons, List.not_mem_nil, or_false] at hx
  rcases hx with z | z | z | z | z | z | z | z | z <;> rw [z]
  · exact (g1.keep k29).keep kf
  · exact (g2.keep k29).keep kf
  · exact (g3.keep k29).keep kf
  · exact (g4.keep k29).keep kf
  · exact (g5.keep k29).keep kf
  · exact (g6.keep k29).keep kf
  · exact (g7.keep k31).keep kf
  · exact (g8.keep k34).keep kf
  · exact (g9.keep bA3.tup).keep kf
end
end Kb
/-! The law's odd values. -/
namespace Kb
open PySem PySem.Spec PyProof.Rows L2
/-- what odd gives: no book, or a book out of order -/
def OddV (n : Nat) (H : Hp) (x : V) : Prop := NonBk n H x ∨ ∃ t ks, x = .ref t ∧ BookH H t ks ∧ (∀ k ∈ ks, EnOk n k.2) ∧ ks.length ≤ 63 ∧ ks ≠ [] ∧ srtB (ents ks) = false
def OddX (n : Nat) (st la : Addr) (H : Hp) (x : V) : Prop := ∀ H', But [st, la] H H' → OddV n H' x
theorem OddX.same {n : Nat} {st la : Addr} {H H1 : Hp} {x : V} (h : OddX n st la H x) (s : Same H H1) : OddX n st la H1 x := fun H' b => h H' ((But.same s).trans b)
theorem odd_judge {vals : List Int} {es : List En} {m : Int} (h : srtB es = false) (h0 : es ≠ []) : judgeB vals es m = false := by
  unfold judgeB
  split
  · cases es with
    | nil => exact absurd rfl h0
    | cons e es => rfl
  · rw [h, Bool.false_and]
theorem sh_one {n : Nat} {H : Hp} {st la u t : Addr} (e : H t = some (.tup [.ref u])) (h : ∀ H', But [st, la] H H' → Sh n H' (.ref u) false) : OddX n st la H (.ref t) := fun H' b => .inl (.one (b.tup _ _ e) (h H' b))
section
variable {P : Program} {w : World} {K : PySem.W.Frag} {mg : Str → Option Value} {base : Heap}
theorem scOdd : FnScope ["_law_state", "_law_count", "_law_told", "_law_some"] ["_law_state", "_law_count", "_law_told"] (defScope s_odd) := ⟨rfl, rfl, rfl, by decide +kernel, rfl, by decide +kernel, by decide +kernel⟩
def spOdd : Sp := fun vs H Q _ => ∃ (st ca la t : Addr) (a : Int) (n : Nat) (ks : List AE), vs = [.ref st, .int n, .ref t] ∧ (n = 2 ∨ n = 3) ∧ StH H st ca la a ∧ a ≤ 900 ∧ BookH H t ks ∧
  ∀ x H', But [st, la] H H' → StH H' st ca la (a + 1) → OddV n H' x → Q x H'
theorem ok_odd {f f2 : Addr} {fd fd2 : FuncData} (F0 : Fun K "_law_odd" "_law_odd" s_odd f fd)
    (G2 : FnOk P w K mg base CX0 3 f2 fd2 ["_law_state", "_law_some"] spOf) (b2 : Binds K fd2 ["_law_state", "_law_some"] []) (k2 : PySem.W.keepIn K (.ref f2) = true) (m2 : mg "_law_of" = some (.ref f2)) (mL : mg "list" = none) :
    FnOk P w K mg base CX0 4 f fd ["_law_state", "_law_count", "_law_told"] spOdd := by
  refine F0.ok scOdd (fun vs H Q E h => ?_) (fun cdv A outer s H vs Q E hr h => ?_)
  · obtain ⟨st, ca, la, t, a, n, ks, rfl, _⟩ := h
    rfl
  obtain ⟨st, ca, la, t, a, n, ks, rfl, hn, hS, ha, hB, q⟩ := h
  have nd := scOdd.nd
  refine ⟨_, pss_cons (ps_set (i := 3) nd rfl (.inl rfl) (pe_lst (pa_cons pe_non (pa_cons (pe_callTy call_list_of (by rfl) mL (by decide +kernel) (pa_cons (pv 2) pa_nil)) (pa_cons (pe_tup (pa_cons pe_non pa_nil))
        (pa_cons (pe_tup (pa_cons (pe_tup (pa_cons pe_int (pa_cons (pe_op op_repT (pe_tup (pa_cons pe_int pa_nil)) (pv 1)) (pa_cons pe_int pa_nil)))) pa_nil))
        (pa_cons (pe_tup (pa_cons (pe_tup (pa_cons pe_int (pa_cons (pe_op op_repT (pe_tup (pa_cons pe_int pa_nil)) (pv 1)) pa_nil))) pa_nil))
        (pa_cons (pe_tup (pa_cons (pe_tup (pa_cons pe_int (pa_cons (pe_op op_repT (pe_tup (pa_cons pe_int pa_nil)) (pe_op op_add (pv 1) pe_int)) pa_nil))) pa_nil)) (pa_cons pe_int pa_nil)))))))))
    (pss_cons (ps_set (i := 3) nd rfl (.inl rfl) (pe_op op_cat (pv 3) (pe_lst (pa_cons (pe_tup (pa_cons (pe_tup (pa_cons pe_bl (pa_cons (pe_op op_repT (pe_tup (pa_cons pe_int pa_nil)) (pv 1)) pa_nil))) pa_nil))
        (pa_cons (pe_tup (pa_cons (pe_tup (pa_cons (pe_un un_neg pe_int) (pa_cons (pe_op op_repT (pe_tup (pa_cons pe_int pa_nil)) (pv 1)) pa_nil))) pa_nil))
        (pa_cons (pe_tup (pa_cons (pe_tup (pa_cons pe_int (pa_cons (pe_op op_rep (pe_lst (pa_cons pe_int pa_nil)) (pv 1)) pa_nil))) pa_nil))
        (pa_cons (pe_tup (pa_cons (pe_tup (pa_cons pe_int (pa_cons (pe_op op_repT (pe_tup (pa_cons pe_bl pa_nil)) (pv 1)) pa_nil))) pa_nil)) pa_nil)))))))
    (pss_one (ps_ret (pe_call G2 hr (by rfl) m2 k2 b2 .nil pass0 (pa_cons (pv 0) (pa_cons (pe_op op_cat (pv 3) (pe_lst (pa_cons pe_str
        (pa_cons (pe_op op_repT (pe_tup (pa_cons (pe_tup (pa_cons pe_int (pa_cons (pe_op op_repT (pe_tup (pa_cons pe_int pa_nil)) (pv 1)) pa_nil))) pa_nil)) pe_int) pa_nil)))) pa_nil)))))), ?_⟩
  have hf0 : isF 0 ((2 ^ n : Nat) : Int) (.int 0) = true := by rcases hn with rfl | rfl <;> decide
  have hall3 : (List.replicate n (V.int 3)).all (isF 0 2) = false := by rcases hn with rfl | rfl <;> decide
  have hallT : (List.replicate n (V.bl true)).all (isF 0 2) = false := by rcases hn with rfl | rfl <;> decide
  have hsrt : ∀ {u : Addr}, srtB (ents [(u, ((0 : Int), List.replicate n (2 : Int))), (u, ((0 : Int), List.replicate n (2 : Int)))]) = false := by
    intro u
    show srtB [((0 : Int), List.replicate n (2 : Int)), ((0 : Int), List.replicate n (2 : Int))] = false
    rcases hn with rfl | rfl
    · decide +kernel
    · decide +kernel
  have sAll : Same H H := fun _ _ h => h
  have o1 : OddX n st la H .non := fun H' b => .inl (.typ .non (by decide))
  refine ⟨_, rfl, t, _, rfl, .inr (sqt hB.1), fun l2 hl2 => ?_⟩
  have s2 := same_upd (o := .lst (ks.map fun k => V.ref k.1)) hl2
  have nl2 : l2 ∉ [st, la] := by
    obtain ⟨_, _, e1, _, e3, _⟩ := id hS
    simp only [List.mem_cons, List.not_mem_nil, or_false, not_or]
    exact ⟨(ne_of_none e1 hl2).symm, (ne_of_none e3 hl2).symm⟩
  have o2 : OddX n st la (upd H l2 (.lst (ks.map fun k => V.ref k.1))) (.ref l2) := fun H' b => .inl (.typ (.lst (b.rest _ _ nl2 upd_same)) (by decide))
  generalize upd H l2 (.lst (ks.map fun k => V.ref k.1)) = K0 at s2 o2 ⊢
  have o1 := o1.same s2
  have hS := hS.same s2
  have sAll := sAll.trans s2
  refine ⟨(by show 1 ≤ sizeLine; decide), fun uK1 huK1 => ?_⟩
  have sK1 := same_upd (o := .tup [.non]) huK1
  have eK1 : (upd K0 uK1 (.tup [.non])) uK1 = some (.tup [.non]) := upd_same
  generalize upd K0 uK1 (.tup [.non]) = K1 at sK1 eK1  ⊢
  have o1 := o1.same sK1
  have o2 := o2.same sK1
  have hS := hS.same sK1
  have sAll := sAll.trans sK1
  have o3 : OddX n st la K1 (.ref uK1) := fun H' b => .inl (.one (b.tup _ _ eK1) (.typ .non (by decide)))
  refine ⟨(by show 1 ≤ sizeLine; decide), fun tK2 htK2 => ⟨_, rfl, tK2, (n : Int), [.int 2], rfl, rfl, sqt upd_same, by simp, by omega, by omega, by simp, fun pK2 hpK2 => ?_⟩⟩
  have sK2 := (same_upd (o := .tup [.int 2]) htK2).trans (same_upd (o := .tup (List.replicate ((n : Int)).toNat [.int 2]).flatten) hpK2)
  have eK2 : (upd (upd K1 tK2 (.tup [.int 2])) pK2 (.tup (List.replicate ((n : Int)).toNat [.int 2]).flatten)) pK2 = some (.tup (List.replicate (n) (V.int 2))) := by
    rw [upd_same, rep_one, show ((n : Int)).toNat = n by omega]
  generalize upd (upd K1 tK2 (.tup [.int 2])) pK2 (.tup (List.replicate ((n : Int)).toNat [.int 2]).flatten) = K2 at sK2 eK2 ⊢
  have o1 := o1.same sK2
  have o2 := o2.same sK2
  have o3 := o3.same sK2
  have hS := hS.same sK2
  have sAll := sAll.trans sK2
  refine ⟨(by show 3 ≤ sizeLine; decide), fun uK3 huK3 => ?_⟩
  have sK3 := same_upd (o := .tup [.int 0, .ref pK2, .int 0]) huK3
  have eK3 : (upd K2 uK3 (.tup [.int 0, .ref pK2, .int 0])) uK3 = some (.tup [.int 0, .ref pK2, .int 0]) := upd_same
  have eK2 := sK3 _ _ eK2
  generalize upd K2 uK3 (.tup [.int 0, .ref pK2, .int 0]) = K3 at sK3 eK3 eK2 ⊢
  have o1 := o1.same sK3
  have o2 := o2.same sK3
  have o3 := o3.same sK3
  have hS := hS.same sK3
  have sAll := sAll.trans sK3
  refine ⟨(by show 1 ≤ sizeLine; decide), fun uK4 huK4 => ?_⟩
  have sK4 := same_upd (o := .tup [.ref uK3]) huK4
  have eK4 : (upd K3 uK4 (.tup [.ref uK3])) uK4 = some (.tup [.ref uK3]) := upd_same
  have eK2 := sK4 _ _ eK2
  have eK3 := sK4 _ _ eK3
  generalize upd K3 uK4 (.tup [.ref uK3]) = K4 at sK4 eK4 eK2 eK3 ⊢
  have o1 := o1.same sK4
  have o2 := o2.same sK4
  have o3 := o3.same sK4
  have hS := hS.same sK4
  have sAll := sAll.trans sK4
  have o4 : OddX n st la K4 (.ref uK4) := sh_one eK4 fun H' b => .len (b.tup _ _ eK3) (by simp)
  refine ⟨(by show 1 ≤ sizeLine; decide), fun tK5 htK5 => ⟨_, rfl, tK5, (n : Int), [.int 3], rfl, rfl, sqt upd_same, by simp, by omega, by omega, by simp, fun pK5 hpK5 => ?_⟩⟩
  have sK5 := (same_upd (o := .tup [.int 3]) htK5).trans (same_upd (o := .tup (List.replicate ((n : Int)).toNat [.int 3]).flatten) hpK5)
  have eK5 : (upd (upd K4 tK5 (.tup [.int 3])) pK5 (.tup (List.replicate ((n : Int)).toNat [.int 3]).flatten)) pK5 = some (.tup (List.replicate (n) (V.int 3))) := by
    rw [upd_same, rep_one, show ((n : Int)).toNat = n by omega]
  generalize upd (upd K4 tK5 (.tup [.int 3])) pK5 (.tup (List.replicate ((n : Int)).toNat [.int 3]).flatten) = K5 at sK5 eK5 ⊢
  have o1 := o1.same sK5
  have o2 := o2.same sK5
  have o3 := o3.same sK5
  have o4 := o4.same sK5
  have hS := hS.same sK5
  have sAll := sAll.trans sK5
  refine ⟨(by show 2 ≤ sizeLine; decide), fun uK6 huK6 => ?_⟩
  have sK6 := same_upd (o := .tup [.int 0, .ref pK5]) huK6
  have eK6 : (upd K5 uK6 (.tup [.int 0, .ref pK5])) uK6 = some (.tup [.int 0, .ref pK5]) := upd_same
  have eK5 := sK6 _ _ eK5
  generalize upd K5 uK6 (.tup [.int 0, .ref pK5]) = K6 at sK6 eK6 eK5 ⊢
  have o1 := o1.same sK6
  have o2 := o2.same sK6
  have o3 := o3.same sK6
  have o4 := o4.same sK6
  have hS := hS.same sK6
  have sAll := sAll.trans sK6
  refine ⟨(by show 1 ≤ sizeLine; decide), fun uK7 huK7 => ?_⟩
  have sK7 := same_upd (o := .tup [.ref uK6]) huK7
  have eK7 : (upd K6 uK7 (.tup [.ref uK6])) uK7 = some (.tup [.ref uK6]) := upd_same
  have eK5 := sK7 _ _ eK5
  have eK6 := sK7 _ _ eK6
  generalize upd K6 uK7 (.tup [.ref uK6]) = K7 at sK7 eK7 eK5 eK6 ⊢
  have o1 := o1.same sK7
  have o2 := o2.same sK7
  have o3 := o3.same sK7
  have o4 := o4.same sK7
  have hS := hS.same sK7
  have sAll := sAll.trans sK7
  have o5 : OddX n st la K7 (.ref uK7) := sh_one eK7 fun H' b => by
    have := Sh.full (n := n) (b.tup _ _ eK6) (.inl ⟨0, rfl⟩) hf0 (b.tup _ _ eK5) (by simp) (fun z hz => .inl ⟨3, List.eq_of_mem_replicate hz⟩)
    rwa [hall3] at this
  refine ⟨(by show 1 ≤ sizeLine; decide), fun tK8 htK8 => ⟨_, rfl, _, _, rfl, rfl, tK8, ((n : Int) + 1), [.int 2], rfl, rfl, sqt upd_same, by simp, by omega, by omega, by simp, fun pK8 hpK8 => ?_⟩⟩
  have sK8 := (same_upd (o := .tup [.int 2]) htK8).trans (same_upd (o := .tup (List.replicate (((n : Int) + 1)).toNat [.int 2]).flatten) hpK8)
  have eK8 : (upd (upd K7 tK8 (.tup [.int 2])) pK8 (.tup (List.replicate (((n : Int) + 1)).toNat [.int 2]).flatten)) pK8 = some (.tup (List.replicate (n + 1) (V.int 2))) := by
    rw [upd_same, rep_one, show (((n : Int) + 1)).toNat = n + 1 by omega]
  generalize upd (upd K7 tK8 (.tup [.int 2])) pK8 (.tup (List.replicate (((n : Int) + 1)).toNat [.int 2]).flatten) = K8 at sK8 eK8 ⊢
  have o1 := o1.same sK8
  have o2 := o2.same sK8
  have o3 := o3.same sK8
  have o4 := o4.same sK8
  have o5 := o5.same sK8
  have hS := hS.same sK8
  have sAll := sAll.trans sK8
  refine ⟨(by show 2 ≤ sizeLine; decide), fun uK9 huK9 => ?_⟩
  have sK9 := same_upd (o := .tup [.int 0, .ref pK8]) huK9
  have eK9 : (upd K8 uK9 (.tup [.int 0, .ref pK8])) uK9 = some (.tup [.int 0, .ref pK8]) := upd_same
  have eK8 := sK9 _ _ eK8
  generalize upd K8 uK9 (.tup [.int 0, .ref pK8]) = K9 at sK9 eK9 eK8 ⊢
  have o1 := o1.same sK9
  have o2 := o2.same sK9
  have o3 := o3.same sK9
  have o4 := o4.same sK9
  have o5 := o5.same sK9
  have hS := hS.same sK9
  have sAll := sAll.trans sK9
  refine ⟨(by show 1 ≤ sizeLine; decide), fun uK10 huK10 => ?_⟩
  have sK10 := same_upd (o := .tup [.ref uK9]) huK10
  have eK10 : (upd K9 uK10 (.tup [.ref uK9])) uK10 = some (.tup [.ref uK9]) := upd_same
  have eK8 := sK10 _ _ eK8
  have eK9 := sK10 _ _ eK9
  generalize upd K9 uK10 (.tup [.ref uK9]) = K10 at sK10 eK10 eK8 eK9 ⊢
  have o1 := o1.same sK10
  have o2 := o2.same sK10
  have o3 := o3.same sK10
  have o4 := o4.same sK10
  have o5 := o5.same sK10
  have hS := hS.same sK10
  have sAll := sAll.trans sK10
  have o6 : OddX n st la K10 (.ref uK10) := sh_one eK10 fun H' b => .len2 (b.tup _ _ eK9) (.inl ⟨0, rfl⟩) hf0 (b.tup _ _ eK8) (by simp)
  have o7 : OddX n st la K10 (.int 7) := fun H' b => .inl (.typ (.int 7) (by decide))
  refine ⟨(by show 7 ≤ sizeLine; decide), fun la1 hla1 => ?_⟩
  have sK11 := same_upd (o := .lst [.non, .ref l2, .ref uK1, .ref uK4, .ref uK7, .ref uK10, .int 7]) hla1
  have ela1 : (upd K10 la1 (.lst [.non, .ref l2, .ref uK1, .ref uK4, .ref uK7, .ref uK10, .int 7])) la1 = some (.lst [.non, .ref l2, .ref uK1, .ref uK4, .ref uK7, .ref uK10, .int 7]) := upd_same
  generalize upd K10 la1 (.lst [.non, .ref l2, .ref uK1, .ref uK4, .ref uK7, .ref uK10, .int 7]) = K11 at sK11 ela1  ⊢
  have o1 := o1.same sK11
  have o2 := o2.same sK11
  have o3 := o3.same sK11
  have o4 := o4.same sK11
  have o5 := o5.same sK11
  have o6 := o6.same sK11
  have o7 := o7.same sK11
  have hS := hS.same sK11
  have sAll := sAll.trans sK11
  refine ⟨_, rfl, ?_⟩
  refine ⟨(by show 1 ≤ sizeLine; decide), fun tK12 htK12 => ⟨_, rfl, tK12, (n : Int), [.int 2], rfl, rfl, sqt upd_same, by simp, by omega, by omega, by simp, fun pK12 hpK12 => ?_⟩⟩
  have sK12 := (same_upd (o := .tup [.int 2]) htK12).trans (same_upd (o := .tup (List.replicate ((n : Int)).toNat [.int 2]).flatten) hpK12)
  have eK12 : (upd (upd K11 tK12 (.tup [.int 2])) pK12 (.tup (List.replicate ((n : Int)).toNat [.int 2]).flatten)) pK12 = some (.tup (List.replicate (n) (V.int 2))) := by
    rw [upd_same, rep_one, show ((n : Int)).toNat = n by omega]
  generalize upd (upd K11 tK12 (.tup [.int 2])) pK12 (.tup (List.replicate ((n : Int)).toNat [.int 2]).flatten) = K12 at sK12 eK12 ⊢
  have o1 := o1.same sK12
  have o2 := o2.same sK12
  have o3 := o3.same sK12
  have o4 := o4.same sK12
  have o5 := o5.same sK12
  have o6 := o6.same sK12
  have o7 := o7.same sK12
  have hS := hS.same sK12
  have sAll := sAll.trans sK12
  have ela1 := sK12 _ _ ela1
  refine ⟨(by show 2 ≤ sizeLine; decide), fun uK13 huK13 => ?_⟩
  have sK13 := same_upd (o := .tup [.bl true, .ref pK12]) huK13
  have eK13 : (upd K12 uK13 (.tup [.bl true, .ref pK12])) uK13 = some (.tup [.bl true, .ref pK12]) := upd_same
  have eK12 := sK13 _ _ eK12
  generalize upd K12 uK13 (.tup [.bl true, .ref pK12]) = K13 at sK13 eK13 eK12 ⊢
  have o1 := o1.same sK13
  have o2 := o2.same sK13
  have o3 := o3.same sK13
  have o4 := o4.same sK13
  have o5 := o5.same sK13
  have o6 := o6.same sK13
  have o7 := o7.same sK13
  have hS := hS.same sK13
  have sAll := sAll.trans sK13
  have ela1 := sK13 _ _ ela1
  refine ⟨(by show 1 ≤ sizeLine; decide), fun uK14 huK14 => ?_⟩
  have sK14 := same_upd (o := .tup [.ref uK13]) huK14
  have eK14 : (upd K13 uK14 (.tup [.ref uK13])) uK14 = some (.tup [.ref uK13]) := upd_same
  have eK12 := sK14 _ _ eK12
  have eK13 := sK14 _ _ eK13
  generalize upd K13 uK14 (.tup [.ref uK13]) = K14 at sK14 eK14 eK12 eK13 ⊢
  have o1 := o1.same sK14
  have o2 := o2.same sK14
  have o3 := o3.same sK14
  have o4 := o4.same sK14
  have o5 := o5.same sK14
  have o6 := o6.same sK14
  have o7 := o7.same sK14
  have hS := hS.same sK14
  have sAll := sAll.trans sK14
  have ela1 := sK14 _ _ ela1
  have o8 : OddX n st la K14 (.ref uK14) := sh_one eK14 fun H' b => .num (b.tup _ _ eK13) (.inr ⟨true, rfl⟩) rfl
  refine ⟨1, rfl, ?_⟩
  refine ⟨(by show 1 ≤ sizeLine; decide), fun tK15 htK15 => ⟨_, rfl, tK15, (n : Int), [.int 2], rfl, rfl, sqt upd_same, by simp, by omega, by omega, by simp, fun pK15 hpK15 => ?_⟩⟩
  have sK15 := (same_upd (o := .tup [.int 2]) htK15).trans (same_upd (o := .tup (List.replicate ((n : Int)).toNat [.int 2]).flatten) hpK15)
  have eK15 : (upd (upd K14 tK15 (.tup [.int 2])) pK15 (.tup (List.replicate ((n : Int)).toNat [.int 2]).flatten)) pK15 = some (.tup (List.replicate (n) (V.int 2))) := by
    rw [upd_same, rep_one, show ((n : Int)).toNat = n by omega]
  generalize upd (upd K14 tK15 (.tup [.int 2])) pK15 (.tup (List.replicate ((n : Int)).toNat [.int 2]).flatten) = K15 at sK15 eK15 ⊢
  have o1 := o1.same sK15
  have o2 := o2.same sK15
  have o3 := o3.same sK15
  have o4 := o4.same sK15
  have o5 := o5.same sK15
  have o6 := o6.same sK15
  have o7 := o7.same sK15
  have o8 := o8.same sK15
  have hS := hS.same sK15
  have sAll := sAll.trans sK15
  have ela1 := sK15 _ _ ela1
  refine ⟨(by show 2 ≤ sizeLine; decide), fun uK16 huK16 => ?_⟩
  have sK16 := same_upd (o := .tup [.int (-1), .ref pK15]) huK16
  have eK16 : (upd K15 uK16 (.tup [.int (-1), .ref pK15])) uK16 = some (.tup [.int (-1), .ref pK15]) := upd_same
  have eK15 := sK16 _ _ eK15
  generalize upd K15 uK16 (.tup [.int (-1), .ref pK15]) = K16 at sK16 eK16 eK15 ⊢
  have o1 := o1.same sK16
  have o2 := o2.same sK16
  have o3 := o3.same sK16
  have o4 := o4.same sK16
  have o5 := o5.same sK16
  have o6 := o6.same sK16
  have o7 := o7.same sK16
  have o8 := o8.same sK16
  have hS := hS.same sK16
  have sAll := sAll.trans sK16
  have ela1 := sK16 _ _ ela1
  refine ⟨(by show 1 ≤ sizeLine; decide), fun uK17 huK17 => ?_⟩
  have sK17 := same_upd (o := .tup [.ref uK16]) huK17
  have eK17 : (upd K16 uK17 (.tup [.ref uK16])) uK17 = some (.tup [.ref uK16]) := upd_same
  have eK15 := sK17 _ _ eK15
  have eK16 := sK17 _ _ eK16
  generalize upd K16 uK17 (.tup [.ref uK16]) = K17 at sK17 eK17 eK15 eK16 ⊢
  have o1 := o1.same sK17
  have o2 := o2.same sK17
  have o3 := o3.same sK17
  have o4 := o4.same sK17
  have o5 := o5.same sK17
  have o6 := o6.same sK17
  have o7 := o7.same sK17
  have o8 := o8.same sK17
  have hS := hS.same sK17
  have sAll := sAll.trans sK17
  have ela1 := sK17 _ _ ela1
  have o9 : OddX n st la K17 (.ref uK17) := sh_one eK17 fun H' b => .num (b.tup _ _ eK16) (.inl ⟨-1, rfl⟩) rfl
  refine ⟨(by show 1 ≤ sizeLine; decide), fun tK18 htK18 => ⟨_, rfl, tK18, (n : Int), [.int 2], rfl, rfl, upd_same, by omega, by omega, small_size (by simp; omega), fun pK18 hpK18 => ?_⟩⟩
  have sK18 := (same_upd (o := .lst [.int 2]) htK18).trans (same_upd (o := .lst (List.replicate ((n : Int)).toNat [.int 2]).flatten) hpK18)
  have eK18 : (upd (upd K17 tK18 (.lst [.int 2])) pK18 (.lst (List.replicate ((n : Int)).toNat [.int 2]).flatten)) pK18 = some (.lst (List.replicate (n) (V.int 2))) := by
    rw [upd_same, rep_one, show ((n : Int)).toNat = n by omega]
  have nK18 : pK18 ∉ [st, la] := by
    obtain ⟨_, _, e1, _, e3, _⟩ := id (hS.same (same_upd (o := .lst [.int 2]) htK18))
    simp only [List.mem_cons, List.not_mem_nil, or_false, not_or]
    exact ⟨(ne_of_none e1 hpK18).symm, (ne_of_none e3 hpK18).symm⟩
  generalize upd (upd K17 tK18 (.lst [.int 2])) pK18 (.lst (List.replicate ((n : Int)).toNat [.int 2]).flatten) = K18 at sK18 eK18 ⊢
  have o1 := o1.same sK18
  have o2 := o2.same sK18
  have o3 := o3.same sK18
  have o4 := o4.same sK18
  have o5 := o5.same sK18
  have o6 := o6.same sK18
  have o7 := o7.same sK18
  have o8 := o8.same sK18
  have o9 := o9.same sK18
  have hS := hS.same sK18
  have sAll := sAll.trans sK18
  have ela1 := sK18 _ _ ela1
  refine ⟨(by show 2 ≤ sizeLine; decide), fun uK19 huK19 => ?_⟩
  have sK19 := same_upd (o := .tup [.int 0, .ref pK18]) huK19
  have eK19 : (upd K18 uK19 (.tup [.int 0, .ref pK18])) uK19 = some (.tup [.int 0, .ref pK18]) := upd_same
  have eK18 := sK19 _ _ eK18
  generalize upd K18 uK19 (.tup [.int 0, .ref pK18]) = K19 at sK19 eK19 eK18 ⊢
  have o1 := o1.same sK19
  have o2 := o2.same sK19
  have o3 := o3.same sK19
  have o4 := o4.same sK19
  have o5 := o5.same sK19
  have o6 := o6.same sK19
  have o7 := o7.same sK19
  have o8 := o8.same sK19
  have o9 := o9.same sK19
  have hS := hS.same sK19
  have sAll := sAll.trans sK19
  have ela1 := sK19 _ _ ela1
  refine ⟨(by show 1 ≤ sizeLine; decide), fun uK20 huK20 => ?_⟩
  have sK20 := same_upd (o := .tup [.ref uK19]) huK20
  have eK20 : (upd K19 uK20 (.tup [.ref uK19])) uK20 = some (.tup [.ref uK19]) := upd_same
  have eK18 := sK20 _ _ eK18
  have eK19 := sK20 _ _ eK19
  generalize upd K19 uK20 (.tup [.ref uK19]) = K20 at sK20 eK20 eK18 eK19 ⊢
  have o1 := o1.same sK20
  have o2 := o2.same sK20
  have o3 := o3.same sK20
  have o4 := o4.same sK20
  have o5 := o5.same sK20
  have o6 := o6.same sK20
  have o7 := o7.same sK20
  have o8 := o8.same sK20
  have o9 := o9.same sK20
  have hS := hS.same sK20
  have sAll := sAll.trans sK20
  have ela1 := sK20 _ _ ela1
  have o10 : OddX n st la K20 (.ref uK20) := sh_one eK20 fun H' b => .typ2 (b.tup _ _ eK19) (.inl ⟨0, rfl⟩) hf0 (.lst (b.rest _ _ nK18 eK18)) (by decide)
  refine ⟨(by show 1 ≤ sizeLine; decide), fun tK21 htK21 => ⟨_, rfl, tK21, (n : Int), [.bl true], rfl, rfl, sqt upd_same, by simp, by omega, by omega, by simp, fun pK21 hpK21 => ?_⟩⟩
  have sK21 := (same_upd (o := .tup [.bl true]) htK21).trans (same_upd (o := .tup (List.replicate ((n : Int)).toNat [.bl true]).flatten) hpK21)
  have eK21 : (upd (upd K20 tK21 (.tup [.bl true])) pK21 (.tup (List.replicate ((n : Int)).toNat [.bl true]).flatten)) pK21 = some (.tup (List.replicate (n) (V.bl true))) := by
    rw [upd_same, rep_one, show ((n : Int)).toNat = n by omega]
  generalize upd (upd K20 tK21 (.tup [.bl true])) pK21 (.tup (List.replicate ((n : Int)).toNat [.bl true]).flatten) = K21 at sK21 eK21 ⊢
  have o1 := o1.same sK21
  have o2 := o2.same sK21
  have o3 := o3.same sK21
  have o4 := o4.same sK21
  have o5 := o5.same sK21
  have o6 := o6.same sK21
  have o7 := o7.same sK21
  have o8 := o8.same sK21
  have o9 := o9.same sK21
  have o10 := o10.same sK21
  have hS := hS.same sK21
  have sAll := sAll.trans sK21
  have ela1 := sK21 _ _ ela1
  refine ⟨(by show 2 ≤ sizeLine; decide), fun uK22 huK22 => ?_⟩
  have sK22 := same_upd (o := .tup [.int 0, .ref pK21]) huK22
  have eK22 : (upd K21 uK22 (.tup [.int 0, .ref pK21])) uK22 = some (.tup [.int 0, .ref pK21]) := upd_same
  have eK21 := sK22 _ _ eK21
  generalize upd K21 uK22 (.tup [.int 0, .ref pK21]) = K22 at sK22 eK22 eK21 ⊢
  have o1 := o1.same sK22
  have o2 := o2.same sK22
  have o3 := o3.same sK22
  have o4 := o4.same sK22
  have o5 := o5.same sK22
  have o6 := o6.same sK22
  have o7 := o7.same sK22
  have o8 := o8.same sK22
  have o9 := o9.same sK22
  have o10 := o10.same sK22
  have hS := hS.same sK22
  have sAll := sAll.trans sK22
  have ela1 := sK22 _ _ ela1
  refine ⟨(by show 1 ≤ sizeLine; decide), fun uK23 huK23 => ?_⟩
  have sK23 := same_upd (o := .tup [.ref uK22]) huK23
  have eK23 : (upd K22 uK23 (.tup [.ref uK22])) uK23 = some (.tup [.ref uK22]) := upd_same
  have eK21 := sK23 _ _ eK21
  have eK22 := sK23 _ _ eK22
  generalize upd K22 uK23 (.tup [.ref uK22]) = K23 at sK23 eK23 eK21 eK22 ⊢
  have o1 := o1.same sK23
  have o2 := o2.same sK23
  have o3 := o3.same sK23
  have o4 := o4.same sK23
  have o5 := o5.same sK23
  have o6 := o6.same sK23
  have o7 := o7.same sK23
  have o8 := o8.same sK23
  have o9 := o9.same sK23
  have o10 := o10.same sK23
  have hS := hS.same sK23
  have sAll := sAll.trans sK23
  have ela1 := sK23 _ _ ela1
  have o11 : OddX n st la K23 (.ref uK23) := sh_one eK23 fun H' b => by
    have := Sh.full (n := n) (b.tup _ _ eK22) (.inl ⟨0, rfl⟩) hf0 (b.tup _ _ eK21) (by simp) (fun z hz => .inr ⟨true, List.eq_of_mem_replicate hz⟩)
    rwa [hallT] at this
  refine ⟨(by show 4 ≤ sizeLine; decide), fun la2 hla2 => ?_⟩
  have sK24 := same_upd (o := .lst [.ref uK14, .ref uK17, .ref uK20, .ref uK23]) hla2
  have ela2 : (upd K23 la2 (.lst [.ref uK14, .ref uK17, .ref uK20, .ref uK23])) la2 = some (.lst [.ref uK14, .ref uK17, .ref uK20, .ref uK23]) := upd_same
  generalize upd K23 la2 (.lst [.ref uK14, .ref uK17, .ref uK20, .ref uK23]) = K24 at sK24 ela2  ⊢
  have o1 := o1.same sK24
  have o2 := o2.same sK24
  have o3 := o3.same sK24
  have o4 := o4.same sK24
  have o5 := o5.same sK24
  have o6 := o6.same sK24
  have o7 := o7.same sK24
  have o8 := o8.same sK24
  have o9 := o9.same sK24
  have o10 := o10.same sK24
  have o11 := o11.same sK24
  have hS := hS.same sK24
  have sAll := sAll.trans sK24
  have ela1 := sK24 _ _ ela1
  refine ⟨la1, la2, _, _, rfl, rfl, ela1, ela2, (by show 11 ≤ sizeLine; decide), fun la3 hla3 => ?_⟩
  have sK25 := same_upd (o := .lst ([.non, .ref l2, .ref uK1, .ref uK4, .ref uK7, .ref uK10, .int 7] ++ [.ref uK14, .ref uK17, .ref uK20, .ref uK23])) hla3
  have ela3 : (upd K24 la3 (.lst ([.non, .ref l2, .ref uK1, .ref uK4, .ref uK7, .ref uK10, .int 7] ++ [.ref uK14, .ref uK17, .ref uK20, .ref uK23]))) la3 = some (.lst [.non, .ref l2, .ref uK1, .ref uK4, .ref uK7, .ref uK10, .int 7, .ref uK14, .ref uK17, .ref uK20, .ref uK23]) := upd_same
  have nla3 : la3 ≠ la := by
    obtain ⟨_, _, _, _, e3, _⟩ := id hS
    exact (ne_of_none e3 hla3).symm
  generalize upd K24 la3 (.lst ([.non, .ref l2, .ref uK1, .ref uK4, .ref uK7, .ref uK10, .int 7] ++ [.ref uK14, .ref uK17, .ref uK20, .ref uK23])) = K25 at sK25 ela3 ⊢
  have o1 := o1.same sK25
  have o2 := o2.same sK25
  have o3 := o3.same sK25
  have o4 := o4.same sK25
  have o5 := o5.same sK25
  have o6 := o6.same sK25
  have o7 := o7.same sK25
  have o8 := o8.same sK25
  have o9 := o9.same sK25
  have o10 := o10.same sK25
  have o11 := o11.same sK25
  have hS := hS.same sK25
  have sAll := sAll.trans sK25
  have ela1 := sK25 _ _ ela1
  have ela2 := sK25 _ _ ela2
  refine ⟨_, rfl, _, rfl, ?_⟩
  have o12 : OddX n st la K25 (.str "book") := fun H' b => .inl (.typ (.str _) (by decide))
  refine ⟨(by show 1 ≤ sizeLine; decide), fun tK26 htK26 => ⟨_, rfl, tK26, (n : Int), [.int 2], rfl, rfl, sqt upd_same, by simp, by omega, by omega, by simp, fun pK26 hpK26 => ?_⟩⟩
  have sK26 := (same_upd (o := .tup [.int 2]) htK26).trans (same_upd (o := .tup (List.replicate ((n : Int)).toNat [.int 2]).flatten) hpK26)
  have eK26 : (upd (upd K25 tK26 (.tup [.int 2])) pK26 (.tup (List.replicate ((n : Int)).toNat [.int 2]).flatten)) pK26 = some (.tup (List.replicate (n) (V.int 2))) := by
    rw [upd_same, rep_one, show ((n : Int)).toNat = n by omega]
  generalize upd (upd K25 tK26 (.tup [.int 2])) pK26 (.tup (List.replicate ((n : Int)).toNat [.int 2]).flatten) = K26 at sK26 eK26 ⊢
  have o1 := o1.same sK26
  have o2 := o2.same sK26
  have o3 := o3.same sK26
  have o4 := o4.same sK26
  have o5 := o5.same sK26
  have o6 := o6.same sK26
  have o7 := o7.same sK26
  have o8 := o8.same sK26
  have o9 := o9.same sK26
  have o10 := o10.same sK26
  have o11 := o11.same sK26
  have o12 := o12.same sK26
  have hS := hS.same sK26
  have sAll := sAll.trans sK26
  have ela1 := sK26 _ _ ela1
  have ela2 := sK26 _ _ ela2
  have ela3 := sK26 _ _ ela3
  refine ⟨(by show 2 ≤ sizeLine; decide), fun uK27 huK27 => ?_⟩
  have sK27 := same_upd (o := .tup [.int 0, .ref pK26]) huK27
  have eK27 : (upd K26 uK27 (.tup [.int 0, .ref pK26])) uK27 = some (.tup [.int 0, .ref pK26]) := upd_same
  have eK26 := sK27 _ _ eK26
  generalize upd K26 uK27 (.tup [.int 0, .ref pK26]) = K27 at sK27 eK27 eK26 ⊢
  have o1 := o1.same sK27
  have o2 := o2.same sK27
  have o3 := o3.same sK27
  have o4 := o4.same sK27
  have o5 := o5.same sK27
  have o6 := o6.same sK27
  have o7 := o7.same sK27
  have o8 := o8.same sK27
  have o9 := o9.same sK27
  have o10 := o10.same sK27
  have o11 := o11.same sK27
  have o12 := o12.same sK27
  have hS := hS.same sK27
  have sAll := sAll.trans sK27
  have ela1 := sK27 _ _ ela1
  have ela2 := sK27 _ _ ela2
  have ela3 := sK27 _ _ ela3
  refine ⟨(by show 1 ≤ sizeLine; decide), fun tK28 htK28 => ⟨tK28, 2, [.ref uK27], rfl, rfl, sqt upd_same, by simp, by decide, by decide, by simp, fun pK28 hpK28 => ?_⟩⟩
  have sK28 := (same_upd (o := .tup [.ref uK27]) htK28).trans (same_upd (o := .tup (List.replicate (2 : Int).toNat [.ref uK27]).flatten) hpK28)
  have eK28 : (upd (upd K27 tK28 (.tup [.ref uK27])) pK28 (.tup (List.replicate (2 : Int).toNat [.ref uK27]).flatten)) pK28 = some (.tup [.ref uK27, .ref uK27]) := by
    rw [upd_same]; rfl
  have eK26 := sK28 _ _ eK26
  have eK27 := sK28 _ _ eK27
  generalize upd (upd K27 tK28 (.tup [.ref uK27])) pK28 (.tup (List.replicate (2 : Int).toNat [.ref uK27]).flatten) = K28 at sK28 eK28 eK26 eK27 ⊢
  have o1 := o1.same sK28
  have o2 := o2.same sK28
  have o3 := o3.same sK28
  have o4 := o4.same sK28
  have o5 := o5.same sK28
  have o6 := o6.same sK28
  have o7 := o7.same sK28
  have o8 := o8.same sK28
  have o9 := o9.same sK28
  have o10 := o10.same sK28
  have o11 := o11.same sK28
  have o12 := o12.same sK28
  have hS := hS.same sK28
  have sAll := sAll.trans sK28
  have ela1 := sK28 _ _ ela1
  have ela2 := sK28 _ _ ela2
  have ela3 := sK28 _ _ ela3
  have o13 : OddX n st la K28 (.ref pK28) := fun H' b => .inr ⟨pK28, [(uK27, (0, List.replicate n 2)), (uK27, (0, List.replicate n 2))], rfl, ⟨b.tup _ _ eK28, fun k hk => by
    have : k = (uK27, (0, List.replicate n 2)) := by
      rcases List.mem_cons.mp hk with z | z
      · exact z
      · simpa using z
    subst this
    exact ⟨pK26, b.tup _ _ eK27, by rw [List.map_replicate]; exact b.tup _ _ eK26⟩⟩, fun k hk => by
    have : k = (uK27, (0, List.replicate n 2)) := by
      rcases List.mem_cons.mp hk with z | z
      · exact z
      · simpa using z
    subst this
    exact ⟨by show (0 : Int) ≤ 0; decide, by show (0 : Int) ≤ 4; decide, List.length_replicate, fun x hx => .inr (.inr (List.eq_of_mem_replicate hx))⟩, by show 2 ≤ 63; decide, by simp, hsrt⟩
  refine ⟨(by show 2 ≤ sizeLine; decide), fun la4 hla4 => ?_⟩
  have sK29 := same_upd (o := .lst [.str "book", .ref pK28]) hla4
  have ela4 : (upd K28 la4 (.lst [.str "book", .ref pK28])) la4 = some (.lst [.str "book", .ref pK28]) := upd_same
  generalize upd K28 la4 (.lst [.str "book", .ref pK28]) = K29 at sK29 ela4  ⊢
  have o1 := o1.same sK29
  have o2 := o2.same sK29
  have o3 := o3.same sK29
  have o4 := o4.same sK29
  have o5 := o5.same sK29
  have o6 := o6.same sK29
  have o7 := o7.same sK29
  have o8 := o8.same sK29
  have o9 := o9.same sK29
  have o10 := o10.same sK29
  have o11 := o11.same sK29
  have o12 := o12.same sK29
  have o13 := o13.same sK29
  have hS := hS.same sK29
  have sAll := sAll.trans sK29
  have ela1 := sK29 _ _ ela1
  have ela2 := sK29 _ _ ela2
  have ela3 := sK29 _ _ ela3
  refine ⟨la3, la4, _, _, rfl, rfl, ela3, ela4, (by show 13 ≤ sizeLine; decide), fun la5 hla5 => ?_⟩
  have sK30 := same_upd (o := .lst ([.non, .ref l2, .ref uK1, .ref uK4, .ref uK7, .ref uK10, .int 7, .ref uK14, .ref uK17, .ref uK20, .ref uK23] ++ [.str "book", .ref pK28])) hla5
  have ela5 : (upd K29 la5 (.lst ([.non, .ref l2, .ref uK1, .ref uK4, .ref uK7, .ref uK10, .int 7, .ref uK14, .ref uK17, .ref uK20, .ref uK23] ++ [.str "book", .ref pK28]))) la5 = some (.lst [.non, .ref l2, .ref uK1, .ref uK4, .ref uK7, .ref uK10, .int 7, .ref uK14, .ref uK17, .ref uK20, .ref uK23, .str "book", .ref pK28]) := upd_same
  have nla5 : la5 ≠ la := by
    obtain ⟨_, _, _, _, e3, _⟩ := id hS
    exact (ne_of_none e3 hla5).symm
  generalize upd K29 la5 (.lst ([.non, .ref l2, .ref uK1, .ref uK4, .ref uK7, .ref uK10, .int 7, .ref uK14, .ref uK17, .ref uK20, .ref uK23] ++ [.str "book", .ref pK28])) = K30 at sK30 ela5 ⊢
  have o1 := o1.same sK30
  have o2 := o2.same sK30
  have o3 := o3.same sK30
  have o4 := o4.same sK30
  have o5 := o5.same sK30
  have o6 := o6.same sK30
  have o7 := o7.same sK30
  have o8 := o8.same sK30
  have o9 := o9.same sK30
  have o10 := o10.same sK30
  have o11 := o11.same sK30
  have o12 := o12.same sK30
  have o13 := o13.same sK30
  have hS := hS.same sK30
  have sAll := sAll.trans sK30
  have ela1 := sK30 _ _ ela1
  have ela2 := sK30 _ _ ela2
  have ela3 := sK30 _ _ ela3
  have ela4 := sK30 _ _ ela4
  refine ⟨st, ca, la, la5, a, _, rfl, hS, by omega, ela5, nla5, by simp, by simp, fun x H' hx b hS' => ?_⟩
  refine q x H' ((But.same sAll).trans b) hS' ?_
  simp only [List.mem_cons, List.not_mem_nil, or_false] at hx
  rcases hx with z | z | z | z | z | z | z | z | z | z | z | z | z <;> rw [z]
  · exact o1 H' b
  · exact o2 H' b
  · exact o3 H' b
  · exact o4 H' b
  · exact o5 H' b
  · exact o6 H' b
  · exact o7 H' b
  · exact o8 H' b
  · exact o9 H' b
  · exact o10 H' b
  · exact o11 H' b
  · exact o12 H' b
  · exact o13 H' b
end
end Kb
/-! The law's right. -/
namespace Kb
open PySem PySem.Spec PyProof.Rows L2
section
variable {P : Program} {w : World} {K : PySem.W.Frag} {mg : Str → Option Value} {base : Heap}
theorem scRight : FnScope ["_law_state", "_law_count", "_law_worths_here", "_law_least", "_law_every", "_law_told", "_law_number", "_law_due", "_law_bent_here"] ["_law_state", "_law_count", "_law_worths_here"] (defScope s_right) := ⟨rfl, rfl, rfl, by decide +kernel, rfl, by decide +kernel, by decide +kernel⟩
def spRight : Sp := fun vs H Q _ => ∃ (st ca la v : Addr) (a : Int) (n : Nat) (vals : List Int), vs = [.ref st, .int n, .ref v] ∧ (n = 2 ∨ n = 3) ∧ StH H st ca la a ∧ a ≤ 800 ∧ ValsH H v vals n ∧
  ∀ H' a', But [st, la] H H' → StH H' st ca la a' → a' ≤ a + 7 → Q (.bl true) H'
theorem ok_right {f f1 f2 f3 f4 f5 f6 f7 f8 : Addr} {fd fd1 fd2 fd3 fd4 fd5 fd6 fd7 fd8 : FuncData} (F0 : Fun K "_law_right" "_law_right" s_right f fd)
    (G1 : FnOk P w K mg base CX0 8 f1 fd1 ["_law_worths_here", "_law_cube", "_law_known"] (spAF 4)) (b1 : Binds K fd1 ["_law_worths_here", "_law_cube", "_law_known"] []) (k1 : PySem.W.keepIn K (.ref f1) = true) (m1 : mg "_law_asks_for" = some (.ref f1))
    (G2 : FnOk P w K mg base CX0 9 f2 fd2 ["_law_count", "_law_worths_here"] spWh) (b2 : Binds K fd2 ["_law_count", "_law_worths_here"] []) (k2 : PySem.W.keepIn K (.ref f2) = true) (m2 : mg "_law_whole_book" = some (.ref f2))
    (G3 : FnOk P w K mg base CX0 12 f3 fd3 ["many", "values"] spLeast) (b3 : Binds K fd3 ["many", "values"] []) (k3 : PySem.W.keepIn K (.ref f3) = true) (m3 : mg "least_asks" = some (.ref f3))
    (G4 : FnOk P w K mg base CX0 6 f4 fd4 ["_law_count", "_law_worths_here", "_law_most", "_law_told"] spLJ) (b4 : Binds K fd4 ["_law_count", "_law_worths_here", "_law_most", "_law_told"] []) (k4 : PySem.W.keepIn K (.ref f4) = true) (m4 : mg "_law_is_cube_book" = some (.ref f4))
    (G5 : FnOk P w K mg base CX0 9 f5 fd5 ["many", "values", "asks", "value"] spJudge) (b5 : Binds K fd5 ["many", "values", "asks", "value"] []) (k5 : PySem.W.keepIn K (.ref f5) = true) (m5 : mg "is_cube_book" = some (.ref f5))
    (G6 : FnOk P w K mg base CX0 1 f6 fd6 ["_law_got", "_law_due"] spLike) (b6 : Binds K fd6 ["_law_got", "_law_due"] []) (k6 : PySem.W.keepIn K (.ref f6) = true) (m6 : mg "_law_like" = some (.ref f6))
    (G7 : FnOk P w K mg base CX0 4 f7 fd7 ["_law_state", "_law_count", "_law_told"] spBent) (b7 : Binds K fd7 ["_law_state", "_law_count", "_law_told"] []) (k7 : PySem.W.keepIn K (.ref f7) = true) (m7 : mg "_law_bent" = some (.ref f7))
    (G8 : FnOk P w K mg base CX0 4 f8 fd8 ["_law_state", "_law_count", "_law_told"] spOdd) (b8 : Binds K fd8 ["_law_state", "_law_count", "_law_told"] []) (k8 : PySem.W.keepIn K (.ref f8) = true) (m8 : mg "_law_odd" = some (.ref f8))
    (mM : mg "max" = none) : FnOk P w K mg base CX0 13 f fd ["_law_state", "_law_count", "_law_worths_here"] spRight := by
  refine F0.ok scRight (fun vs H Q E h => ?_) (fun cdv A outer s H vs Q E hr h => ?_)
  · obtain ⟨st, ca, la, v, a, n, vals, rfl, _⟩ := h
    rfl
  obtain ⟨st, ca, la, v, a, n, vals, rfl, hn, hS, ha, hv, q⟩ := h
  have nd := scRight.nd
  have hu64 := hu_room64 hr
  refine ⟨_, pss_cons (ps_par (i := 3) (j := 4) rfl nd rfl rfl (by decide) rfl rfl
      (pa_cons (pe_call G1 (hr.mono (by decide)) (by rfl) m1 k1 b1 .nil pass0 (pa_cons (pv 2) (pa_cons (pe_op op_repT (pe_tup (pa_cons pe_int pa_nil)) (pv 1)) (pa_cons pe_dnewT pa_nil))))
      (pa_cons (pe_call G2 (hr.mono (by decide)) (by rfl) m2 k2 b2 .nil pass0 (pa_cons (pv 1) (pa_cons (pv 2) pa_nil))) pa_nil)) (by rfl))
    (pss_cons (ps_for PassesOwn.never rfl (pi_tup (pe_tup (pa_cons (pe_ix ix_tup (pe_call G3 hr (by rfl) m3 k3 b3 .nil pass0 (pa_cons (pv 1) (pa_cons (pv 2) pa_nil))) pe_int (fun _ _ => rfl)) (pa_cons (pv 4) pa_nil)))) (pg_name (i := 5) nd rfl (.inl rfl))
      (pss_cons (ps_for PassesOwn.never rfl (pi_tup (pe_tup (pa_cons (pv 3) (pa_cons (pe_op op_add (pv 3) pe_int) (pa_cons (pe_callB (call_max2 rfl) (by rfl) mM (by decide +kernel) (pa_cons pe_int (pa_cons (pe_op op_sub (pv 3) pe_int) pa_nil))) pa_nil))))) (pg_name (i := 6) nd rfl (.inl rfl))
        (pss_cons (ps_set (i := 7) nd rfl (.inl rfl) (pe_call G4 (hr.mono (by decide)) (by rfl) m4 k4 b4 .nil pass0 (pa_cons (pv 1) (pa_cons (pv 2) (pa_cons (pv 6) (pa_cons (pv 5) pa_nil))))))
        (pss_one (ps_if (pt_not (pt_val (pe_call G6 (hr.mono (by decide)) (by rfl) m6 k6 b6 .nil pass0 (pa_cons (pe_call G5 (hr.mono (by decide)) (by rfl) m5 k5 b5 .nil pass0 (pa_cons (pv 1) (pa_cons (pv 2) (pa_cons (pv 6) (pa_cons (pv 5) pa_nil))))) (pa_cons (pv 7) pa_nil))))) (pss_one (ps_ret pe_bl)) pss_nil))))
      (pss_one (ps_if (pt_cmpR (op_neNilB hu64) (pv 5) (pe_tup pa_nil) (nomark _))
        (pss_cons (ps_set (i := 8) nd rfl (.inl rfl) (pe_call G7 (hr.mono (by decide)) (by rfl) m7 k7 b7 .nil pass0 (pa_cons (pv 0) (pa_cons (pv 1) (pa_cons (pv 5) pa_nil)))))
        (pss_cons (ps_set (i := 7) nd rfl (.inl rfl) (pe_call G4 (hr.mono (by decide)) (by rfl) m4 k4 b4 .nil pass0 (pa_cons (pv 1) (pa_cons (pv 2) (pa_cons (pv 3) (pa_cons (pv 8) pa_nil))))))
        (pss_one (ps_if (pt_not (pt_val (pe_call G6 (hr.mono (by decide)) (by rfl) m6 k6 b6 .nil pass0 (pa_cons (pe_call G5 (hr.mono (by decide)) (by rfl) m5 k5 b5 .nil pass0 (pa_cons (pv 1) (pa_cons (pv 2) (pa_cons (pv 3) (pa_cons (pv 8) pa_nil))))) (pa_cons (pv 7) pa_nil))))) (pss_one (ps_ret pe_bl)) pss_nil)))) pss_nil))))
    (pss_one (ps_ret (pe_cmpR op_is_bl (pe_call G5 (hr.mono (by decide)) (by rfl) m5 k5 b5 .nil pass0 (pa_cons (pv 1) (pa_cons (pv 2) (pa_cons (pv 3) (pa_cons (pe_call G8 (hr.mono (by decide)) (by rfl) m8 k8 b8 .nil pass0 (pa_cons (pv 0) (pa_cons (pv 1) (pa_cons (pv 4) pa_nil)))) pa_nil))))) pe_bl (nomark _))))), ?_⟩
  -- least
  refine ⟨_, rfl, (by show 1 ≤ sizeLine; decide), fun t1 ht1 => ⟨_, rfl, t1, (n : Int), [.int 2], rfl, rfl, sqt upd_same, by simp, by omega, by omega, by simp, fun c hc => ?_⟩⟩
  have s1 := (same_upd (o := .tup [.int 2]) ht1).trans (same_upd (o := .tup (List.replicate (n : Int).toNat [.int 2]).flatten) hc)
  have ec : CubeH (upd (upd H t1 (.tup [.int 2])) c (.tup (List.replicate (n : Int).toNat [.int 2]).flatten)) c (List.replicate n 2) := by
    show _ = _
    rw [upd_same, rep_one, Int.toNat_natCast, List.map_replicate]
  generalize upd (upd H t1 (.tup [.int 2])) c (.tup (List.replicate (n : Int).toNat [.int 2]).flatten) = H1 at s1 ec ⊢
  refine fun d hd => ?_
  have s2 := same_upd (o := .dT []) hd
  have ed : (upd H1 d (.dT [])) d = some (.dT []) := upd_same
  have hdH : H d = none := by
    cases hz : H d with
    | none => rfl
    | some u => rw [s1 _ _ hz] at hd; cases hd
  generalize upd H1 d (.dT []) = H2 at s2 ed ⊢
  have s02 := s1.trans s2
  have hfl : (free (List.replicate n (2 : Int))).length < 4 := by
    have := free_len (List.replicate n (2 : Int))
    rw [List.length_replicate] at this
    omega
  refine ⟨v, c, d, vals, List.replicate n 2, n, [], rfl, hn, hv.keep (same_tup s02), s2 _ _ ec, List.length_replicate, rep_dig n, hfl, CD.empty ed, fun H3 ks3 b3' c3 => ?_⟩
  have s03 : Same H H3 := ((But.same s02).trans b3').ofNone fun z hz => by
    have : z = d := by simpa using hz
    rw [this]; exact hdH
  have hF0 := F_nn vals (List.replicate n 2)
  generalize F vals (List.replicate n 2) = least at hF0
  -- every
  refine ⟨_, rfl, _, rfl, n, v, vals, rfl, hn, hv.keep (same_tup s03), fun H4 ev ksE s4 hBE hOE hLE => ⟨_, _, rfl, ?_⟩⟩
  have s04 := s03.trans s4
  -- least_asks(..)[2], every
  refine ⟨_, rfl, _, rfl, n, v, vals, rfl, hn, hv.keep (same_tup s04), fun lt lb lx ly ksL H5 s5 e5 hBL hOL hLL => ?_⟩
  have s05 := s04.trans s5
  refine ⟨lt, _, 2, .ref lb, rfl, rfl, sqt e5, atI_nat (j := 2) rfl, ?_⟩
  refine ⟨_, rfl, (by show 2 ≤ sizeLine; decide), fun tt htt => ?_⟩
  have s6 := same_upd (o := .tup [.ref lb, .ref ev]) htt
  have ett : (upd H5 tt (.tup [.ref lb, .ref ev])) tt = some (.tup [.ref lb, .ref ev]) := upd_same
  have s06 := s05.trans s6
  have hBL6 := hBL.keep (same_tup s6)
  have hBE6 := hBE.keep (same_tup (s5.trans s6))
  generalize upd H5 tt (.tup [.ref lb, .ref ev]) = H6 at ett s06 hBL6 hBE6 ⊢
  refine ⟨tt, rfl, ⟨_, sqt ett⟩, for_it (walk_tup (xs := [.ref lb, .ref ev])) (fun i σ' H' => ∃ y5 y6 y7 y8 a', σ' = [some (.ref st), some (.int n), some (.ref v), some (.int least), some (.ref ev), y5, y6, y7, y8] ∧ But [st, la] H6 H' ∧ StH H' st ca la a' ∧ a' ≤ a + 3 * (i : Int))
    ⟨_, _, _, _, a, rfl, But.refl _ _, hS.same s06, by omega⟩ (fun i σ' H' _ p => ?_) (fun i x σ' H' H'' hi p y => ?_) (fun σ' H' p => ?_)⟩
  · obtain ⟨_, _, _, _, _, _, p2, _⟩ := p
    exact sqt (p2.tup _ _ ett)
  · obtain ⟨y5, y6, y7, y8, a', rfl, p2, p3, p4⟩ := p
    obtain ⟨e0, hx⟩ := y
    subst e0
    -- one of the two books
    obtain ⟨tb, ksB, rfl, hBB6, hOB, hLB⟩ : ∃ tb ksB, x = .ref tb ∧ BookH H6 tb ksB ∧ (∀ k ∈ ksB, EnLo n k.2) ∧ ksB.length ≤ 27 := by
      match i, hi, hx with
      | 0, _, hx => exact ⟨lb, ksL, (Option.some.inj hx).symm, hBL6, hOL, hLL⟩
      | 1, _, hx => exact ⟨ev, ksE, (Option.some.inj hx).symm, hBE6, hOE, hLE⟩
      | (i + 2), hi, _ => exact absurd hi (by show ¬ (i + 2 < 2); omega)
    have hi2 : i < 2 := hi
    have hOkB : ∀ k ∈ ksB, EnOk n k.2 := fun k hk => (hOB k hk).1
    have hBB := hBB6.keep p2.tup
    have hvB := hv.keep ((same_tup s06).trans p2.tup)
    -- the numbers
    refine ⟨_, rfl, _, rfl, _, _, rfl, rfl, _, rfl, _, _, rfl, rfl, 0, least - 1, rfl, (by show 3 ≤ sizeLine; decide), fun tn htn => ?_⟩
    have sN := same_upd (o := .tup [.int least, .int (least + 1), .int (if least - 1 > 0 then least - 1 else 0)]) htn
    have etn : (upd H'' tn (.tup [.int least, .int (least + 1), .int (if least - 1 > 0 then least - 1 else 0)])) tn = some (.tup [.int least, .int (least + 1), .int (if least - 1 > 0 then least - 1 else 0)]) := upd_same
    have nn : ∀ (i : Nat) (x : V), ([.int least, .int (least + 1), .int (if least - 1 > 0 then least - 1 else 0)] : List V)[i]? = some x → ∃ m : Int, x = .int m ∧ 0 ≤ m := by
      intro i x hx
      match i, hx with
      | 0, hx => exact ⟨least, (Option.some.inj hx).symm, hF0⟩
      | 1, hx => exact ⟨least + 1, (Option.some.inj hx).symm, by omega⟩
      | 2, hx => exact ⟨_, (Option.some.inj hx).symm, by split <;> omega⟩
      | (i + 3), hx => simp at hx
    generalize upd H'' tn (.tup [.int least, .int (least + 1), .int (if least - 1 > 0 then least - 1 else 0)]) = HN at sN etn ⊢
    refine ⟨tn, rfl, ⟨_, sqt etn⟩, for_it (walk_tup (xs := [.int least, .int (least + 1), .int (if least - 1 > 0 then least - 1 else 0)])) (fun i2 σ2 H2' => ∃ z6 z7, σ2 = [some (.ref st), some (.int n), some (.ref v), some (.int least), some (.ref ev), some (.ref tb), z6, z7, y8] ∧ Same HN H2')
      ⟨_, _, rfl, fun _ _ h => h⟩ (fun i2 σ2 H2' _ p => ?_) (fun i2 x2 σ2 H7 H8 hi2' p y => ?_) (fun σ2 H7 p => ?_)⟩
    · obtain ⟨_, _, _, p5⟩ := p
      exact sqt (p5 _ _ etn)
    · obtain ⟨z6, z7, rfl, p5⟩ := p
      obtain ⟨e0, hx2⟩ := y
      subst e0
      obtain ⟨m, rfl, hm0⟩ := nn i2 x2 hx2
      have sB := sN.trans p5
      refine ⟨_, rfl, _, rfl, _, rfl, _, rfl, n, v, tb, vals, m, ksB, rfl, hn, hvB.keep (same_tup sB), hBB.keep (same_tup sB), hOkB, by omega, fun H9 s9 => ?_⟩
      refine ⟨_, rfl, _, rfl, _, rfl, _, rfl, n, v, vals, m, .ref tb, rfl, hn, hvB.keep (same_tup (sB.trans s9)), hm0, .inr ⟨tb, ksB, rfl, hBB.keep (same_tup (sB.trans s9)), hOkB, by omega, fun H10 s10 => ?_⟩⟩
      refine ⟨_, rfl, _, _, rfl, ?_⟩
      rw [beq_self_eq_true]
      exact ⟨true, rfl, ifF rfl ⟨_, _, rfl, p5.trans (s9.trans s10)⟩⟩
    · obtain ⟨z6, z7, rfl, p5⟩ := p
      have sB := sN.trans p5
      refine ⟨_, rfl, (by show 0 ≤ sizeLine; decide), fun te hte => ?_⟩
      have sE := same_upd (o := .tup []) hte
      have sBE := sB.trans sE
      refine ⟨tb, te, ksB, rfl, rfl, hBB.keep (same_tup sBE), upd_same, _, rfl, ?_⟩
      have eete : (if true = true then !ksB.isEmpty else ksB.isEmpty) = !ksB.isEmpty := if_pos rfl
      generalize upd H7 te (.tup []) = HE at sE sBE ⊢
      cases hke : ksB.isEmpty with
      | true =>
        refine ifF rfl ?_
        refine ⟨_, _, _, _, a', rfl, p2.trans (But.same sBE), p3.same sBE, ?_⟩
        omega
      | false =>
        have h0 : 0 < ksB.length := by
          cases ksB with
          | nil => cases hke
          | cons k r => simp
        refine ifT rfl ?_
        refine ⟨_, rfl, _, rfl, _, rfl, st, ca, la, tb, a', n, ksB, rfl, hn, p3.same sBE, by omega, hBB.keep (same_tup sBE), hOB, h0, hLB, fun xb H11 b11 hS11 hG => ?_⟩
        obtain ⟨tg, ksG, rfl, hBG, hOG, hLG⟩ := hG
        have hv11 := hvB.keep ((same_tup sBE).trans b11.tup)
        refine ⟨_, rfl, _, rfl, _, rfl, _, rfl, n, v, tg, vals, least, ksG, rfl, hn, hv11, hBG, hOG, hLG, fun H12 s12 => ?_⟩
        refine ⟨_, rfl, _, rfl, _, rfl, _, rfl, n, v, vals, least, .ref tg, rfl, hn, hv11.keep (same_tup s12), hF0, .inr ⟨tg, ksG, rfl, hBG.keep (same_tup s12), hOG, hLG, fun H13 s13 => ?_⟩⟩
        refine ⟨_, rfl, _, _, rfl, ?_⟩
        rw [beq_self_eq_true]
        refine ⟨true, rfl, ifF rfl ⟨_, _, _, _, a' + 3, rfl, p2.trans ((But.same sBE).trans (b11.trans (But.same (s12.trans s13)))), hS11.same (s12.trans s13), ?_⟩⟩
        omega
  · obtain ⟨y5, y6, y7, y8, a', rfl, p2, p3, p4⟩ := p
    have p4 : a' ≤ a + 3 * ((2 : Nat) : Int) := p4
    refine ⟨_, rfl, _, rfl, _, rfl, _, rfl, _, rfl, _, rfl, st, ca, la, ev, a', n, ksE, rfl, hn, p3, by omega, hBE6.keep p2.tup, fun x H7 b7' hS7 hV => ?_⟩
    have hv7 := hv.keep ((same_tup s06).trans (p2.tup.trans b7'.tup))
    have fin : ∀ H8, Same H7 H8 → Q (.bl (decide (false = false))) H8 := fun H8 s8 => by
      rw [decide_eq_true rfl]
      exact q H8 (a' + 1) ((But.same s06).trans (p2.trans (b7'.trans (But.same s8)))) (hS7.same s8) (by omega)
    refine ⟨n, v, vals, least, x, rfl, hn, hv7, hF0, ?_⟩
    rcases hV with hN | ⟨tg, ksG, rfl, hBG, hOG, hLG, hne, hsr⟩
    · exact .inl ⟨hN, fun H8 s8 => ⟨false, false, rfl, rfl, fin H8 s8⟩⟩
    · refine .inr ⟨tg, ksG, rfl, hBG, hOG, hLG, fun H8 s8 => ⟨_, false, rfl, rfl, ?_⟩⟩
      rw [odd_judge hsr (by
        intro z
        cases ksG with
        | nil => exact hne rfl
        | cons k r => cases z)]
      exact fin H8 s8
end
end Kb
/-! Promises that hold where no repr is under way (the layer's FnOk tells nothing of the guards): the law's head with them. -/
namespace Kb
open PySem PySem.Spec PyProof.Rows L2
/-- FnOk where no repr is under way -/
structure FnG (P : Program) (w : World) (K : PySem.W.Frag) (mg : Str → Option Value) (base : Heap) (k : Nat) (f : Addr) (fd : FuncData) (ps : List Str) (sp : Sp) : Prop where
  len : ∀ vs H Q E, sp vs H Q E → vs.length = ps.length
  run : ∀ (A : Around) (outer : List Env) (s : Shared) (H : Hp) (args : Args) (us : List Value) (vs : List V) (Q : VK) (E : XK), Room k A → A.guards = some [] → Env0 P w K mg base A outer s H → BindsTo s fd args (ps.zip us) → Vals vs us → sp vs H Q E →
    codeAny (model P w) A (.call (.ref f) args) (CR CX0 outer P w H s Q E) s
section
variable {P : Program} {w : World} {K : PySem.W.Frag} {mg : Str → Option Value} {base : Heap}
theorem okG {x qual : Str} {st : Stmt} {f : Addr} {fd : FuncData} {N ps : List Str} {k : Nat} {sp : Sp} (F : Fun K x qual st f fd) (S : FnScope N ps (defScope st)) (len : ∀ vs H Q E, sp vs H Q E → vs.length = ps.length)
    (hbody : ∀ (cdv : Value) (A : Around) (outer : List Env) (s : Shared) (H : Hp) (vs : List V) (Q : VK) (E : XK), Room k (A.deeper (envOfC qual (defScope st) s.heap.objs.size f cdv)) → A.guards = some [] → sp vs H Q E →
      ∃ t, PSs (cxOf CX0 P w K mg base N qual (defScope st) f cdv A outer s H E).nox (defBody st) t ∧ t { nx := fun _ H' => Q .non H', rt := Q } (start N vs) H) : FnG P w K mg base (k + 1) f fd ps sp := by
  obtain ⟨oc, od, kV, doc, pm, an, cdv, ct, osl, rfl, lk, hcd⟩ := F.ex
  refine ⟨len, fun A outer s H args us vs Q E hr hgd e0 hb r hsp => ?_⟩
  have hl := len _ _ _ _ hsp
  have KX : K.In s.heap := e0.mod.kin.keeps fun b o e => (e0.bs b o e).1
  have lim : s.heap.NoLimit := e0.mod.nolimit.keeps fun b o e => (e0.bs b o e).1
  have hkind : ∀ y ∈ ps.zip us, (defScope st).names.lookup y.1 = some .local ∨ ((defScope st).names.lookup y.1 = some .cell ∧ ((cellsFrom (s.heap.objs.size + 1) (defScope st).names []).lookup y.1).isSome = true) := fun ⟨n, v⟩ hy => by
    rcases S.par n (List.of_mem_zip hy).1 with q | q
    · exact .inl q
    · exact .inr ⟨q, PySem.W.cellsFrom_some _ _ _ (.inl q)⟩
  refine codeAny_call_function hr.depth (KX _ _ lk) rfl S.co S.gen rfl (PySem.W.codeRec_of KX hcd) (hb _ _ _ _ ?_)
  refine wpAny_newFunctionEnv_cells S.kind hkind fun env he s1 x => ?_
  subst he
  refine ⟨lim.keeps x.toInCall.keep, codeAny_func ?_⟩
  obtain ⟨t, ht, hq⟩ := hbody cdv A outer s H vs Q E (hr.deeper _) hgd hsp
  have I := inv_start (CX := CX0) (mg := mg) (cd := cdv) (f := f) (E := E) S hr.hd e0 hl r x
  refine wpAny_mono (ht.nox.run [] s1 (start N vs) H _ I hq) (fun fl s' hs => ?_) fun e s' hs => hs
  cases fl with
  | ret u =>
    obtain ⟨v, σ', H', J, rv, q⟩ := hs
    exact ⟨v, H', J.os, J.bare, J.base, J.hok, rv, q⟩
  | next =>
    obtain ⟨σ', H', J, q⟩ := hs
    exact ⟨V.non, H', J.os, J.bare, J.base, J.hok, rfl, q⟩
  | brk =>
    obtain ⟨_, _, _, q⟩ := hs
    exact False.elim q
  | cont =>
    obtain ⟨_, _, _, q⟩ := hs
    exact False.elim q
end
section
variable {X : Cx} {k : Nat} {f : Addr} {fd : FuncData} {ps : List Str} {sp : Sp} {dvs : List V} {ds : List Value} {E : XK} {x : Str} {p pos : Pos} {e : Expr} {es : List Expr} {t : TA}
/-- a call of such a def, no repr under way -/
theorem pe_callG (F : FnG X.prog X.w X.K X.mg X.base k f fd ps sp) (hr : Room k X.A) (hgd : X.A.guards = some []) (hg : Gl X x) (hm : X.mg x = some (.ref f)) (hk : PySem.W.keepIn X.K (.ref f) = true) (hb : Binds X.K fd ps ds) (hd : Vals dvs ds) (hx : Passes CX0 X E)
    (ha : PA X (e :: es) t) (hdb : (x == ("__debug__" : Str)) = false := by decide) (he : starEach (e :: es) X.env = (false, eval e X.env) :: starEach es X.env := by rfl) (hpl : (backTo pos (starEach es X.env)).any (·.1) = false := by rfl) :
    PE X (.Call (.Name x p) (e :: es) [] pos) (tCall sp dvs E t) := by
  refine ⟨fun pins s σ H Q I h => ?_⟩
  refine wpAny_Call_Name_kw (ld_glob I hg hm ?_ hdb)
  refine PySem.W.callWith_K (h₀ := X.base) I.ok.mod.kin hk (thn (ha.run pos pins s σ H _ I h) fun us s1 ⟨vs, H1, I1, r, q⟩ => ⟨I1.kIn, ?_⟩) he hpl
  have r2 : Vals (vs ++ dvs) (us ++ ds) := r.append hd
  have hl : (us ++ ds).length = ps.length := by rw [← r2.length]; exact F.len _ _ _ _ q
  refine wpAny_call (codeAny_mono (F.run X.A X.stack s1 H1 ⟨us, []⟩ (us ++ ds) (vs ++ dvs) Q E hr hgd I1.env0 (hb s1 us I1.kIn hl) r2 q) fun r s' hq => ?_)
  cases r with
  | error e => exact hx pins σ H1 s1 e s' I1 hq
  | ok fl =>
    cases fl with
    | ret u => exact I1.after hq
    | next => exact False.elim hq
    | brk => exact False.elim hq
    | cont => exact False.elim hq
/-! ### repr of a list of truths -/
def dpBools : List Bool → List PyData
  | [] => []
  | b :: bs => .bool b :: dpBools bs
theorem dpB {K : PySem.W.Frag} {H : Hp} : ∀ bs : List Bool, DpAll K H (bs.map V.bl) (dpBools bs)
  | [] => .nil
  | b :: bs => .cons (.bl b) (dpB bs)
def rReprL (K : PySem.W.Frag) : List V → Hp → VK → Prop := fun xs H Q => ∃ (a : Addr) (bs : List Bool), xs = [.ref a] ∧ SqL K H a (bs.map V.bl) ∧ bs.length ≤ 3 ∧ Q (.str (PyData.list (dpBools bs)).shown) H
theorem showB : ∀ bs : List Bool, PyData.showableAll (dpBools bs) = true
  | [] => rfl
  | b :: bs => by
    show PyData.showableAll (.bool b :: dpBools bs) = true
    simp only [PyData.showableAll, PyData.showable, showB bs, Bool.and_self]
theorem dictB : ∀ bs : List Bool, PyData.hasDictAll (dpBools bs) = false
  | [] => rfl
  | b :: bs => by
    show PyData.hasDictAll (.bool b :: dpBools bs) = false
    simp only [PyData.hasDictAll, PyData.hasDict, dictB bs, Bool.or_self]
theorem depthB : ∀ bs : List Bool, PyData.depthAll (dpBools bs) = 0
  | [] => by simp [dpBools, PyData.depthAll]
  | b :: bs => by
    show PyData.depthAll (.bool b :: dpBools bs) = 0
    simp only [PyData.depthAll, PyData.depth, depthB bs]
    rfl
theorem longB {bs : List Bool} (h : bs.length ≤ 3) : (PyData.list (dpBools bs)).shown.length ≤ 40 := by
  match bs, h with
  | [], _ => decide +kernel
  | [a], _ => cases a <;> decide +kernel
  | [a, b], _ => cases a <;> cases b <;> decide +kernel
  | [a, b, c], _ => cases a <;> cases b <;> cases c <;> decide +kernel
  | (a :: b :: c :: d :: r), h => simp at h
theorem call_reprL (hgd : X.A.guards = some []) (hu : X.A.units + 20 < cLine) : CallR X (.builtin "repr") (rReprL X.K) := by
  intro pins s σ H xs us Q I r h
  obtain ⟨a, bs, rfl, hs, hl, q⟩ := h
  rw [Vals.ref1 r]
  obtain ⟨as, rd⟩ := Dp.reads I (.list (dpBools bs)) (.ref a) (.ref a) (.lst hs (dpB bs)) rfl
  have hlen := longB hl
  refine repr_of_reads' (h₀ := s.heap) rd (by simp only [PyData.showable]; exact showB bs) (fun z => ?_) hgd ?_ (fun b o e => e) (fun h' u tk hk => ⟨.str _, H, I.kept (t' := tk) hk, ⟨_, rfl⟩, q⟩) (Nat.le_trans hlen (by decide))
  · simp only [PyData.hasDict, dictB] at z
    cases z
  · simp only [PyData.depth, depthB]
    omega
end
/-- THE HEAD for such a law -/
theorem lawG {P : Program} {w : World} {K : PySem.W.Frag} {mg mb : Str → Option Value} {k : Nat} {fa a : Addr} {fd : FuncData} {x : Str} {sp : Sp} {s₁ : Shared} {vs : List Value} {ns : List Int}
    (KX : K.In s₁.heap) (hns : s₁.heap.Ns mainGlobals mg) (hb : s₁.heap.Ns builtinsNs mb) (hbb : ∀ x : Str, x ≠ "__name__" → mb x = bootBuiltins x) (hlim : s₁.heap.NoLimit) (hg : s₁.gens = #[])
    (ha : s₁.heap.get? a = some { cls := .type "list", data := .seq vs.toArray }) (hi : IntsAre vs ns) (hl : ns.length ≤ sizeLine) (hr : Room k callerA)
    (F : ∀ base : Heap, K.In base → base.Ns mainGlobals mg → FnG P w K mg base k fa fd [x] sp) (hbind : ∀ (s : Shared) (u : Value), BindsTo s fd ⟨[u], []⟩ [(x, u)])
    (hsp : ∀ H : Hp, Only H → SqL K H a (ns.map V.int) → sp [.ref a] H (fun v _ => v = .bl true) fun _ _ _ => False) :
    codeAny (model P w) callerA (.call (.ref fa) ⟨[.ref a], []⟩) (fun r s' => r = .ok (.ret (.bool true)) ∧ OldK s₁.heap s'.heap ∧ s'.os = s₁.os ∧ AllBare s'.gens) s₁ := by
  -- the abstract heap tells of the script alone, and only where it is no object of the module
  obtain ⟨H, hO, hS, hok, hA⟩ : ∃ H : Hp, Only H ∧ SqL K H a (ns.map V.int) ∧ HOk P w H s₁.heap ∧ ∀ b u, H b = some u → b = a ∧ K.lookup a = none := by
    have hv := vals_ints hi
    cases hk : K.lookup a with
    | some o =>
      have e := (KX a o hk).symm.trans ha
      cases e
      refine ⟨fun _ => none, fun _ => .inl rfl, .inr ⟨_, _, _, hk, rfl, rfl, rfl, ?_, by simpa using hv⟩, fun b u z => ?_, fun b u z => ?_⟩
      · rw [List.size_toArray, hi.length]
        exact hl
      · cases (show (none : Option HO) = some u from z)
      · cases (show (none : Option HO) = some u from z)
    | none =>
      have at_ : ∀ b u, upd (fun _ => none) a (.frz { cls := .type "list", data := .seq vs.toArray } (.lst (ns.map V.int))) b = some u → b = a := fun b u z => by
        refine Classical.byContradiction fun n => ?_
        rw [upd_ne n] at z
        cases z
      refine ⟨upd (fun _ => none) a (.frz { cls := .type "list", data := .seq vs.toArray } (.lst (ns.map V.int))), fun b => ?_, .inl (.inr ⟨_, upd_same⟩), fun b u z => ?_, fun b u z => ⟨at_ b u z, rfl⟩⟩
      · cases z : upd (fun _ => none) a (.frz { cls := .type "list", data := .seq vs.toArray } (.lst (ns.map V.int))) b with
        | none => exact .inl rfl
        | some u =>
          have e := at_ b u z
          subst e
          rw [upd_same] at z
          exact .inr ⟨_, _, z.symm⟩
      · have e := at_ b u z
        subst e
        rw [upd_same] at z
        cases z
        exact ⟨ha, by rw [List.length_map]; exact hl, vs, _, hv, ha⟩
  -- the ground without the script
  have low : ∀ b o, s₁.heap.get? b = some o → (∀ its n, o.data ≠ .seq its n) → H b = none := fun b o e hd => by
    cases z : H b with
    | none => rfl
    | some u =>
      obtain ⟨rfl, _⟩ := hA b u z
      rw [ha] at e
      cases e
      exact absurd rfl (hd _ _)
  have names : ∀ {b : Addr} {m : Str → Option Value}, s₁.heap.Ns b m → (hidT s₁.heap H).Ns b m := by
    rintro b m ⟨o, es, ep, e, d, r⟩
    exact ⟨o, es, ep, hidT_get e (low b o e fun its n z => by rw [d] at z; cases z), d, r⟩
  have kin : K.In (hidT s₁.heap H) := fun b o e => by
    refine hidT_get (KX b o e) ?_
    cases z : H b with
    | none => rfl
    | some u =>
      obtain ⟨rfl, k0⟩ := hA b u z
      rw [k0] at e
      cases e
  obtain ⟨mc, l1, l2⟩ := hlim
  have env : Env0 P w K mg (hidT s₁.heap H) callerA [] s₁ H :=
    { frames := rfl
      mod := ⟨kin, names hns, ⟨mb, names hb, hbb⟩, ⟨mc, names l1, l2⟩⟩
      bs := fun _ _ e => of_hidT e
      bsz := by rw [hidT_size]; exact Nat.le_refl _
      funs := trivial
      frf := fun b z => by cases (show b ∈ ([] : List Addr) from z)
      hok := hok
      bare := .of_eq hg }
  have run := (F _ kin (names hns)).run callerA [] s₁ H ⟨[.ref a], []⟩ [.ref a] [.ref a] (fun v _ => v = .bl true) (fun _ _ _ => False) hr rfl env (hbind s₁ (.ref a)) (.cons rfl .nil) (hsp H hO hS)
  refine codeAny_mono run fun r s' h => ?_
  match r, h with
  | .ok (.ret u), ⟨v, H', os, bare, un, hok', rv, q⟩ =>
    have ev : v = .bl true := q
    subst ev
    have eu : u = Value.bool true := rv
    subst eu
    refine ⟨rfl, OldK.of_keep fun b o e => ?_, os, bare⟩
    rcases hO b with z | ⟨ob, xs, z⟩
    · exact un.keep b o e z (fun y => by cases (show b ∈ ([] : List Addr) from y)) (by simp)
    · have g := (hok b _ z).1
      rw [e] at g
      cases g
      exact (hok' b _ (un.frzs b _ _ z)).1
theorem walkG {l : PySem.W.OpenLaw} {n k : Nat} {q : Program} {loose : List Str} {XP : (Str → Option Value) → Heap → Prop} {YP : World → Heap → Prop} {d : DefRec} {K : Params → PySem.W.Frag} {sp : World → Sp} {x : Str}
    (hn : l.most = some n) (hn2 : n ≤ sizeLine) (hdf : d.params.defaults = []) (hr : Room k callerA)
    (hY : ∀ (w : World) (h : Heap), YP w h → (K w.params).In h)
    (F : ∀ (w : World) (mg : Str → Option Value) (fa : Addr) (h : Heap), (K w.params).In h → h.Ns mainGlobals mg → mg d.name = some (.ref fa) →
      ∃ fd : FuncData, (∀ (s : Shared) (u : Value), BindsTo s fd ⟨[u], []⟩ [(x, u)]) ∧
        ∀ base : Heap, (K w.params).In base → base.Ns mainGlobals mg → FnG l.prog w (K w.params) mg base k fa fd [x] (sp w))
    (hsp : ∀ (w : World) (H : Hp) (a : Addr) (ns : List Int), ns.length ≤ n → Only H → SqL (K w.params) H a (ns.map V.int) → sp w [.ref a] H (fun v _ => v = .bl true) fun _ _ _ => False) :
    PySem.W.WalkO q loose XP YP l.row.toRowW d [] (fun f vs => PySem.call f vs) := by
  refine Att.attach_call hn hdf fun w s₀ s₁ mg mb fa o pm cd doc a vs ns G Y ho hd hcd hmg hobj hints hlen hg => ?_
  have KX := hY w _ Y
  obtain ⟨fd, hb, hF⟩ := F w mg fa _ KX G.T.g hmg
  exact lawG KX G.T.g G.T.b G.T.builtins G.T.nolimit hg hobj hints (Nat.le_trans hlen hn2) hr hF hb (fun H hO hS => hsp w H a ns hlen hO hS)
end Kb
/-! The law. -/
namespace Kb
open PySem PySem.Spec PyProof.Rows L2
section
variable {P : Program} {w : World} {K : PySem.W.Frag} {mg : Str → Option Value} {base : Heap}
def spLikeL (K : PySem.W.Frag) : Sp := fun vs H Q _ => ∃ (a b : Addr) (bs : List Bool), vs = [.ref a, .ref b] ∧ SqL K H a (bs.map V.bl) ∧ SqL K H b (bs.map V.bl) ∧ bs.length ≤ 3 ∧ Q (.bl true) H
theorem ok_likeL {f : Addr} {fd : FuncData} (F0 : Fun K "_law_like" "_law_like" s_like f fd) (mR : mg "repr" = none) : FnG P w K mg base 1 f fd ["_law_got", "_law_due"] (spLikeL K) := by
  refine okG F0 scLike (fun vs H Q E h => ?_) (fun cdv A outer s H vs Q E hr hgd h => ?_)
  · obtain ⟨a, b, bs, rfl, _⟩ := h
    rfl
  obtain ⟨a, b, bs, rfl, ha, hb, hl, q⟩ := h
  have hu20 := hu_room20 hr
  refine ⟨_, pss_one (ps_ret (pe_cmpR op_eq (pe_callB (call_reprL hgd hu20) (by rfl) mR (by decide +kernel) (pa_cons (pv 0) pa_nil)) (pe_callB (call_reprL hgd hu20) (by rfl) mR (by decide +kernel) (pa_cons (pv 1) pa_nil)) (nomark _))), ?_⟩
  refine ⟨_, rfl, a, bs, rfl, ha, hl, _, rfl, b, bs, rfl, hb, hl, rfl, ?_⟩
  rw [decide_eq_true rfl]
  exact q
theorem scLaw : FnScope ["_law_script", "_law_state", "_law_turn", "_law_count", "_law_two", "_law_got"] ["_law_script"] (defScope s_law) := ⟨rfl, rfl, rfl, by decide +kernel, rfl, by decide +kernel, by decide +kernel⟩
def spLaw (K : PySem.W.Frag) : Sp := fun vs H Q _ => ∃ (a : Addr) (ns : List Int), vs = [.ref a] ∧ SqL K H a (ns.map V.int) ∧ ns.length ≤ 63 ∧ ∀ H', Q (.bl true) H'
theorem ok_law {f f1 f2 f3 f4 f5 f6 : Addr} {fd fd1 fd2 fd3 fd4 fd5 fd6 : FuncData} (F0 : Fun K "law" "law" s_law f fd)
    (G1 : FnOk P w K mg base CX0 1 f1 fd1 ["_law_script"] (spBegin K)) (b1 : Binds K fd1 ["_law_script"] []) (k1 : PySem.W.keepIn K (.ref f1) = true) (m1 : mg "_law_begin" = some (.ref f1))
    (G2 : FnOk P w K mg base CX0 2 f2 fd2 ["_law_state", "_law_limit"] spDraw) (b2 : Binds K fd2 ["_law_state", "_law_limit"] []) (k2 : PySem.W.keepIn K (.ref f2) = true) (m2 : mg "_law_draw" = some (.ref f2))
    (G3 : FnOk P w K mg base CX0 3 f3 fd3 ["_law_state", "_law_count"] spWorths) (b3 : Binds K fd3 ["_law_state", "_law_count"] []) (k3 : PySem.W.keepIn K (.ref f3) = true) (m3 : mg "_law_worths" = some (.ref f3))
    (G4 : FnOk P w K mg base CX0 13 f4 fd4 ["_law_state", "_law_count", "_law_worths_here"] spRight) (b4 : Binds K fd4 ["_law_state", "_law_count", "_law_worths_here"] []) (k4 : PySem.W.keepIn K (.ref f4) = true) (m4 : mg "_law_right" = some (.ref f4))
    (G5 : FnOk P w K mg base CX0 9 f5 fd5 ["many", "values", "asks", "value"] spJudge) (b5 : Binds K fd5 ["many", "values", "asks", "value"] []) (k5 : PySem.W.keepIn K (.ref f5) = true) (m5 : mg "is_cube_book" = some (.ref f5))
    (G6 : FnG P w K mg base 1 f6 fd6 ["_law_got", "_law_due"] (spLikeL K)) (b6 : Binds K fd6 ["_law_got", "_law_due"] []) (k6 : PySem.W.keepIn K (.ref f6) = true) (m6 : mg "_law_like" = some (.ref f6))
    (mr : mg "range" = none) : FnG P w K mg base 14 f fd ["_law_script"] (spLaw K) := by
  refine okG F0 scLaw (fun vs H Q E h => ?_) (fun cdv A outer s H vs Q E hr hgd h => ?_)
  · obtain ⟨a, ns, rfl, _⟩ := h
    rfl
  obtain ⟨a, ns, rfl, hS0, hl0, q⟩ := h
  have nd := scLaw.nd
  refine ⟨_, pss_cons (ps_set (i := 1) nd rfl (.inl rfl) (pe_call G1 (hr.mono (by decide)) (by rfl) m1 k1 b1 .nil pass0 (pa_cons (pv 0) pa_nil)))
    (pss_cons (ps_for PassesOwn.never rfl (pi_range1 (by rfl) mr (pa_cons pe_int pa_nil)) (pg_name (i := 2) nd rfl (.inl rfl))
      (pss_cons (ps_set (i := 3) nd rfl (.inl rfl) (pe_op op_add pe_int (pe_call G2 (hr.mono (by decide)) (by rfl) m2 k2 b2 .nil pass0 (pa_cons (pv 1) (pa_cons pe_int pa_nil)))))
      (pss_one (ps_if (pt_not (pt_val (pe_call G4 hr (by rfl) m4 k4 b4 .nil pass0 (pa_cons (pv 1) (pa_cons (pv 3) (pa_cons (pe_call G3 (hr.mono (by decide)) (by rfl) m3 k3 b3 .nil pass0 (pa_cons (pv 1) (pa_cons (pv 3) pa_nil))) pa_nil)))))) (pss_one (ps_ret pe_bl)) pss_nil))))
    (pss_cons (ps_set (i := 4) nd rfl (.inl rfl) (pe_tup (pa_cons (pe_tup (pa_cons pe_int (pa_cons (pe_tup (pa_cons pe_int (pa_cons pe_int pa_nil))) pa_nil))) (pa_cons (pe_tup (pa_cons pe_int (pa_cons (pe_tup (pa_cons pe_int (pa_cons pe_int pa_nil))) pa_nil)))
        (pa_cons (pe_tup (pa_cons pe_int (pa_cons (pe_tup (pa_cons pe_int (pa_cons pe_int pa_nil))) pa_nil))) (pa_cons (pe_tup (pa_cons pe_int (pa_cons (pe_tup (pa_cons pe_int (pa_cons pe_int pa_nil))) pa_nil))) (pa_cons (pe_tup (pa_cons pe_int (pa_cons (pe_tup (pa_cons pe_int (pa_cons pe_int pa_nil))) pa_nil))) pa_nil)))))))
    (pss_cons (ps_set (i := 5) nd rfl (.inl rfl) (pe_lst (pa_cons (pe_call G5 (hr.mono (by decide)) (by rfl) m5 k5 b5 .nil pass0 (pa_cons pe_int (pa_cons (pe_tup (pa_cons pe_int (pa_cons pe_int (pa_cons pe_int (pa_cons pe_int pa_nil))))) (pa_cons pe_int (pa_cons (pv 4) pa_nil)))))
        (pa_cons (pe_call G5 (hr.mono (by decide)) (by rfl) m5 k5 b5 .nil pass0 (pa_cons pe_int (pa_cons (pe_tup (pa_cons pe_int (pa_cons pe_int (pa_cons pe_int (pa_cons pe_int pa_nil))))) (pa_cons pe_int (pa_cons (pe_op op_catS (pe_slice sl_tupS (pv 4) po_none (po_some pe_int)) (pe_slice sl_tupS (pv 4) (po_some pe_int) po_none)) pa_nil))))) pa_nil))))
    (pss_one (ps_ret (pe_callG G6 (hr.mono (by decide)) hgd (by rfl) m6 k6 b6 .nil pass0 (pa_cons (pe_op op_cat (pv 5) (pe_lst (pa_cons (pe_call G5 (hr.mono (by decide)) (by rfl) m5 k5 b5 .nil pass0 (pa_cons pe_int (pa_cons (pe_tup (pa_cons pe_int (pa_cons pe_int (pa_cons pe_int (pa_cons pe_int pa_nil))))) (pa_cons pe_int
        (pa_cons (pe_tup (pa_cons (pe_tup (pa_cons pe_int (pa_cons (pe_tup (pa_cons pe_int (pa_cons pe_int pa_nil))) pa_nil))) pa_nil)) pa_nil))))) pa_nil))) (pa_cons (pe_lst (pa_cons pe_bl (pa_cons pe_bl (pa_cons pe_bl pa_nil)))) pa_nil)))))))), ?_⟩
  refine ⟨_, rfl, a, ns, rfl, hS0, hl0, fun st ca la H1 hS => ?_⟩
  refine ⟨4, rfl, by decide, by decide, ?_⟩
  refine for_range (lo := 0) (n := 4) (fun i σ' H' => ∃ y2 y3 a', σ' = [some (.ref a), some (.ref st), y2, y3, none, none] ∧ StH H' st ca la a' ∧ a' ≤ 16 * (i : Int)) ⟨_, _, 0, rfl, hS, by omega⟩ (fun i σ' H' hi p => ?_) (fun σ' HS p => ?_)
  · obtain ⟨y2, y3, a', rfl, p1, p2⟩ := p
    refine ⟨_, rfl, st, ca, la, a', 2, rfl, p1, by omega, by decide, by decide, fun r H2 hr0 hr1 b12 hS2 => ?_⟩
    obtain ⟨n, hn, hn2⟩ : ∃ n : Nat, 2 + r = (n : Int) ∧ (n = 2 ∨ n = 3) := ⟨(2 + r).toNat, by omega, by omega⟩
    refine ⟨2, r, rfl, rfl, ?_⟩
    have en : V.int (2 + r) = V.int (n : Int) := by rw [hn]
    refine ⟨_, rfl, _, rfl, _, rfl, _, rfl, st, ca, la, a' + 1, n, by rw [← hn]; rfl, hn2, hS2, by omega, fun v vals H3 b3' hS3 hv => ?_⟩
    have h8 : ((2 ^ n : Nat) : Int) ≤ 8 := by rcases hn2 with rfl | rfl <;> decide
    have h80 : (0 : Int) ≤ ((2 ^ n : Nat) : Int) := Int.natCast_nonneg _
    refine ⟨st, ca, la, v, a' + 1 + ((2 ^ n : Nat) : Int), n, vals, by rw [← hn]; rfl, hn2, hS3, by omega, hv, fun H4 a4 b4' hS4 ha4 => ?_⟩
    refine ⟨true, rfl, ifF rfl ⟨_, _, a4, rfl, hS4, ?_⟩⟩
    omega
  obtain ⟨y2, y3, a', rfl, p1, p2⟩ := p
  clear p1 p2 hS
  refine ⟨(by show 2 ≤ sizeLine; decide), fun uJ1 huJ1 => ?_⟩
  have sJ1 := same_upd (o := .tup [.int 0, .int 2]) huJ1
  have eJ1 : (upd HS uJ1 (.tup [.int 0, .int 2])) uJ1 = some (.tup [.int 0, .int 2]) := upd_same
  generalize upd HS uJ1 (.tup [.int 0, .int 2]) = J1 at sJ1 eJ1  ⊢
  refine ⟨(by show 2 ≤ sizeLine; decide), fun uJ2 huJ2 => ?_⟩
  have sJ2 := same_upd (o := .tup [.int 0, .ref uJ1]) huJ2
  have eJ2 : (upd J1 uJ2 (.tup [.int 0, .ref uJ1])) uJ2 = some (.tup [.int 0, .ref uJ1]) := upd_same
  have eJ1 := sJ2 _ _ eJ1
  generalize upd J1 uJ2 (.tup [.int 0, .ref uJ1]) = J2 at sJ2 eJ2 eJ1 ⊢
  refine ⟨(by show 2 ≤ sizeLine; decide), fun uJ3 huJ3 => ?_⟩
  have sJ3 := same_upd (o := .tup [.int 1, .int 2]) huJ3
  have eJ3 : (upd J2 uJ3 (.tup [.int 1, .int 2])) uJ3 = some (.tup [.int 1, .int 2]) := upd_same
  have eJ1 := sJ3 _ _ eJ1
  have eJ2 := sJ3 _ _ eJ2
  generalize upd J2 uJ3 (.tup [.int 1, .int 2]) = J3 at sJ3 eJ3 eJ1 eJ2 ⊢
  refine ⟨(by show 2 ≤ sizeLine; decide), fun uJ4 huJ4 => ?_⟩
  have sJ4 := same_upd (o := .tup [.int 0, .ref uJ3]) huJ4
  have eJ4 : (upd J3 uJ4 (.tup [.int 0, .ref uJ3])) uJ4 = some (.tup [.int 0, .ref uJ3]) := upd_same
  have eJ1 := sJ4 _ _ eJ1
  have eJ2 := sJ4 _ _ eJ2
  have eJ3 := sJ4 _ _ eJ3
  generalize upd J3 uJ4 (.tup [.int 0, .ref uJ3]) = J4 at sJ4 eJ4 eJ1 eJ2 eJ3 ⊢
  refine ⟨(by show 2 ≤ sizeLine; decide), fun uJ5 huJ5 => ?_⟩
  have sJ5 := same_upd (o := .tup [.int 2, .int 0]) huJ5
  have eJ5 : (upd J4 uJ5 (.tup [.int 2, .int 0])) uJ5 = some (.tup [.int 2, .int 0]) := upd_same
  have eJ1 := sJ5 _ _ eJ1
  have eJ2 := sJ5 _ _ eJ2
  have eJ3 := sJ5 _ _ eJ3
  have eJ4 := sJ5 _ _ eJ4
  generalize upd J4 uJ5 (.tup [.int 2, .int 0]) = J5 at sJ5 eJ5 eJ1 eJ2 eJ3 eJ4 ⊢
  refine ⟨(by show 2 ≤ sizeLine; decide), fun uJ6 huJ6 => ?_⟩
  have sJ6 := same_upd (o := .tup [.int 0, .ref uJ5]) huJ6
  have eJ6 : (upd J5 uJ6 (.tup [.int 0, .ref uJ5])) uJ6 = some (.tup [.int 0, .ref uJ5]) := upd_same
  have eJ1 := sJ6 _ _ eJ1
  have eJ2 := sJ6 _ _ eJ2
  have eJ3 := sJ6 _ _ eJ3
  have eJ4 := sJ6 _ _ eJ4
  have eJ5 := sJ6 _ _ eJ5
  generalize upd J5 uJ6 (.tup [.int 0, .ref uJ5]) = J6 at sJ6 eJ6 eJ1 eJ2 eJ3 eJ4 eJ5 ⊢
  refine ⟨(by show 2 ≤ sizeLine; decide), fun uJ7 huJ7 => ?_⟩
  have sJ7 := same_upd (o := .tup [.int 2, .int 1]) huJ7
  have eJ7 : (upd J6 uJ7 (.tup [.int 2, .int 1])) uJ7 = some (.tup [.int 2, .int 1]) := upd_same
  have eJ1 := sJ7 _ _ eJ1
  have eJ2 := sJ7 _ _ eJ2
  have eJ3 := sJ7 _ _ eJ3
  have eJ4 := sJ7 _ _ eJ4
  have eJ5 := sJ7 _ _ eJ5
  have eJ6 := sJ7 _ _ eJ6
  generalize upd J6 uJ7 (.tup [.int 2, .int 1]) = J7 at sJ7 eJ7 eJ1 eJ2 eJ3 eJ4 eJ5 eJ6 ⊢
  refine ⟨(by show 2 ≤ sizeLine; decide), fun uJ8 huJ8 => ?_⟩
  have sJ8 := same_upd (o := .tup [.int 0, .ref uJ7]) huJ8
  have eJ8 : (upd J7 uJ8 (.tup [.int 0, .ref uJ7])) uJ8 = some (.tup [.int 0, .ref uJ7]) := upd_same
  have eJ1 := sJ8 _ _ eJ1
  have eJ2 := sJ8 _ _ eJ2
  have eJ3 := sJ8 _ _ eJ3
  have eJ4 := sJ8 _ _ eJ4
  have eJ5 := sJ8 _ _ eJ5
  have eJ6 := sJ8 _ _ eJ6
  have eJ7 := sJ8 _ _ eJ7
  generalize upd J7 uJ8 (.tup [.int 0, .ref uJ7]) = J8 at sJ8 eJ8 eJ1 eJ2 eJ3 eJ4 eJ5 eJ6 eJ7 ⊢
  refine ⟨(by show 2 ≤ sizeLine; decide), fun uJ9 huJ9 => ?_⟩
  have sJ9 := same_upd (o := .tup [.int 2, .int 2]) huJ9
  have eJ9 : (upd J8 uJ9 (.tup [.int 2, .int 2])) uJ9 = some (.tup [.int 2, .int 2]) := upd_same
  have eJ1 := sJ9 _ _ eJ1
  have eJ2 := sJ9 _ _ eJ2
  have eJ3 := sJ9 _ _ eJ3
  have eJ4 := sJ9 _ _ eJ4
  have eJ5 := sJ9 _ _ eJ5
  have eJ6 := sJ9 _ _ eJ6
  have eJ7 := sJ9 _ _ eJ7
  have eJ8 := sJ9 _ _ eJ8
  generalize upd J8 uJ9 (.tup [.int 2, .int 2]) = J9 at sJ9 eJ9 eJ1 eJ2 eJ3 eJ4 eJ5 eJ6 eJ7 eJ8 ⊢
  refine ⟨(by show 2 ≤ sizeLine; decide), fun uJ10 huJ10 => ?_⟩
  have sJ10 := same_upd (o := .tup [.int 1, .ref uJ9]) huJ10
  have eJ10 : (upd J9 uJ10 (.tup [.int 1, .ref uJ9])) uJ10 = some (.tup [.int 1, .ref uJ9]) := upd_same
  have eJ1 := sJ10 _ _ eJ1
  have eJ2 := sJ10 _ _ eJ2
  have eJ3 := sJ10 _ _ eJ3
  have eJ4 := sJ10 _ _ eJ4
  have eJ5 := sJ10 _ _ eJ5
  have eJ6 := sJ10 _ _ eJ6
  have eJ7 := sJ10 _ _ eJ7
  have eJ8 := sJ10 _ _ eJ8
  have eJ9 := sJ10 _ _ eJ9
  generalize upd J9 uJ10 (.tup [.int 1, .ref uJ9]) = J10 at sJ10 eJ10 eJ1 eJ2 eJ3 eJ4 eJ5 eJ6 eJ7 eJ8 eJ9 ⊢
  refine ⟨(by show 5 ≤ sizeLine; decide), fun uJ11 huJ11 => ?_⟩
  have sJ11 := same_upd (o := .tup [.ref uJ2, .ref uJ4, .ref uJ6, .ref uJ8, .ref uJ10]) huJ11
  have eJ11 : (upd J10 uJ11 (.tup [.ref uJ2, .ref uJ4, .ref uJ6, .ref uJ8, .ref uJ10])) uJ11 = some (.tup [.ref uJ2, .ref uJ4, .ref uJ6, .ref uJ8, .ref uJ10]) := upd_same
  have eJ1 := sJ11 _ _ eJ1
  have eJ2 := sJ11 _ _ eJ2
  have eJ3 := sJ11 _ _ eJ3
  have eJ4 := sJ11 _ _ eJ4
  have eJ5 := sJ11 _ _ eJ5
  have eJ6 := sJ11 _ _ eJ6
  have eJ7 := sJ11 _ _ eJ7
  have eJ8 := sJ11 _ _ eJ8
  have eJ9 := sJ11 _ _ eJ9
  have eJ10 := sJ11 _ _ eJ10
  generalize upd J10 uJ11 (.tup [.ref uJ2, .ref uJ4, .ref uJ6, .ref uJ8, .ref uJ10]) = J11 at sJ11 eJ11 eJ1 eJ2 eJ3 eJ4 eJ5 eJ6 eJ7 eJ8 eJ9 eJ10 ⊢
  have hB : BookH J11 uJ11 [(uJ2, (0, [0, 2])), (uJ4, (0, [1, 2])), (uJ6, (0, [2, 0])), (uJ8, (0, [2, 1])), (uJ10, (1, [2, 2]))] := ⟨eJ11, fun k hk => by
    simp only [List.mem_cons, List.not_mem_nil, or_false] at hk
    rcases hk with z | z | z | z | z <;> subst z
    · exact ⟨uJ1, eJ2, eJ1⟩
    · exact ⟨uJ3, eJ4, eJ3⟩
    · exact ⟨uJ5, eJ6, eJ5⟩
    · exact ⟨uJ7, eJ8, eJ7⟩
    · exact ⟨uJ9, eJ10, eJ9⟩⟩
  have okB : ∀ k ∈ ([(uJ2, (0, [0, 2])), (uJ4, (0, [1, 2])), (uJ6, (0, [2, 0])), (uJ8, (0, [2, 1])), (uJ10, (1, [2, 2]))] : List AE), EnOk 2 k.2 := fun k hk => by
    simp only [List.mem_cons, List.not_mem_nil, or_false] at hk
    rcases hk with z | z | z | z | z <;> subst z
    · exact ⟨by show (0 : Int) ≤ 0; decide, by show (0 : Int) ≤ 4; decide, rfl, by intro x hx; simp at hx; omega⟩
    · exact ⟨by show (0 : Int) ≤ 0; decide, by show (0 : Int) ≤ 4; decide, rfl, by intro x hx; simp at hx; omega⟩
    · exact ⟨by show (0 : Int) ≤ 0; decide, by show (0 : Int) ≤ 4; decide, rfl, by intro x hx; simp at hx; omega⟩
    · exact ⟨by show (0 : Int) ≤ 0; decide, by show (0 : Int) ≤ 4; decide, rfl, by intro x hx; simp at hx; omega⟩
    · exact ⟨by show (0 : Int) ≤ 1; decide, by show (1 : Int) ≤ 4; decide, rfl, by intro x hx; simp at hx; omega⟩
  refine ⟨(by show 4 ≤ sizeLine; decide), fun vJ12 hvJ12 => ?_⟩
  have sJ12 := same_upd (o := .tup [.int 0, .int 1, .int 1, .int 0]) hvJ12
  have VJ12 : ValsH (upd J11 vJ12 (.tup [.int 0, .int 1, .int 1, .int 0])) vJ12 [0, 1, 1, 0] 2 := ⟨upd_same, rfl, by decide⟩
  have hB := hB.keep (same_tup sJ12)
  generalize upd J11 vJ12 (.tup [.int 0, .int 1, .int 1, .int 0]) = J12 at sJ12 VJ12 hB ⊢
  refine ⟨_, rfl, 2, vJ12, [0, 1, 1, 0], 2, .ref uJ11, rfl, .inl rfl, VJ12, by decide, .inr ⟨uJ11, _, rfl, hB, okB, by show 5 ≤ 63; decide, fun J13 sJ13 => ?_⟩⟩
  have j1 : judgeB [0, 1, 1, 0] (ents [(uJ2, (0, [0, 2])), (uJ4, (0, [1, 2])), (uJ6, (0, [2, 0])), (uJ8, (0, [2, 1])), (uJ10, (1, [2, 2]))]) 2 = true := by
    show judgeB [0, 1, 1, 0] [((0 : Int), [(0 : Int), 2]), ((0 : Int), [(1 : Int), 2]), ((0 : Int), [(2 : Int), 0]), ((0 : Int), [(2 : Int), 1]), ((1 : Int), [(2 : Int), 2])] 2 = true
    decide +kernel
  have hB := hB.keep (same_tup sJ13)
  refine ⟨(by show 4 ≤ sizeLine; decide), fun vJ14 hvJ14 => ?_⟩
  have sJ14 := same_upd (o := .tup [.int 0, .int 1, .int 1, .int 0]) hvJ14
  have VJ14 : ValsH (upd J13 vJ14 (.tup [.int 0, .int 1, .int 1, .int 0])) vJ14 [0, 1, 1, 0] 2 := ⟨upd_same, rfl, by decide⟩
  have hB := hB.keep (same_tup sJ14)
  generalize upd J13 vJ14 (.tup [.int 0, .int 1, .int 1, .int 0]) = J14 at sJ14 VJ14 hB ⊢
  refine ⟨_, rfl, _, rfl, uJ11, _, rfl, hB.1, fun pJ15 J15 sJ15 eJ15 => ?_⟩
  refine ⟨_, rfl, _, rfl, uJ11, _, rfl, sJ15 _ _ hB.1, fun pJ16 J16 sJ16 eJ16 => ?_⟩
  have bJ15 := book_cut hB (same_tup (sJ15.trans sJ16)) (sJ16 _ _ eJ15)
  have bJ16 := book_cut hB (same_tup (sJ15.trans sJ16)) eJ16
  refine ⟨pJ15, pJ16, _, _, rfl, rfl, bJ15.1, bJ16.1, by show 2 + 1 ≤ 1000; decide, fun pJ17 J17 sJ17 eJ17 => ?_⟩
  have bJ17 := book_cat bJ15 bJ16 (same_tup sJ17) eJ17
  have V2 := VJ14.keep (same_tup (sJ15.trans (sJ16.trans sJ17)))
  refine ⟨2, vJ14, [0, 1, 1, 0], 2, .ref pJ17, rfl, .inl rfl, V2, by decide, .inr ⟨pJ17, _, rfl, bJ17, fun k hk => ?_, by show 3 ≤ 63; decide, fun J18 sJ18 => ?_⟩⟩
  · rcases List.mem_append.mp hk with z | z
    · exact okB k (cutK_sub k z)
    · exact okB k (cutK_sub k z)
  have j2 : judgeB [0, 1, 1, 0] (ents (cutK [(uJ2, (0, [0, 2])), (uJ4, (0, [1, 2])), (uJ6, (0, [2, 0])), (uJ8, (0, [2, 1])), (uJ10, (1, [2, 2]))] none (some 2) ++ cutK [(uJ2, (0, [0, 2])), (uJ4, (0, [1, 2])), (uJ6, (0, [2, 0])), (uJ8, (0, [2, 1])), (uJ10, (1, [2, 2]))] (some 4) none)) 2 = false := by
    show judgeB [0, 1, 1, 0] [((0 : Int), [(0 : Int), 2]), ((0 : Int), [(1 : Int), 2]), ((1 : Int), [(2 : Int), 2])] 2 = false
    decide +kernel
  rw [j1, j2]
  refine ⟨(by show 2 ≤ sizeLine; decide), fun lg hlg => ?_⟩
  have sJ19 := same_upd (o := .lst [.bl true, .bl false]) hlg
  have eg : (upd J18 lg (.lst [.bl true, .bl false])) lg = some (.lst [.bl true, .bl false]) := upd_same
  generalize upd J18 lg (.lst [.bl true, .bl false]) = J19 at sJ19 eg ⊢
  refine ⟨_, rfl, ?_⟩
  refine ⟨(by show 4 ≤ sizeLine; decide), fun v3 hv3 => ?_⟩
  have sJ20 := same_upd (o := .tup [.int 0, .int 0, .int 1, .int 1]) hv3
  have V3 : ValsH (upd J19 v3 (.tup [.int 0, .int 0, .int 1, .int 1])) v3 [0, 0, 1, 1] 2 := ⟨upd_same, rfl, by decide⟩
  have eg := sJ20 _ _ eg
  generalize upd J19 v3 (.tup [.int 0, .int 0, .int 1, .int 1]) = J20 at sJ20 V3 eg ⊢
  refine ⟨(by show 2 ≤ sizeLine; decide), fun uJ21 huJ21 => ?_⟩
  have sJ21 := same_upd (o := .tup [.int 2, .int 2]) huJ21
  have eJ21 : (upd J20 uJ21 (.tup [.int 2, .int 2])) uJ21 = some (.tup [.int 2, .int 2]) := upd_same
  have eg := sJ21 _ _ eg
  generalize upd J20 uJ21 (.tup [.int 2, .int 2]) = J21 at sJ21 eJ21 eg ⊢
  have V3 := V3.keep (same_tup sJ21)
  refine ⟨(by show 2 ≤ sizeLine; decide), fun uJ22 huJ22 => ?_⟩
  have sJ22 := same_upd (o := .tup [.int 0, .ref uJ21]) huJ22
  have eJ22 : (upd J21 uJ22 (.tup [.int 0, .ref uJ21])) uJ22 = some (.tup [.int 0, .ref uJ21]) := upd_same
  have eg := sJ22 _ _ eg
  have eJ21 := sJ22 _ _ eJ21
  generalize upd J21 uJ22 (.tup [.int 0, .ref uJ21]) = J22 at sJ22 eJ22 eg eJ21 ⊢
  have V3 := V3.keep (same_tup sJ22)
  refine ⟨(by show 1 ≤ sizeLine; decide), fun uJ23 huJ23 => ?_⟩
  have sJ23 := same_upd (o := .tup [.ref uJ22]) huJ23
  have eJ23 : (upd J22 uJ23 (.tup [.ref uJ22])) uJ23 = some (.tup [.ref uJ22]) := upd_same
  have eg := sJ23 _ _ eg
  have eJ21 := sJ23 _ _ eJ21
  have eJ22 := sJ23 _ _ eJ22
  generalize upd J22 uJ23 (.tup [.ref uJ22]) = J23 at sJ23 eJ23 eg eJ21 eJ22 ⊢
  have V3 := V3.keep (same_tup sJ23)
  have hB3 : BookH J23 uJ23 [(uJ22, (0, [2, 2]))] := ⟨eJ23, fun k hk => by
    have : k = (uJ22, (0, [2, 2])) := by simpa using hk
    subst this
    exact ⟨uJ21, eJ22, eJ21⟩⟩
  refine ⟨2, v3, [0, 0, 1, 1], 1, .ref uJ23, rfl, .inl rfl, V3, by decide, .inr ⟨uJ23, _, rfl, hB3, fun k hk => ?_, by show 1 ≤ 63; decide, fun J24 sJ24 => ?_⟩⟩
  · have : k = (uJ22, (0, [2, 2])) := by simpa using hk
    subst this
    exact ⟨by show (0 : Int) ≤ 0; decide, by show (0 : Int) ≤ 4; decide, rfl, by intro x hx; simp at hx; omega⟩
  have j3 : judgeB [0, 0, 1, 1] (ents [(uJ22, ((0 : Int), [(2 : Int), 2]))]) 1 = true := by
    show judgeB [0, 0, 1, 1] [((0 : Int), [(2 : Int), 2])] 1 = true
    decide +kernel
  rw [j3]
  have eg := sJ24 _ _ eg
  refine ⟨(by show 1 ≤ sizeLine; decide), fun l3 hl3 => ?_⟩
  have sA := same_upd (o := .lst [.bl true]) hl3
  refine ⟨lg, l3, _, _, rfl, rfl, sA _ _ eg, upd_same, (by show 3 ≤ sizeLine; decide), fun l4 hl4 => ?_⟩
  refine ⟨(by show 3 ≤ sizeLine; decide), fun l5 hl5 => ?_⟩
  have sB := same_upd (o := .lst [.bl true, .bl false, .bl true]) hl5
  exact ⟨l4, l5, [true, false, true], rfl, SqL.of (sB _ _ upd_same), SqL.of upd_same, by decide, q _⟩
end
end Kb
/-! What the top has written: every def by its promise; the law's promise. -/
namespace Kb
open PySem PySem.Spec PyProof.Rows L2
/-- the def st stands under the name x -/
def Df (K : PySem.W.Frag) (mg : Str → Option Value) (x : Str) (st : Stmt) : Prop := ∃ (f : Addr) (fd : FuncData), mg x = some (.ref f) ∧ Fun K x x st f fd
theorem Df.mk {K : PySem.W.Frag} {h : Heap} {mg : Str → Option Value} {x : Str} {st : Stmt} {f : Addr} {oc : Value} {od an : Option Addr} {osl : Array (Option Value)} {kV doc pm cdv ct : Value} (X : K.In h) (G : h.Ns mainGlobals mg)
    (a : PySem.W.nsIn K mainGlobals x = some (some (.ref f))) (l : K.lookup f = some ⟨oc, od, .func (PySem.W.fnOf x x (defArgs st) (defBody st) (defScope st) .none kV doc pm an cdv ct), osl⟩) (c : PySem.W.codeIn K cdv x = true) (k : PySem.W.keepIn K (.ref f) = true) : Df K mg x st :=
  ⟨f, _, PySem.W.mg_of X G a, fun_mk l c k⟩
theorem two_mk {K : PySem.W.Frag} {h : Heap} {mg : Str → Option Value} {a : Addr} {od : Option Addr} {n : Nat} {sl : Array (Option Value)} {q0 q1 q2 q3 q4 q5 q6 q7 q8 q9 q10 q11 q12 q13 q14 q15 q16 q17 q18 q19 q20 : Tok} (X : K.In h) (G : h.Ns mainGlobals mg) (aT : PySem.W.nsIn K mainGlobals "TWOS" = some (some (.ref a)))
    (l : K.lookup a = some ⟨.type "tuple", od, .seq #[.int 1 q0, .int 2 q1, .int 4 q2, .int 8 q3, .int 16 q4, .int 32 q5, .int 64 q6, .int 128 q7, .int 256 q8, .int 512 q9, .int 1024 q10, .int 2048 q11, .int 4096 q12, .int 8192 q13, .int 16384 q14, .int 32768 q15, .int 65536 q16, .int 131072 q17, .int 262144 q18, .int 524288 q19, .int 1048576 q20] n, sl⟩) : ∃ a, mg "TWOS" = some (.ref a) ∧ TwosK K a := by
  refine ⟨a, PySem.W.mg_of X G aT, _, _, _, l, rfl, rfl, (by show 21 ≤ sizeLine; decide), ?_⟩
  show Vals (twosL.map V.int) [.int 1 q0, .int 2 q1, .int 4 q2, .int 8 q3, .int 16 q4, .int 32 q5, .int 64 q6, .int 128 q7, .int 256 q8, .int 512 q9, .int 1024 q10, .int 2048 q11, .int 4096 q12, .int 8192 q13, .int 16384 q14, .int 32768 q15, .int 65536 q16, .int 131072 q17, .int 262144 q18, .int 524288 q19, .int 1048576 q20]
  have e : twosL = [1, 2, 4, 8, 16, 32, 64, 128, 256, 512, 1024, 2048, 4096, 8192, 16384, 32768, 65536, 131072, 262144, 524288, 1048576] := by decide
  rw [e]
  exact .cons ⟨_, rfl⟩ (.cons ⟨_, rfl⟩ (.cons ⟨_, rfl⟩ (.cons ⟨_, rfl⟩ (.cons ⟨_, rfl⟩ (.cons ⟨_, rfl⟩ (.cons ⟨_, rfl⟩ (.cons ⟨_, rfl⟩ (.cons ⟨_, rfl⟩ (.cons ⟨_, rfl⟩ (.cons ⟨_, rfl⟩ (.cons ⟨_, rfl⟩ (.cons ⟨_, rfl⟩ (.cons ⟨_, rfl⟩ (.cons ⟨_, rfl⟩ (.cons ⟨_, rfl⟩ (.cons ⟨_, rfl⟩ (.cons ⟨_, rfl⟩ (.cons ⟨_, rfl⟩ (.cons ⟨_, rfl⟩ (.cons ⟨_, rfl⟩ (.nil)))))))))))))))))))))
theorem allD {l : PySem.W.OpenLaw} {w : World} {K : PySem.W.Frag} {mg : Str → Option Value} {fa : Addr} (hfa : mg "law" = some (.ref fa))
    (d_is_from : Df K mg "is_from" s_is_from)
    (d_check_many : Df K mg "check_many" s_check_many)
    (d_check_values : Df K mg "check_values" s_check_values)
    (d_cube_so : Df K mg "cube_so" s_cube_so)
    (d_free_bits : Df K mg "free_bits" s_free_bits)
    (d_half_so : Df K mg "half_so" s_half_so)
    (d_halves_of : Df K mg "halves_of" s_halves_of)
    (d_kinds_so : Df K mg "kinds_so" s_kinds_so)
    (d_fewest_so : Df K mg "fewest_so" s_fewest_so)
    (d_tree_so : Df K mg "tree_so" s_tree_so)
    (d_entries_so : Df K mg "entries_so" s_entries_so)
    (d_least_so : Df K mg "least_so" s_least_so)
    (d_is_entry : Df K mg "is_entry" s_is_entry)
    (d_is_entry_set : Df K mg "is_entry_set" s_is_entry_set)
    (d_lies_within : Df K mg "lies_within" s_lies_within)
    (d_stands_so : Df K mg "stands_so" s_stands_so)
    (d_is_book_so : Df K mg "is_book_so" s_is_book_so)
    (d_check_few : Df K mg "check_few" s_check_few)
    (d_least_asks : Df K mg "least_asks" s_least_asks)
    (d_is_cube_book : Df K mg "is_cube_book" s_is_cube_book)
    (d_law_mixed : Df K mg "_law_mixed" s_mixed)
    (d_law_begin : Df K mg "_law_begin" s_begin)
    (d_law_draw : Df K mg "_law_draw" s_draw)
    (d_law_of : Df K mg "_law_of" s_of)
    (d_law_power : Df K mg "_law_power" s_power)
    (d_law_bits_of : Df K mg "_law_bits_of" s_bits_of)
    (d_law_worths : Df K mg "_law_worths" s_worths)
    (d_law_like : Df K mg "_law_like" s_like)
    (d_law_fits : Df K mg "_law_fits" s_fits)
    (d_law_lines_in : Df K mg "_law_lines_in" s_lines_in)
    (d_law_is_both : Df K mg "_law_is_both" s_is_both)
    (d_law_half : Df K mg "_law_half" s_half)
    (d_law_asks_for : Df K mg "_law_asks_for" s_asks_for)
    (d_law_cubes : Df K mg "_law_cubes" s_cubes)
    (d_law_less_cube : Df K mg "_law_less_cube" s_less_cube)
    (d_law_is_cube_entry : Df K mg "_law_is_cube_entry" s_l_is_entry)
    (d_law_cube_stands : Df K mg "_law_cube_stands" s_cube_stands)
    (d_law_is_cube_book : Df K mg "_law_is_cube_book" s_l_is_book)
    (d_law_whole_book : Df K mg "_law_whole_book" s_whole_book)
    (d_law_bent : Df K mg "_law_bent" s_bent)
    (d_law_odd : Df K mg "_law_odd" s_odd)
    (d_law_right : Df K mg "_law_right" s_right)
    (d_law : Df K mg "law" s_law)
    {t_MOST_MANY_questions : Tok} (c_MOST_MANY_questions : mg "MOST_MANY_questions" = some (.int 8 t_MOST_MANY_questions))
    {t_MOST_MANY_asks : Tok} (c_MOST_MANY_asks : mg "MOST_MANY_asks" = some (.int 6 t_MOST_MANY_asks))
    {t_MOST_ENTRIES : Tok} (c_MOST_ENTRIES : mg "MOST_ENTRIES" = some (.int 20000 t_MOST_ENTRIES))
    {t_FREE : Tok} (c_FREE : mg "FREE" = some (.int 2 t_FREE))
    (c_TWOS : ∃ a, mg "TWOS" = some (.ref a) ∧ TwosK K a)
    (z_len : mg "len" = none)
    (z_sum : mg "sum" = none)
    (z_enumerate : mg "enumerate" = none)
    (z_max : mg "max" = none)
    (z_min : mg "min" = none)
    (z_sorted : mg "sorted" = none)
    (z_tuple : mg "tuple" = none)
    (z_isinstance : mg "isinstance" = none)
    (z_int : mg "int" = none)
    (z_bool : mg "bool" = none)
    (z_list : mg "list" = none)
    (z_range : mg "range" = none)
    (z_zip : mg "zip" = none)
    (z_set : mg "set" = none)
    (z_repr : mg "repr" = none)
    : ∃ fd : FuncData, (∀ (s : Shared) (v : Value), BindsTo s fd ⟨[v], []⟩ [("_law_script", v)]) ∧ ∀ base : Heap, K.In base → base.Ns mainGlobals mg → FnG l.prog w K mg base 14 fa fd ["_law_script"] (spLaw K) := by
  obtain ⟨aT, m_TWOS, k_TWOS⟩ := c_TWOS
  obtain ⟨f_is_from, fd_is_from, m_is_from, F_is_from⟩ := d_is_from
  have b_is_from := F_is_from.binds (ps := ["value", "low", "high"]) fun _ _ _ _ _ _ us hl => match us, hl with | [_, _, _], _ => rfl
  obtain ⟨f_check_many, fd_check_many, m_check_many, F_check_many⟩ := d_check_many
  have b_check_many := F_check_many.binds (ps := ["value"]) fun _ _ _ _ _ _ us hl => match us, hl with | [_], _ => rfl
  obtain ⟨f_check_values, fd_check_values, m_check_values, F_check_values⟩ := d_check_values
  have b_check_values := F_check_values.binds (ps := ["many", "value"]) fun _ _ _ _ _ _ us hl => match us, hl with | [_, _], _ => rfl
  obtain ⟨f_cube_so, fd_cube_so, m_cube_so, F_cube_so⟩ := d_cube_so
  have b_cube_so := F_cube_so.binds (ps := ["many"]) fun _ _ _ _ _ _ us hl => match us, hl with | [_], _ => rfl
  obtain ⟨f_free_bits, fd_free_bits, m_free_bits, F_free_bits⟩ := d_free_bits
  have b_free_bits := F_free_bits.binds (ps := ["cube"]) fun _ _ _ _ _ _ us hl => match us, hl with | [_], _ => rfl
  obtain ⟨f_half_so, fd_half_so, m_half_so, F_half_so⟩ := d_half_so
  have b_half_so := F_half_so.binds (ps := ["cube", "place", "bit"]) fun _ _ _ _ _ _ us hl => match us, hl with | [_, _, _], _ => rfl
  obtain ⟨f_halves_of, fd_halves_of, m_halves_of, F_halves_of⟩ := d_halves_of
  have b_halves_of := F_halves_of.binds (ps := ["cube", "place"]) fun _ _ _ _ _ _ us hl => match us, hl with | [_, _], _ => rfl
  obtain ⟨f_kinds_so, fd_kinds_so, m_kinds_so, F_kinds_so⟩ := d_kinds_so
  have b_kinds_so := F_kinds_so.binds (ps := ["values", "cube", "known"]) fun _ _ _ _ _ _ us hl => match us, hl with | [_, _, _], _ => rfl
  obtain ⟨f_fewest_so, fd_fewest_so, m_fewest_so, F_fewest_so⟩ := d_fewest_so
  have b_fewest_so := F_fewest_so.binds (ps := ["values", "cube", "kinds", "known"]) fun _ _ _ _ _ _ us hl => match us, hl with | [_, _, _, _], _ => rfl
  obtain ⟨f_tree_so, fd_tree_so, m_tree_so, F_tree_so⟩ := d_tree_so
  have b_tree_so := F_tree_so.binds (ps := ["cube", "kinds", "known"]) fun _ _ _ _ _ _ us hl => match us, hl with | [_, _, _], _ => rfl
  obtain ⟨f_entries_so, fd_entries_so, m_entries_so, F_entries_so⟩ := d_entries_so
  have b_entries_so := F_entries_so.binds (ps := ["cube", "known"]) fun _ _ _ _ _ _ us hl => match us, hl with | [_, _], _ => rfl
  obtain ⟨f_least_so, fd_least_so, m_least_so, F_least_so⟩ := d_least_so
  have b_least_so := F_least_so.binds (ps := ["many", "values"]) fun _ _ _ _ _ _ us hl => match us, hl with | [_, _], _ => rfl
  obtain ⟨f_is_entry, fd_is_entry, m_is_entry, F_is_entry⟩ := d_is_entry
  have b_is_entry := F_is_entry.binds (ps := ["many", "value"]) fun _ _ _ _ _ _ us hl => match us, hl with | [_, _], _ => rfl
  obtain ⟨f_is_entry_set, fd_is_entry_set, m_is_entry_set, F_is_entry_set⟩ := d_is_entry_set
  have b_is_entry_set := F_is_entry_set.binds (ps := ["many", "value"]) fun _ _ _ _ _ _ us hl => match us, hl with | [_, _], _ => rfl
  obtain ⟨f_lies_within, fd_lies_within, m_lies_within, F_lies_within⟩ := d_lies_within
  have b_lies_within := F_lies_within.binds (ps := ["asks", "cube", "entries", "known"]) fun _ _ _ _ _ _ us hl => match us, hl with | [_, _, _, _], _ => rfl
  obtain ⟨f_stands_so, fd_stands_so, m_stands_so, F_stands_so⟩ := d_stands_so
  have b_stands_so := F_stands_so.binds (ps := ["values", "entry", "entries", "kinds", "known"]) fun _ _ _ _ _ _ us hl => match us, hl with | [_, _, _, _, _], _ => rfl
  obtain ⟨f_is_book_so, fd_is_book_so, m_is_book_so, F_is_book_so⟩ := d_is_book_so
  have b_is_book_so := F_is_book_so.binds (ps := ["many", "values", "value"]) fun _ _ _ _ _ _ us hl => match us, hl with | [_, _, _], _ => rfl
  obtain ⟨f_check_few, fd_check_few, m_check_few, F_check_few⟩ := d_check_few
  have b_check_few := F_check_few.binds (ps := ["many", "values"]) fun _ _ _ _ _ _ us hl => match us, hl with | [_, _], _ => rfl
  obtain ⟨f_least_asks, fd_least_asks, m_least_asks, F_least_asks⟩ := d_least_asks
  have b_least_asks := F_least_asks.binds (ps := ["many", "values"]) fun _ _ _ _ _ _ us hl => match us, hl with | [_, _], _ => rfl
  obtain ⟨f_is_cube_book, fd_is_cube_book, m_is_cube_book, F_is_cube_book⟩ := d_is_cube_book
  have b_is_cube_book := F_is_cube_book.binds (ps := ["many", "values", "asks", "value"]) fun _ _ _ _ _ _ us hl => match us, hl with | [_, _, _, _], _ => rfl
  obtain ⟨f_law_mixed, fd_law_mixed, m_law_mixed, F_law_mixed⟩ := d_law_mixed
  have b_law_mixed := F_law_mixed.binds (ps := ["_law_cell", "_law_k"]) fun _ _ _ _ _ _ us hl => match us, hl with | [_, _], _ => rfl
  obtain ⟨f_law_begin, fd_law_begin, m_law_begin, F_law_begin⟩ := d_law_begin
  have b_law_begin := F_law_begin.binds (ps := ["_law_script"]) fun _ _ _ _ _ _ us hl => match us, hl with | [_], _ => rfl
  obtain ⟨f_law_draw, fd_law_draw, m_law_draw, F_law_draw⟩ := d_law_draw
  have b_law_draw := F_law_draw.binds (ps := ["_law_state", "_law_limit"]) fun _ _ _ _ _ _ us hl => match us, hl with | [_, _], _ => rfl
  obtain ⟨f_law_of, fd_law_of, m_law_of, F_law_of⟩ := d_law_of
  have b_law_of := F_law_of.binds (ps := ["_law_state", "_law_some"]) fun _ _ _ _ _ _ us hl => match us, hl with | [_, _], _ => rfl
  obtain ⟨f_law_power, fd_law_power, m_law_power, F_law_power⟩ := d_law_power
  have b_law_power := F_law_power.binds (ps := ["_law_count"]) fun _ _ _ _ _ _ us hl => match us, hl with | [_], _ => rfl
  obtain ⟨f_law_bits_of, fd_law_bits_of, m_law_bits_of, F_law_bits_of⟩ := d_law_bits_of
  have b_law_bits_of := F_law_bits_of.binds (ps := ["_law_line", "_law_count"]) fun _ _ _ _ _ _ us hl => match us, hl with | [_, _], _ => rfl
  obtain ⟨f_law_worths, fd_law_worths, m_law_worths, F_law_worths⟩ := d_law_worths
  have b_law_worths := F_law_worths.binds (ps := ["_law_state", "_law_count"]) fun _ _ _ _ _ _ us hl => match us, hl with | [_, _], _ => rfl
  obtain ⟨f_law_like, fd_law_like, m_law_like, F_law_like⟩ := d_law_like
  have b_law_like := F_law_like.binds (ps := ["_law_got", "_law_due"]) fun _ _ _ _ _ _ us hl => match us, hl with | [_, _], _ => rfl
  obtain ⟨f_law_fits, fd_law_fits, m_law_fits, F_law_fits⟩ := d_law_fits
  have b_law_fits := F_law_fits.binds (ps := ["_law_cube", "_law_line"]) fun _ _ _ _ _ _ us hl => match us, hl with | [_, _], _ => rfl
  obtain ⟨f_law_lines_in, fd_law_lines_in, m_law_lines_in, F_law_lines_in⟩ := d_law_lines_in
  have b_law_lines_in := F_law_lines_in.binds (ps := ["_law_cube"]) fun _ _ _ _ _ _ us hl => match us, hl with | [_], _ => rfl
  obtain ⟨f_law_is_both, fd_law_is_both, m_law_is_both, F_law_is_both⟩ := d_law_is_both
  have b_law_is_both := F_law_is_both.binds (ps := ["_law_worths_here", "_law_cube"]) fun _ _ _ _ _ _ us hl => match us, hl with | [_, _], _ => rfl
  obtain ⟨f_law_half, fd_law_half, m_law_half, F_law_half⟩ := d_law_half
  have b_law_half := F_law_half.binds (ps := ["_law_cube", "_law_place", "_law_bit"]) fun _ _ _ _ _ _ us hl => match us, hl with | [_, _, _], _ => rfl
  obtain ⟨f_law_asks_for, fd_law_asks_for, m_law_asks_for, F_law_asks_for⟩ := d_law_asks_for
  have b_law_asks_for := F_law_asks_for.binds (ps := ["_law_worths_here", "_law_cube", "_law_known"]) fun _ _ _ _ _ _ us hl => match us, hl with | [_, _, _], _ => rfl
  obtain ⟨f_law_cubes, fd_law_cubes, m_law_cubes, F_law_cubes⟩ := d_law_cubes
  have b_law_cubes := F_law_cubes.binds (ps := ["_law_count"]) fun _ _ _ _ _ _ us hl => match us, hl with | [_], _ => rfl
  obtain ⟨f_law_less_cube, fd_law_less_cube, m_law_less_cube, F_law_less_cube⟩ := d_law_less_cube
  have b_law_less_cube := F_law_less_cube.binds (ps := ["_law_cube", "_law_other"]) fun _ _ _ _ _ _ us hl => match us, hl with | [_, _], _ => rfl
  obtain ⟨f_law_is_cube_entry, fd_law_is_cube_entry, m_law_is_cube_entry, F_law_is_cube_entry⟩ := d_law_is_cube_entry
  have b_law_is_cube_entry := F_law_is_cube_entry.binds (ps := ["_law_count", "_law_told"]) fun _ _ _ _ _ _ us hl => match us, hl with | [_, _], _ => rfl
  obtain ⟨f_law_cube_stands, fd_law_cube_stands, m_law_cube_stands, F_law_cube_stands⟩ := d_law_cube_stands
  have b_law_cube_stands := F_law_cube_stands.binds (ps := ["_law_worths_here", "_law_told", "_law_entry"]) fun _ _ _ _ _ _ us hl => match us, hl with | [_, _, _], _ => rfl
  obtain ⟨f_law_is_cube_book, fd_law_is_cube_book, m_law_is_cube_book, F_law_is_cube_book⟩ := d_law_is_cube_book
  have b_law_is_cube_book := F_law_is_cube_book.binds (ps := ["_law_count", "_law_worths_here", "_law_most", "_law_told"]) fun _ _ _ _ _ _ us hl => match us, hl with | [_, _, _, _], _ => rfl
  obtain ⟨f_law_whole_book, fd_law_whole_book, m_law_whole_book, F_law_whole_book⟩ := d_law_whole_book
  have b_law_whole_book := F_law_whole_book.binds (ps := ["_law_count", "_law_worths_here"]) fun _ _ _ _ _ _ us hl => match us, hl with | [_, _], _ => rfl
  obtain ⟨f_law_bent, fd_law_bent, m_law_bent, F_law_bent⟩ := d_law_bent
  have b_law_bent := F_law_bent.binds (ps := ["_law_state", "_law_count", "_law_told"]) fun _ _ _ _ _ _ us hl => match us, hl with | [_, _, _], _ => rfl
  obtain ⟨f_law_odd, fd_law_odd, m_law_odd, F_law_odd⟩ := d_law_odd
  have b_law_odd := F_law_odd.binds (ps := ["_law_state", "_law_count", "_law_told"]) fun _ _ _ _ _ _ us hl => match us, hl with | [_, _, _], _ => rfl
  obtain ⟨f_law_right, fd_law_right, m_law_right, F_law_right⟩ := d_law_right
  have b_law_right := F_law_right.binds (ps := ["_law_state", "_law_count", "_law_worths_here"]) fun _ _ _ _ _ _ us hl => match us, hl with | [_, _, _], _ => rfl
  obtain ⟨f_law, fd_law, m_law, F_law⟩ := d_law
  have ef := hfa.symm.trans m_law
  cases ef
  obtain ⟨oc, od, kV, doc, pm, an, cdv, ct, osl, efd, lk, hcd⟩ := id F_law.ex
  refine ⟨fd_law, fun s v => by rw [efd]; exact .of_eq rfl, fun base _ _ => ?_⟩
  have g_half_so := ok_half_so (P := l.prog) (w := w) (K := K) (mg := mg) (base := base) F_half_so
  have g_halves := ok_halves (P := l.prog) (w := w) (K := K) (mg := mg) (base := base) F_halves_of g_half_so F_half_so.kp b_half_so m_half_so
  have g_cube := ok_cube (P := l.prog) (w := w) (K := K) (mg := mg) (base := base) F_cube_so c_FREE
  have g_free := ok_free (P := l.prog) (w := w) (K := K) (mg := mg) (base := base) F_free_bits c_FREE z_enumerate
  have g_k0 := kinds_none (P := l.prog) (w := w) (K := K) (mg := mg) (base := base) (j := 2) (f := f_kinds_so) (fd := fd_kinds_so)
  have g_k1 := ok_kinds (P := l.prog) (w := w) (K := K) (mg := mg) (base := base) (by decide) F_kinds_so b_kinds_so F_kinds_so.kp m_kinds_so g_k0 g_free b_free_bits F_free_bits.kp m_free_bits g_halves b_halves_of F_halves_of.kp m_halves_of z_len z_sum z_enumerate
  have g_k2 := ok_kinds (P := l.prog) (w := w) (K := K) (mg := mg) (base := base) (by decide) F_kinds_so b_kinds_so F_kinds_so.kp m_kinds_so g_k1 g_free b_free_bits F_free_bits.kp m_free_bits g_halves b_halves_of F_halves_of.kp m_halves_of z_len z_sum z_enumerate
  have g_k3 := ok_kinds (P := l.prog) (w := w) (K := K) (mg := mg) (base := base) (by decide) F_kinds_so b_kinds_so F_kinds_so.kp m_kinds_so g_k2 g_free b_free_bits F_free_bits.kp m_free_bits g_halves b_halves_of F_halves_of.kp m_halves_of z_len z_sum z_enumerate
  have g_k4 := ok_kinds (P := l.prog) (w := w) (K := K) (mg := mg) (base := base) (by decide) F_kinds_so b_kinds_so F_kinds_so.kp m_kinds_so g_k3 g_free b_free_bits F_free_bits.kp m_free_bits g_halves b_halves_of F_halves_of.kp m_halves_of z_len z_sum z_enumerate
  have g_w0 := few_none (P := l.prog) (w := w) (K := K) (mg := mg) (base := base) (j := 6) (f := f_fewest_so) (fd := fd_fewest_so)
  have g_w1 := ok_few (P := l.prog) (w := w) (K := K) (mg := mg) (base := base) (by decide) F_fewest_so b_fewest_so F_fewest_so.kp m_fewest_so g_w0 g_free b_free_bits F_free_bits.kp m_free_bits g_halves b_halves_of F_halves_of.kp m_halves_of g_k4 b_kinds_so F_kinds_so.kp m_kinds_so z_max
  have g_w2 := ok_few (P := l.prog) (w := w) (K := K) (mg := mg) (base := base) (by decide) F_fewest_so b_fewest_so F_fewest_so.kp m_fewest_so g_w1 g_free b_free_bits F_free_bits.kp m_free_bits g_halves b_halves_of F_halves_of.kp m_halves_of g_k4 b_kinds_so F_kinds_so.kp m_kinds_so z_max
  have g_w3 := ok_few (P := l.prog) (w := w) (K := K) (mg := mg) (base := base) (by decide) F_fewest_so b_fewest_so F_fewest_so.kp m_fewest_so g_w2 g_free b_free_bits F_free_bits.kp m_free_bits g_halves b_halves_of F_halves_of.kp m_halves_of g_k4 b_kinds_so F_kinds_so.kp m_kinds_so z_max
  have g_w4 := ok_few (P := l.prog) (w := w) (K := K) (mg := mg) (base := base) (by decide) F_fewest_so b_fewest_so F_fewest_so.kp m_fewest_so g_w3 g_free b_free_bits F_free_bits.kp m_free_bits g_halves b_halves_of F_halves_of.kp m_halves_of g_k4 b_kinds_so F_kinds_so.kp m_kinds_so z_max
  have g_t0 := tree_none (P := l.prog) (w := w) (K := K) (mg := mg) (base := base) (j := 2) (f := f_tree_so) (fd := fd_tree_so)
  have g_t1 := ok_tree (P := l.prog) (w := w) (K := K) (mg := mg) (base := base) (by decide) F_tree_so b_tree_so F_tree_so.kp m_tree_so g_t0 g_free b_free_bits F_free_bits.kp m_free_bits g_halves b_halves_of F_halves_of.kp m_halves_of z_max
  have g_t2 := ok_tree (P := l.prog) (w := w) (K := K) (mg := mg) (base := base) (by decide) F_tree_so b_tree_so F_tree_so.kp m_tree_so g_t1 g_free b_free_bits F_free_bits.kp m_free_bits g_halves b_halves_of F_halves_of.kp m_halves_of z_max
  have g_t3 := ok_tree (P := l.prog) (w := w) (K := K) (mg := mg) (base := base) (by decide) F_tree_so b_tree_so F_tree_so.kp m_tree_so g_t2 g_free b_free_bits F_free_bits.kp m_free_bits g_halves b_halves_of F_halves_of.kp m_halves_of z_max
  have g_t4 := ok_tree (P := l.prog) (w := w) (K := K) (mg := mg) (base := base) (by decide) F_tree_so b_tree_so F_tree_so.kp m_tree_so g_t3 g_free b_free_bits F_free_bits.kp m_free_bits g_halves b_halves_of F_halves_of.kp m_halves_of z_max
  have g_ent := ok_ent (P := l.prog) (w := w) (K := K) (mg := mg) (base := base) F_entries_so g_free b_free_bits F_free_bits.kp m_free_bits g_halves b_halves_of F_halves_of.kp m_halves_of z_len z_sorted z_tuple
  have g_least := ok_least (P := l.prog) (w := w) (K := K) (mg := mg) (base := base) F_least_so g_cube b_cube_so F_cube_so.kp m_cube_so g_w4 b_fewest_so F_fewest_so.kp m_fewest_so g_t4 b_tree_so F_tree_so.kp m_tree_so g_ent b_entries_so F_entries_so.kp m_entries_so
  have g_from := ok_from (P := l.prog) (w := w) (K := K) (mg := mg) (base := base) F_is_from z_isinstance z_int z_bool
  have g_many := ok_many (P := l.prog) (w := w) (K := K) (mg := mg) (base := base) F_check_many g_from b_is_from F_is_from.kp m_is_from c_MOST_MANY_questions
  have g_vals := ok_vals (P := l.prog) (w := w) (K := K) (mg := mg) (base := base) F_check_values g_from b_is_from F_is_from.kp m_is_from m_TWOS k_TWOS z_isinstance z_tuple z_len z_enumerate
  have g_fewC := ok_fewC (P := l.prog) (w := w) (K := K) (mg := mg) (base := base) F_check_few g_many b_check_many F_check_many.kp m_check_many g_vals b_check_values F_check_values.kp m_check_values c_MOST_MANY_asks
  have g_asks := ok_asks (P := l.prog) (w := w) (K := K) (mg := mg) (base := base) F_least_asks g_fewC b_check_few F_check_few.kp m_check_few g_least b_least_so F_least_so.kp m_least_so
  have g_isE := ok_isE (P := l.prog) (w := w) (K := K) (mg := mg) (base := base) F_is_entry g_from b_is_from F_is_from.kp m_is_from m_TWOS k_TWOS c_FREE z_isinstance z_tuple z_len
  have g_set := ok_set (P := l.prog) (w := w) (K := K) (mg := mg) (base := base) F_is_entry_set g_isE b_is_entry F_is_entry.kp m_is_entry c_MOST_ENTRIES z_isinstance z_tuple z_len z_zip
  have g_l0 := lies_none (P := l.prog) (w := w) (K := K) (mg := mg) (base := base) (j := 2) (f := f_lies_within) (fd := fd_lies_within)
  have g_l1 := ok_lies (P := l.prog) (w := w) (K := K) (mg := mg) (base := base) (by decide) F_lies_within b_lies_within F_lies_within.kp m_lies_within g_l0 g_free b_free_bits F_free_bits.kp m_free_bits g_halves b_halves_of F_halves_of.kp m_halves_of
  have g_l2 := ok_lies (P := l.prog) (w := w) (K := K) (mg := mg) (base := base) (by decide) F_lies_within b_lies_within F_lies_within.kp m_lies_within g_l1 g_free b_free_bits F_free_bits.kp m_free_bits g_halves b_halves_of F_halves_of.kp m_halves_of
  have g_l3 := ok_lies (P := l.prog) (w := w) (K := K) (mg := mg) (base := base) (by decide) F_lies_within b_lies_within F_lies_within.kp m_lies_within g_l2 g_free b_free_bits F_free_bits.kp m_free_bits g_halves b_halves_of F_halves_of.kp m_halves_of
  have g_l4 := ok_lies (P := l.prog) (w := w) (K := K) (mg := mg) (base := base) (by decide) F_lies_within b_lies_within F_lies_within.kp m_lies_within g_l3 g_free b_free_bits F_free_bits.kp m_free_bits g_halves b_halves_of F_halves_of.kp m_halves_of
  have g_stands := ok_stands (P := l.prog) (w := w) (K := K) (mg := mg) (base := base) F_stands_so g_free b_free_bits F_free_bits.kp m_free_bits g_halves b_halves_of F_halves_of.kp m_halves_of g_k4 b_kinds_so F_kinds_so.kp m_kinds_so g_l4 b_lies_within F_lies_within.kp m_lies_within z_len
  have g_book := ok_book (P := l.prog) (w := w) (K := K) (mg := mg) (base := base) F_is_book_so g_set b_is_entry_set F_is_entry_set.kp m_is_entry_set g_stands b_stands_so F_stands_so.kp m_stands_so z_len
  have g_judge := ok_judge (P := l.prog) (w := w) (K := K) (mg := mg) (base := base) F_is_cube_book g_many b_check_many F_check_many.kp m_check_many g_vals b_check_values F_check_values.kp m_check_values g_book b_is_book_so F_is_book_so.kp m_is_book_so z_isinstance z_int z_bool z_tuple z_len
  have g_mixed := ok_mixed (P := l.prog) (w := w) (K := K) (mg := mg) (base := base) F_law_mixed z_int
  have g_draw := ok_draw (P := l.prog) (w := w) (K := K) (mg := mg) (base := base) F_law_draw g_mixed b_law_mixed F_law_mixed.kp m_law_mixed z_int z_len
  have g_of := ok_of (P := l.prog) (w := w) (K := K) (mg := mg) (base := base) F_law_of g_draw b_law_draw F_law_draw.kp m_law_draw z_len
  have g_pow := ok_pow (P := l.prog) (w := w) (K := K) (mg := mg) (base := base) F_law_power z_range
  have g_begin := ok_begin (P := l.prog) (w := w) (K := K) (mg := mg) (base := base) F_law_begin z_list
  have g_bits := ok_bits (P := l.prog) (w := w) (K := K) (mg := mg) (base := base) F_law_bits_of z_range
  have g_worths := ok_worths (P := l.prog) (w := w) (K := K) (mg := mg) (base := base) F_law_worths g_draw b_law_draw F_law_draw.kp m_law_draw g_pow b_law_power F_law_power.kp m_law_power z_range z_tuple
  have g_like := ok_like (P := l.prog) (w := w) (K := K) (mg := mg) (base := base) F_law_like z_repr
  have g_likeL := ok_likeL (P := l.prog) (w := w) (K := K) (mg := mg) (base := base) F_law_like z_repr
  have g_fits := ok_fits (P := l.prog) (w := w) (K := K) (mg := mg) (base := base) F_law_fits g_bits b_law_bits_of F_law_bits_of.kp m_law_bits_of z_zip z_len
  have g_lines := ok_lines (P := l.prog) (w := w) (K := K) (mg := mg) (base := base) F_law_lines_in g_fits b_law_fits F_law_fits.kp m_law_fits g_pow b_law_power F_law_power.kp m_law_power z_range z_len
  have g_both := ok_both (P := l.prog) (w := w) (K := K) (mg := mg) (base := base) F_law_is_both g_lines b_law_lines_in F_law_lines_in.kp m_law_lines_in z_len z_set
  have g_half_l := ok_half_l (P := l.prog) (w := w) (K := K) (mg := mg) (base := base) F_law_half
  have g_a0 := af_none (P := l.prog) (w := w) (K := K) (mg := mg) (base := base) (j := 4) (f := f_law_asks_for) (fd := fd_law_asks_for)
  have g_a1 := ok_af (P := l.prog) (w := w) (K := K) (mg := mg) (base := base) (by decide) F_law_asks_for b_law_asks_for F_law_asks_for.kp m_law_asks_for g_a0 g_half_l b_law_half F_law_half.kp m_law_half g_both b_law_is_both F_law_is_both.kp m_law_is_both z_enumerate z_max z_min
  have g_a2 := ok_af (P := l.prog) (w := w) (K := K) (mg := mg) (base := base) (by decide) F_law_asks_for b_law_asks_for F_law_asks_for.kp m_law_asks_for g_a1 g_half_l b_law_half F_law_half.kp m_law_half g_both b_law_is_both F_law_is_both.kp m_law_is_both z_enumerate z_max z_min
  have g_a3 := ok_af (P := l.prog) (w := w) (K := K) (mg := mg) (base := base) (by decide) F_law_asks_for b_law_asks_for F_law_asks_for.kp m_law_asks_for g_a2 g_half_l b_law_half F_law_half.kp m_law_half g_both b_law_is_both F_law_is_both.kp m_law_is_both z_enumerate z_max z_min
  have g_a4 := ok_af (P := l.prog) (w := w) (K := K) (mg := mg) (base := base) (by decide) F_law_asks_for b_law_asks_for F_law_asks_for.kp m_law_asks_for g_a3 g_half_l b_law_half F_law_half.kp m_law_half g_both b_law_is_both F_law_is_both.kp m_law_is_both z_enumerate z_max z_min
  have g_cubes := ok_cubes (P := l.prog) (w := w) (K := K) (mg := mg) (base := base) F_law_cubes z_range z_list
  have g_less := ok_less (P := l.prog) (w := w) (K := K) (mg := mg) (base := base) F_law_less_cube z_zip
  have g_LE := ok_LE (P := l.prog) (w := w) (K := K) (mg := mg) (base := base) F_law_is_cube_entry z_isinstance z_int z_bool z_tuple z_len
  have g_LS := ok_LS (P := l.prog) (w := w) (K := K) (mg := mg) (base := base) F_law_cube_stands g_half_l b_law_half F_law_half.kp m_law_half g_both b_law_is_both F_law_is_both.kp m_law_is_both g_less b_law_less_cube F_law_less_cube.kp m_law_less_cube z_enumerate
  have g_LJ := ok_LJ (P := l.prog) (w := w) (K := K) (mg := mg) (base := base) F_law_is_cube_book g_LE b_law_is_cube_entry F_law_is_cube_entry.kp m_law_is_cube_entry g_LS b_law_cube_stands F_law_cube_stands.kp m_law_cube_stands z_isinstance z_tuple z_zip
  have g_Wh := ok_Wh (P := l.prog) (w := w) (K := K) (mg := mg) (base := base) F_law_whole_book g_cubes b_law_cubes F_law_cubes.kp m_law_cubes g_a4 b_law_asks_for F_law_asks_for.kp m_law_asks_for z_range z_sorted z_tuple
  have g_bent := ok_bent (P := l.prog) (w := w) (K := K) (mg := mg) (base := base) F_law_bent g_draw b_law_draw F_law_draw.kp m_law_draw g_of b_law_of F_law_of.kp m_law_of z_len z_tuple z_sorted z_set
  have g_odd := ok_odd (P := l.prog) (w := w) (K := K) (mg := mg) (base := base) F_law_odd g_of b_law_of F_law_of.kp m_law_of z_list
  have g_right := ok_right (P := l.prog) (w := w) (K := K) (mg := mg) (base := base) F_law_right g_a4 b_law_asks_for F_law_asks_for.kp m_law_asks_for g_Wh b_law_whole_book F_law_whole_book.kp m_law_whole_book g_asks b_least_asks F_least_asks.kp m_least_asks g_LJ b_law_is_cube_book F_law_is_cube_book.kp m_law_is_cube_book g_judge b_is_cube_book F_is_cube_book.kp m_is_cube_book g_like b_law_like F_law_like.kp m_law_like g_bent b_law_bent F_law_bent.kp m_law_bent g_odd b_law_odd F_law_odd.kp m_law_odd z_max
  exact ok_law (P := l.prog) (w := w) (K := K) (mg := mg) (base := base) F_law g_begin b_law_begin F_law_begin.kp m_law_begin g_draw b_law_draw F_law_draw.kp m_law_draw g_worths b_law_worths F_law_worths.kp m_law_worths g_right b_law_right F_law_right.kp m_law_right g_judge b_is_cube_book F_is_cube_book.kp m_is_cube_book g_likeL b_law_like F_law_like.kp m_law_like z_range
end Kb
open PySem PySem.W PyProof.Rows
set_option maxHeartbeats 0 in
theorem PySem.Challenge.cw_saidbetween_k70_whole_books_of_cubes_jud_holds : PySem.Challenge.rw_saidbetween_k70_whole_books_of_cubes_jud.Holds := by
  w_on; o_law; k_head; (case hw => w_witness2)
  k_fill
  refine Kb.walkG (l := PySem.Challenge.rw_saidbetween_k70_whole_books_of_cubes_jud) (n := 63) (k := 14) (x := "_law_script") (sp := fun w => Kb.spLaw _) rfl (by decide) rfl ⟨rfl, by decide, by decide⟩ (fun w h Y => PySem.W.kIn_of Y) ?F (fun _ _ a ns hl _ hS => ⟨a, ns, rfl, hS, hl, fun _ => rfl⟩)
  case F =>
    intro w mg fa h KX G hmg
    refine' Kb.allD hmg ?d_is_from ?d_check_many ?d_check_values ?d_cube_so ?d_free_bits ?d_half_so ?d_halves_of ?d_kinds_so ?d_fewest_so ?d_tree_so ?d_entries_so ?d_least_so ?d_is_entry ?d_is_entry_set ?d_lies_within ?d_stands_so ?d_is_book_so ?d_check_few ?d_least_asks ?d_is_cube_book ?d_law_mixed ?d_law_begin ?d_law_draw ?d_law_of ?d_law_power ?d_law_bits_of ?d_law_worths ?d_law_like ?d_law_fits ?d_law_lines_in ?d_law_is_both ?d_law_half ?d_law_asks_for ?d_law_cubes ?d_law_less_cube ?d_law_is_cube_entry ?d_law_cube_stands ?d_law_is_cube_book ?d_law_whole_book ?d_law_bent ?d_law_odd ?d_law_right ?d_law ?c_MOST_MANY_questions ?c_MOST_MANY_asks ?c_MOST_ENTRIES ?c_FREE ?c_TWOS ?z_len ?z_sum ?z_enumerate ?z_max ?z_min ?z_sorted ?z_tuple ?z_isinstance ?z_int ?z_bool ?z_list ?z_range ?z_zip ?z_set ?z_repr
    (case d_is_from => (refine' Kb.Df.mk KX G ?a ?l ?c ?k; (case a => k_is); (case l => k_is); (case c => k_is); (case k => k_is)))
    (case d_check_many => (refine' Kb.Df.mk KX G ?a ?l ?c ?k; (case a => k_is); (case l => k_is); (case c => k_is); (case k => k_is)))
    (case d_check_values => (refine' Kb.Df.mk KX G ?a ?l ?c ?k; (case a => k_is); (case l => k_is); (case c => k_is); (case k => k_is)))
    (case d_cube_so => (refine' Kb.Df.mk KX G ?a ?l ?c ?k; (case a => k_is); (case l => k_is); (case c => k_is); (case k => k_is)))
    (case d_free_bits => (refine' Kb.Df.mk KX G ?a ?l ?c ?k; (case a => k_is); (case l => k_is); (case c => k_is); (case k => k_is)))
    (case d_half_so => (refine' Kb.Df.mk KX G ?a ?l ?c ?k; (case a => k_is); (case l => k_is); (case c => k_is); (case k => k_is)))
    (case d_halves_of => (refine' Kb.Df.mk KX G ?a ?l ?c ?k; (case a => k_is); (case l => k_is); (case c => k_is); (case k => k_is)))
    (case d_kinds_so => (refine' Kb.Df.mk KX G ?a ?l ?c ?k; (case a => k_is); (case l => k_is); (case c => k_is); (case k => k_is)))
    (case d_fewest_so => (refine' Kb.Df.mk KX G ?a ?l ?c ?k; (case a => k_is); (case l => k_is); (case c => k_is); (case k => k_is)))
    (case d_tree_so => (refine' Kb.Df.mk KX G ?a ?l ?c ?k; (case a => k_is); (case l => k_is); (case c => k_is); (case k => k_is)))
    (case d_entries_so => (refine' Kb.Df.mk KX G ?a ?l ?c ?k; (case a => k_is); (case l => k_is); (case c => k_is); (case k => k_is)))
    (case d_least_so => (refine' Kb.Df.mk KX G ?a ?l ?c ?k; (case a => k_is); (case l => k_is); (case c => k_is); (case k => k_is)))
    (case d_is_entry => (refine' Kb.Df.mk KX G ?a ?l ?c ?k; (case a => k_is); (case l => k_is); (case c => k_is); (case k => k_is)))
    (case d_is_entry_set => (refine' Kb.Df.mk KX G ?a ?l ?c ?k; (case a => k_is); (case l => k_is); (case c => k_is); (case k => k_is)))
    (case d_lies_within => (refine' Kb.Df.mk KX G ?a ?l ?c ?k; (case a => k_is); (case l => k_is); (case c => k_is); (case k => k_is)))
    (case d_stands_so => (refine' Kb.Df.mk KX G ?a ?l ?c ?k; (case a => k_is); (case l => k_is); (case c => k_is); (case k => k_is)))
    (case d_is_book_so => (refine' Kb.Df.mk KX G ?a ?l ?c ?k; (case a => k_is); (case l => k_is); (case c => k_is); (case k => k_is)))
    (case d_check_few => (refine' Kb.Df.mk KX G ?a ?l ?c ?k; (case a => k_is); (case l => k_is); (case c => k_is); (case k => k_is)))
    (case d_least_asks => (refine' Kb.Df.mk KX G ?a ?l ?c ?k; (case a => k_is); (case l => k_is); (case c => k_is); (case k => k_is)))
    (case d_is_cube_book => (refine' Kb.Df.mk KX G ?a ?l ?c ?k; (case a => k_is); (case l => k_is); (case c => k_is); (case k => k_is)))
    (case d_law_mixed => (refine' Kb.Df.mk KX G ?a ?l ?c ?k; (case a => k_is); (case l => k_is); (case c => k_is); (case k => k_is)))
    (case d_law_begin => (refine' Kb.Df.mk KX G ?a ?l ?c ?k; (case a => k_is); (case l => k_is); (case c => k_is); (case k => k_is)))
    (case d_law_draw => (refine' Kb.Df.mk KX G ?a ?l ?c ?k; (case a => k_is); (case l => k_is); (case c => k_is); (case k => k_is)))
    (case d_law_of => (refine' Kb.Df.mk KX G ?a ?l ?c ?k; (case a => k_is); (case l => k_is); (case c => k_is); (case k => k_is)))
    (case d_law_power => (refine' Kb.Df.mk KX G ?a ?l ?c ?k; (case a => k_is); (case l => k_is); (case c => k_is); (case k => k_is)))
    (case d_law_bits_of => (refine' Kb.Df.mk KX G ?a ?l ?c ?k; (case a => k_is); (case l => k_is); (case c => k_is); (case k => k_is)))
    (case d_law_worths => (refine' Kb.Df.mk KX G ?a ?l ?c ?k; (case a => k_is); (case l => k_is); (case c => k_is); (case k => k_is)))
    (case d_law_like => (refine' Kb.Df.mk KX G ?a ?l ?c ?k; (case a => k_is); (case l => k_is); (case c => k_is); (case k => k_is)))
    (case d_law_fits => (refine' Kb.Df.mk KX G ?a ?l ?c ?k; (case a => k_is); (case l => k_is); (case c => k_is); (case k => k_is)))
    (case d_law_lines_in => (refine' Kb.Df.mk KX G ?a ?l ?c ?k; (case a => k_is); (case l => k_is); (case c => k_is); (case k => k_is)))
    (case d_law_is_both => (refine' Kb.Df.mk KX G ?a ?l ?c ?k; (case a => k_is); (case l => k_is); (case c => k_is); (case k => k_is)))
    (case d_law_half => (refine' Kb.Df.mk KX G ?a ?l ?c ?k; (case a => k_is); (case l => k_is); (case c => k_is); (case k => k_is)))
    (case d_law_asks_for => (refine' Kb.Df.mk KX G ?a ?l ?c ?k; (case a => k_is); (case l => k_is); (case c => k_is); (case k => k_is)))
    (case d_law_cubes => (refine' Kb.Df.mk KX G ?a ?l ?c ?k; (case a => k_is); (case l => k_is); (case c => k_is); (case k => k_is)))
    (case d_law_less_cube => (refine' Kb.Df.mk KX G ?a ?l ?c ?k; (case a => k_is); (case l => k_is); (case c => k_is); (case k => k_is)))
    (case d_law_is_cube_entry => (refine' Kb.Df.mk KX G ?a ?l ?c ?k; (case a => k_is); (case l => k_is); (case c => k_is); (case k => k_is)))
    (case d_law_cube_stands => (refine' Kb.Df.mk KX G ?a ?l ?c ?k; (case a => k_is); (case l => k_is); (case c => k_is); (case k => k_is)))
    (case d_law_is_cube_book => (refine' Kb.Df.mk KX G ?a ?l ?c ?k; (case a => k_is); (case l => k_is); (case c => k_is); (case k => k_is)))
    (case d_law_whole_book => (refine' Kb.Df.mk KX G ?a ?l ?c ?k; (case a => k_is); (case l => k_is); (case c => k_is); (case k => k_is)))
    (case d_law_bent => (refine' Kb.Df.mk KX G ?a ?l ?c ?k; (case a => k_is); (case l => k_is); (case c => k_is); (case k => k_is)))
    (case d_law_odd => (refine' Kb.Df.mk KX G ?a ?l ?c ?k; (case a => k_is); (case l => k_is); (case c => k_is); (case k => k_is)))
    (case d_law_right => (refine' Kb.Df.mk KX G ?a ?l ?c ?k; (case a => k_is); (case l => k_is); (case c => k_is); (case k => k_is)))
    (case d_law => (refine' Kb.Df.mk KX G ?a ?l ?c ?k; (case a => k_is); (case l => k_is); (case c => k_is); (case k => k_is)))
    (case c_MOST_MANY_questions => (refine' PySem.W.mg_of KX G ?a; (case a => k_is)))
    (case c_MOST_MANY_asks => (refine' PySem.W.mg_of KX G ?a; (case a => k_is)))
    (case c_MOST_ENTRIES => (refine' PySem.W.mg_of KX G ?a; (case a => k_is)))
    (case c_FREE => (refine' PySem.W.mg_of KX G ?a; (case a => k_is)))
    (case c_TWOS => (refine' Kb.two_mk KX G ?a ?l; (case a => k_is); (case l => k_is)))
    (case z_len => (refine' PySem.W.mg_none_of KX G ?a; (case a => k_is)))
    (case z_sum => (refine' PySem.W.mg_none_of KX G ?a; (case a => k_is)))
    (case z_enumerate => (refine' PySem.W.mg_none_of KX G ?a; (case a => k_is)))
    (case z_max => (refine' PySem.W.mg_none_of KX G ?a; (case a => k_is)))
    (case z_min => (refine' PySem.W.mg_none_of KX G ?a; (case a => k_is)))
    (case z_sorted => (refine' PySem.W.mg_none_of KX G ?a; (case a => k_is)))
    (case z_tuple => (refine' PySem.W.mg_none_of KX G ?a; (case a => k_is)))
    (case z_isinstance => (refine' PySem.W.mg_none_of KX G ?a; (case a => k_is)))
    (case z_int => (refine' PySem.W.mg_none_of KX G ?a; (case a => k_is)))
    (case z_bool => (refine' PySem.W.mg_none_of KX G ?a; (case a => k_is)))
    (case z_list => (refine' PySem.W.mg_none_of KX G ?a; (case a => k_is)))
    (case z_range => (refine' PySem.W.mg_none_of KX G ?a; (case a => k_is)))
    (case z_zip => (refine' PySem.W.mg_none_of KX G ?a; (case a => k_is)))
    (case z_set => (refine' PySem.W.mg_none_of KX G ?a; (case a => k_is)))
    (case z_repr => (refine' PySem.W.mg_none_of KX G ?a; (case a => k_is)))
