import PyProof.Rows.All
import Wide.All
import OpenK.AllK
import Wide.FinOn
import HandS.ForMost
import HandS.EndBits
import HandS.IsInst
import HandS.TupAny
import HandS.TupMul
import HandS.TupLe
import HandS.Zip
import HandS.Evl
import HandS.Walk
import KE.GoesEnum
import KE.GoesZip
import KE.KDictKeyed
import KE.SortData
import HandS.DictComp
import HandS.DictTup
import HandS.More
import HandS.RaiseMore
import PyProof.ReprRoads
import HandS.ForExc
import HandS.Style
import HandS.Flow
import PySem.Challenge.RW_saidbetween_k69_whole_the_fewest_asks
import HandS.Exc
/-! The plain law: cubes, values, fewest asks. -/
namespace Fa

/-! ### cubes and rows -/
def fitsB : List Int → Nat → Bool
  | [], _ => true
  | x :: c, r => (x == 2 || x == ((r % 2 : Nat) : Int)) && fitsB c (r / 2)
def OkC (n : Nat) (c : List Int) : Prop := c.length = n ∧ ∀ x ∈ c, x = 0 ∨ x = 1 ∨ x = 2
def bitN (r i : Nat) : Nat := r / 2 ^ i % 2
def hasV (vs : List Int) (c : List Int) (b : Int) : Bool := (List.range (2 ^ c.length)).any fun r => fitsB c r && (vs.getD r 0 == b)
def bothB (vs c : List Int) : Bool := hasV vs c 0 && hasV vs c 1
def kd (vs c : List Int) : Int := (if hasV vs c 0 = true then 1 else 0) + (if hasV vs c 1 = true then 2 else 0)
def cnt : List Int → Nat
  | [] => 0
  | x :: c => (if x = 2 then 1 else 0) + cnt c
def free (c : List Int) : List Nat := (List.range c.length).filter fun i => c.getD i 0 == 2
def best (l : List Nat) : Option Nat := l.foldl (fun b x => some (match b with | none => x | some y => if x < y then x else y)) none
def dep (vs : List Int) : Nat → List Int → Nat
  | 0, _ => 0
  | k + 1, c => if bothB vs c = true then (best ((free c).map fun i => 1 + max (dep vs k (c.set i 1)) (dep vs k (c.set i 0)))).getD 0 else 0
def D (vs c : List Int) : Nat := dep vs (cnt c) c
def rowOf : List Int → Int
  | [] => 0
  | x :: c => x + 2 * rowOf c
/-- vs: the values of a table of n bits -/
def OkV (n : Nat) (vs : List Int) : Prop := vs.length = 2 ^ n ∧ ∀ x ∈ vs, x = 0 ∨ x = 1

theorem OkC.set {n : Nat} {c : List Int} (h : OkC n c) (i : Nat) {b : Int} (hb : b = 0 ∨ b = 1) : OkC n (c.set i b) := by
  refine ⟨by rw [List.length_set]; exact h.1, fun x hx => ?_⟩
  rcases List.mem_or_eq_of_mem_set hx with h1 | h1
  · exact h.2 x h1
  · subst h1; rcases hb with e | e <;> simp [e]
theorem mem_free {c : List Int} {i : Nat} : i ∈ free c ↔ c[i]? = some 2 := by
  unfold free
  rw [List.mem_filter, List.mem_range]
  constructor
  · rintro ⟨h, e⟩
    have e' : c.getD i 0 = 2 := by simpa using e
    rw [List.getD_eq_getElem?_getD, List.getElem?_eq_getElem h] at e'
    rw [List.getElem?_eq_getElem h]
    exact congrArg some e'
  · intro e
    obtain ⟨h, e1⟩ := List.getElem?_eq_some_iff.mp e
    refine ⟨h, ?_⟩
    rw [List.getD_eq_getElem?_getD, e]
    rfl
theorem cnt_set : ∀ {c : List Int} {i : Nat} {b : Int}, c[i]? = some 2 → b ≠ 2 → cnt (c.set i b) + 1 = cnt c
  | [], i, b, h, _ => by simp at h
  | x :: c, 0, b, h, hb => by
    have e : x = 2 := by simpa using h
    subst e
    simp [cnt, hb]; omega
  | x :: c, i + 1, b, h, hb => by
    have ih := cnt_set (c := c) (i := i) (b := b) (by simpa using h) hb
    simp only [List.set_cons_succ, cnt]
    omega
theorem free_nil {c : List Int} (h : cnt c = 0) : free c = [] := by
  cases e : free c with
  | nil => rfl
  | cons i r =>
    have hi : i ∈ free c := by rw [e]; exact List.mem_cons_self
    have := cnt_set (b := 0) (mem_free.mp hi) (by decide)
    omega
theorem cnt_le : ∀ c : List Int, cnt c ≤ c.length
  | [] => Nat.le_refl _
  | x :: c => by
    have := cnt_le c
    simp only [cnt, List.length_cons]
    split <;> omega
theorem free_len : ∀ c : List Int, (free c).length = cnt c := by
  intro c
  unfold free
  induction c with
  | nil => rfl
  | cons x c ih =>
    rw [List.length_cons, List.range_succ_eq_map, List.filter_cons]
    have e : (List.filter (fun i => (x :: c).getD i 0 == 2) (List.map Nat.succ (List.range c.length))).length = cnt c := by
      rw [List.filter_map, List.length_map, ← ih]
      rfl
    simp only [cnt]
    by_cases h : x = 2
    · subst h
      simp only [List.getD_cons_zero, if_true, beq_self_eq_true, List.length_cons]
      omega
    · have h2 : ((x :: c).getD 0 0 == 2) = false := by simpa using h
      rw [h2, if_neg h]
      simp only [Bool.false_eq_true, if_false]
      omega
theorem free_cnt {c : List Int} (h : free c = []) : cnt c = 0 := by
  rw [← free_len, h]; rfl

/-! ### rows in cubes -/
theorem fits_set1 : ∀ {c : List Int} {i : Nat} {r : Nat}, c[i]? = some 2 → fitsB c r = (fitsB (c.set i 1) r || fitsB (c.set i 0) r)
  | [], i, r, h => by simp at h
  | x :: c, 0, r, h => by
    have e : x = 2 := by simpa using h
    subst e
    have hr : r % 2 = 0 ∨ r % 2 = 1 := by omega
    simp only [List.set_cons_zero, fitsB]
    rcases hr with e | e <;> rw [e] <;> cases fitsB c (r / 2) <;> rfl
  | x :: c, i + 1, r, h => by
    have ih := fits_set1 (c := c) (i := i) (r := r / 2) (by simpa using h)
    simp only [List.set_cons_succ, fitsB]
    rw [ih]
    cases (x == 2 || x == ((r % 2 : Nat) : Int)) <;> simp
theorem fits_bit : ∀ {c : List Int} {i : Nat} {r : Nat} {b : Int}, fitsB c r = true → c[i]? = some b → b ≠ 2 → ((bitN r i : Nat) : Int) = b
  | [], i, r, b, _, h, _ => by simp at h
  | x :: c, 0, r, b, hf, h, hb => by
    have e : x = b := by simpa using h
    subst e
    simp only [fitsB, Bool.and_eq_true, Bool.or_eq_true, beq_iff_eq] at hf
    rcases hf.1 with e | e
    · exact absurd e hb
    · unfold bitN
      simp only [Nat.pow_zero, Nat.div_one]
      exact e.symm
  | x :: c, i + 1, r, b, hf, h, hb => by
    simp only [fitsB, Bool.and_eq_true] at hf
    have ih := fits_bit (c := c) (i := i) (r := r / 2) hf.2 (by simpa using h) hb
    have e : bitN (r / 2) i = bitN r (i + 1) := by
      unfold bitN
      rw [Nat.div_div_eq_div_mul, Nat.pow_succ, Nat.mul_comm 2]
    rw [← e]
    exact ih
theorem fits_half {c : List Int} {i r : Nat} (hf : fitsB c r = true) (h : c[i]? = some 2) : fitsB (c.set i (if bitN r i = 1 then 1 else 0)) r = true := by
  have hi : i < c.length := (List.getElem?_eq_some_iff.mp h).1
  have hb : bitN r i = 0 ∨ bitN r i = 1 := by unfold bitN; omega
  have e := fits_set1 (r := r) h
  rw [hf] at e
  have e' : fitsB (c.set i 1) r = true ∨ fitsB (c.set i 0) r = true := by
    cases h1 : fitsB (c.set i 1) r with
    | true => exact .inl rfl
    | false => rw [h1] at e; exact .inr (by simpa using e.symm)
  rcases e' with h1 | h1
  · have q := fits_bit (i := i) (b := 1) h1 (List.getElem?_set_self hi) (by decide)
    have q' : bitN r i = 1 := by omega
    rw [if_pos q']
    exact h1
  · have q := fits_bit (i := i) (b := 0) h1 (List.getElem?_set_self hi) (by decide)
    have q' : bitN r i = 0 := by omega
    rw [if_neg (by omega)]
    exact h1
theorem fits_one : ∀ {c : List Int} {r : Nat}, (∀ x ∈ c, x = 0 ∨ x = 1 ∨ x = 2) → cnt c = 0 → r < 2 ^ c.length → (fitsB c r = true ↔ (r : Int) = rowOf c)
  | [], r, _, _, h => by
    have h0 : r = 0 := by
      have : r < 1 := h
      omega
    subst h0
    simp [fitsB, rowOf]
  | x :: c, r, ho, hc, h => by
    have hx : x = 0 ∨ x = 1 := by
      rcases ho x List.mem_cons_self with e | e | e
      · exact .inl e
      · exact .inr e
      · subst e; simp only [cnt, if_true] at hc; omega
    have hc' : cnt c = 0 := by simp only [cnt] at hc; omega
    have h' : r / 2 < 2 ^ c.length := by
      rw [List.length_cons, Nat.pow_succ] at h
      omega
    have ih := fits_one (c := c) (r := r / 2) (fun y hy => ho y (List.mem_cons_of_mem _ hy)) hc' h'
    simp only [fitsB, rowOf, Bool.and_eq_true, Bool.or_eq_true, beq_iff_eq]
    rw [ih]
    rcases hx with e | e <;> subst e <;> omega
theorem rowOf_lt : ∀ {c : List Int}, (∀ x ∈ c, x = 0 ∨ x = 1 ∨ x = 2) → cnt c = 0 → 0 ≤ rowOf c ∧ rowOf c < ((2 ^ c.length : Nat) : Int)
  | [], _, _ => by simp [rowOf]
  | x :: c, ho, hc => by
    have hx : x = 0 ∨ x = 1 := by
      rcases ho x List.mem_cons_self with e | e | e
      · exact .inl e
      · exact .inr e
      · subst e; simp only [cnt, if_true] at hc; omega
    have hc' : cnt c = 0 := by simp only [cnt] at hc; omega
    have ih := rowOf_lt (c := c) (fun y hy => ho y (List.mem_cons_of_mem _ hy)) hc'
    simp only [rowOf, List.length_cons, Nat.pow_succ]
    omega

/-! ### values of a cube -/
theorem hasV_iff {vs c : List Int} {b : Int} : hasV vs c b = true ↔ ∃ r, r < 2 ^ c.length ∧ fitsB c r = true ∧ vs.getD r 0 = b := by
  unfold hasV
  rw [List.any_eq_true]
  constructor
  · rintro ⟨r, hr, h⟩
    simp only [Bool.and_eq_true, beq_iff_eq] at h
    exact ⟨r, List.mem_range.mp hr, h.1, h.2⟩
  · rintro ⟨r, hr, h1, h2⟩
    exact ⟨r, List.mem_range.mpr hr, by rw [h1, h2]; simp⟩
theorem hasV_half {vs c : List Int} {b : Int} {i : Nat} (h : c[i]? = some 2) : hasV vs c b = (hasV vs (c.set i 1) b || hasV vs (c.set i 0) b) := by
  apply Bool.eq_iff_iff.mpr
  rw [Bool.or_eq_true, hasV_iff, hasV_iff, hasV_iff, List.length_set, List.length_set]
  constructor
  · rintro ⟨r, h1, h2, h3⟩
    rw [fits_set1 h, Bool.or_eq_true] at h2
    rcases h2 with q | q
    · exact .inl ⟨r, h1, q, h3⟩
    · exact .inr ⟨r, h1, q, h3⟩
  · rintro (⟨r, h1, h2, h3⟩ | ⟨r, h1, h2, h3⟩)
    · exact ⟨r, h1, by rw [fits_set1 h, h2]; rfl, h3⟩
    · exact ⟨r, h1, by rw [fits_set1 h, h2, Bool.or_true], h3⟩
theorem hasV_one {n : Nat} {vs c : List Int} {b : Int} (ho : OkC n c) (hc : cnt c = 0) : hasV vs c b = decide (vs.getD (rowOf c).toNat 0 = b) := by
  have hl := rowOf_lt ho.2 hc
  apply Bool.eq_iff_iff.mpr
  rw [hasV_iff, decide_eq_true_iff]
  constructor
  · rintro ⟨r, h1, h2, h3⟩
    have e := (fits_one ho.2 hc h1).mp h2
    rw [← e]
    exact h3
  · intro e
    exact ⟨(rowOf c).toNat, by omega, (fits_one ho.2 hc (by omega)).mpr (by omega), e⟩
theorem kd_one {n : Nat} {vs c : List Int} (ho : OkC n c) (hc : cnt c = 0) (hv : vs.getD (rowOf c).toNat 0 = 0 ∨ vs.getD (rowOf c).toNat 0 = 1) : kd vs c = 1 + vs.getD (rowOf c).toNat 0 := by
  unfold kd
  rw [hasV_one ho hc, hasV_one ho hc]
  rcases hv with e | e <;> rw [e] <;> decide
theorem both_one {n : Nat} {vs c : List Int} (ho : OkC n c) (hc : cnt c = 0) : bothB vs c = false := by
  unfold bothB
  rw [hasV_one ho hc, hasV_one ho hc]
  by_cases e : vs.getD (rowOf c).toNat 0 = 0
  · rw [e]; decide
  · rw [decide_eq_false e]; rfl
theorem kd_three {vs c : List Int} : kd vs c = 3 ↔ bothB vs c = true := by
  unfold kd bothB
  cases hasV vs c 0 <;> cases hasV vs c 1 <;> decide
theorem hasV_some {n : Nat} : ∀ {c : List Int}, OkC n c → ∃ r, r < 2 ^ c.length ∧ fitsB c r = true := by
  intro c ho
  have aux : ∀ c : List Int, (∀ x ∈ c, x = 0 ∨ x = 1 ∨ x = 2) → ∃ r, r < 2 ^ c.length ∧ fitsB c r = true := by
    intro c
    induction c with
    | nil => exact fun _ => ⟨0, by decide, rfl⟩
    | cons x c ih =>
      intro h
      obtain ⟨r, h1, h2⟩ := ih fun y hy => h y (List.mem_cons_of_mem _ hy)
      have hx := h x List.mem_cons_self
      refine ⟨2 * r + (if x = 1 then 1 else 0), ?_, ?_⟩
      · rw [List.length_cons, Nat.pow_succ]
        split <;> omega
      · simp only [fitsB]
        have e1 : (2 * r + (if x = 1 then 1 else 0)) / 2 = r := by split <;> omega
        rw [e1, h2]
        rcases hx with e | e | e <;> subst e
        · have : (2 * r + (if (0 : Int) = 1 then 1 else 0)) % 2 = 0 := by rw [if_neg (by decide)]; omega
          rw [this]; rfl
        · have : (2 * r + (if (1 : Int) = 1 then 1 else 0)) % 2 = 1 := by rw [if_pos rfl]; omega
          rw [this]; rfl
        · rfl
  exact aux c ho.2
/-- where there are not both values every row of the cube has the value kd - 1 -/
theorem kd_value {n : Nat} {vs c : List Int} (hv : OkV n vs) (hc : OkC n c) (hb : bothB vs c = false) {r : Nat} (hr : r < 2 ^ n) (hf : fitsB c r = true) : vs.getD r 0 = kd vs c - 1 := by
  have hr' : r < 2 ^ c.length := by rw [hc.1]; exact hr
  have hv01 : vs.getD r 0 = 0 ∨ vs.getD r 0 = 1 := by
    have hlt : r < vs.length := by rw [hv.1]; exact hr
    rw [List.getD_eq_getElem?_getD, List.getElem?_eq_getElem hlt]
    exact hv.2 _ (List.getElem_mem hlt)
  unfold bothB at hb
  unfold kd
  rcases hv01 with e | e
  · have h0 : hasV vs c 0 = true := hasV_iff.mpr ⟨r, hr', hf, e⟩
    rw [h0] at hb ⊢
    have h1 : hasV vs c 1 = false := by simpa using hb
    rw [h1, e]; decide
  · have h1 : hasV vs c 1 = true := hasV_iff.mpr ⟨r, hr', hf, e⟩
    rw [h1] at hb ⊢
    have h0 : hasV vs c 0 = false := by simpa using hb
    rw [h0, e]; decide
theorem kd_range {n : Nat} {vs c : List Int} (hv : OkV n vs) (hc : OkC n c) : kd vs c = 1 ∨ kd vs c = 2 ∨ kd vs c = 3 := by
  obtain ⟨r, h1, h2⟩ := hasV_some hc
  have hv01 : vs.getD r 0 = 0 ∨ vs.getD r 0 = 1 := by
    have hlt : r < vs.length := by rw [hv.1, ← hc.1]; exact h1
    rw [List.getD_eq_getElem?_getD, List.getElem?_eq_getElem hlt]
    exact hv.2 _ (List.getElem_mem hlt)
  unfold kd
  rcases hv01 with e | e
  · have : hasV vs c 0 = true := hasV_iff.mpr ⟨r, h1, h2, e⟩
    rw [this]
    cases hasV vs c 1 <;> decide
  · have : hasV vs c 1 = true := hasV_iff.mpr ⟨r, h1, h2, e⟩
    rw [this]
    cases hasV vs c 0 <;> decide

/-! ### the least of a list -/
theorem best_snoc (l : List Nat) (x : Nat) : best (l ++ [x]) = some (match best l with | none => x | some y => if x < y then x else y) := by
  unfold best
  rw [List.foldl_append]
  rfl
theorem best_some : ∀ (l : List Nat), l ≠ [] → ∃ y, best l = some y := by
  intro l h
  have e := List.dropLast_concat_getLast h
  rw [← e, best_snoc]
  exact ⟨_, rfl⟩
theorem best_nil : best [] = none := rfl
theorem best_mem {l : List Nat} : ∀ {y : Nat}, best l = some y → y ∈ l := by
  have aux : ∀ (l : List Nat) (a : Option Nat) (y : Nat), l.foldl (fun b x => some (match b with | none => x | some y => if x < y then x else y)) a = some y → y ∈ l ∨ a = some y := by
    intro l
    induction l with
    | nil => intro a y h; exact .inr h
    | cons x l ih =>
      intro a y h
      rcases ih _ y h with q | q
      · exact .inl (List.mem_cons_of_mem _ q)
      · cases a with
        | none =>
          have e : x = y := Option.some.inj q
          exact .inl (by rw [← e]; exact List.mem_cons_self)
        | some z =>
          have e : (if x < z then x else z) = y := Option.some.inj q
          by_cases hx : x < z
          · rw [if_pos hx] at e
            exact .inl (by rw [← e]; exact List.mem_cons_self)
          · rw [if_neg hx] at e
            exact .inr (by rw [e])
  intro y h
  rcases aux l none y h with q | q
  · exact q
  · cases q
theorem best_le {l : List Nat} : ∀ {y x : Nat}, best l = some y → x ∈ l → y ≤ x := by
  have aux : ∀ (l : List Nat) (a : Option Nat) (y : Nat), l.foldl (fun b x => some (match b with | none => x | some y => if x < y then x else y)) a = some y → (∀ x ∈ l, y ≤ x) ∧ ∀ z, a = some z → y ≤ z := by
    intro l
    induction l with
    | nil =>
      intro a y h
      refine ⟨fun x hx => (by cases hx), fun z hz => ?_⟩
      rw [hz] at h
      have e : z = y := Option.some.inj h
      omega
    | cons x l ih =>
      intro a y h
      obtain ⟨h1, h2⟩ := ih _ y h
      have h3 := h2 _ rfl
      cases a with
      | none =>
        refine ⟨fun w hw => ?_, fun z hz => nomatch hz⟩
        rcases List.mem_cons.mp hw with e | e
        · rw [e]; exact h3
        · exact h1 w e
      | some v =>
        have h3' : y ≤ (if x < v then x else v) := h3
        by_cases hx : x < v
        · rw [if_pos hx] at h3'
          refine ⟨fun w hw => ?_, fun z hz => by have e : v = z := Option.some.inj hz; omega⟩
          rcases List.mem_cons.mp hw with e | e
          · rw [e]; exact h3'
          · exact h1 w e
        · rw [if_neg hx] at h3'
          refine ⟨fun w hw => ?_, fun z hz => by have e : v = z := Option.some.inj hz; omega⟩
          rcases List.mem_cons.mp hw with e | e
          · rw [e]; omega
          · exact h1 w e
  intro y x h hx
  exact (aux l none y h).1 x hx

/-! ### the fewest asks -/
theorem dep_fuel {vs : List Int} : ∀ (k : Nat) (c : List Int), cnt c ≤ k → dep vs k c = dep vs (cnt c) c := by
  intro k
  induction k using Nat.strongRecOn with
  | ind k ih =>
    intro c hk
    cases k with
    | zero =>
      have : cnt c = 0 := by omega
      rw [this]
    | succ k =>
      cases hc : cnt c with
      | zero =>
        simp only [dep, free_nil hc, List.map_nil, best_nil]
        split <;> rfl
      | succ m =>
        simp only [dep]
        have e : ((free c).map fun i => 1 + max (dep vs k (c.set i 1)) (dep vs k (c.set i 0))) = ((free c).map fun i => 1 + max (dep vs m (c.set i 1)) (dep vs m (c.set i 0))) := by
          apply List.map_congr_left
          intro i hi
          have hf := mem_free.mp hi
          have c1 := cnt_set (b := 1) hf (by decide)
          have c0 := cnt_set (b := 0) hf (by decide)
          have m1 : cnt (c.set i 1) = m := by omega
          have m0 : cnt (c.set i 0) = m := by omega
          rw [ih k (Nat.lt_succ_self k) (c.set i 1) (by omega), ih k (Nat.lt_succ_self k) (c.set i 0) (by omega), m1, m0]
        rw [e]
def here (vs c : List Int) (i : Nat) : Nat := 1 + max (D vs (c.set i 1)) (D vs (c.set i 0))
theorem D_eq (vs c : List Int) : D vs c = if bothB vs c = true then (best ((free c).map (here vs c))).getD 0 else 0 := by
  have e : D vs c = dep vs (cnt c + 1) c := (dep_fuel (cnt c + 1) c (Nat.le_succ _)).symm
  rw [e]
  simp only [dep]
  have e2 : ((free c).map fun i => 1 + max (dep vs (cnt c) (c.set i 1)) (dep vs (cnt c) (c.set i 0))) = (free c).map (here vs c) := by
    apply List.map_congr_left
    intro i hi
    have hf := mem_free.mp hi
    have c1 := cnt_set (b := 1) hf (by decide)
    have c0 := cnt_set (b := 0) hf (by decide)
    unfold here D
    rw [dep_fuel (cnt c) (c.set i 1) (by omega), dep_fuel (cnt c) (c.set i 0) (by omega)]
  rw [e2]
theorem D_zero {vs c : List Int} (h : bothB vs c = false) : D vs c = 0 := by
  rw [D_eq, h]; rfl
theorem free_ne {n : Nat} {vs c : List Int} (hc : OkC n c) (h : bothB vs c = true) : free c ≠ [] := fun e => by
  rw [both_one hc (free_cnt e)] at h
  cases h
theorem D_best {n : Nat} {vs c : List Int} (hc : OkC n c) (h : bothB vs c = true) : best ((free c).map (here vs c)) = some (D vs c) := by
  obtain ⟨y, hy⟩ := best_some ((free c).map (here vs c)) (by
    intro e
    exact free_ne hc h (List.map_eq_nil_iff.mp e))
  rw [D_eq, h, hy]
  rfl
theorem D_place {n : Nat} {vs c : List Int} (hc : OkC n c) (h : bothB vs c = true) : ∃ i ∈ free c, here vs c i = D vs c := by
  have q := best_mem (D_best hc h)
  obtain ⟨i, hi, e⟩ := List.mem_map.mp q
  exact ⟨i, hi, e⟩
theorem D_le {n : Nat} {vs c : List Int} (hc : OkC n c) (h : bothB vs c = true) {i : Nat} (hi : i ∈ free c) : D vs c ≤ here vs c i :=
  best_le (D_best hc h) (List.mem_map.mpr ⟨i, hi, rfl⟩)
theorem D_pos {n : Nat} {vs c : List Int} (hc : OkC n c) (h : bothB vs c = true) : 0 < D vs c := by
  obtain ⟨i, _, e⟩ := D_place hc h
  rw [← e]
  unfold here
  omega
theorem D_both {vs c : List Int} (h : 0 < D vs c) : bothB vs c = true := by
  cases e : bothB vs c with
  | true => rfl
  | false => rw [D_zero e] at h; omega
theorem D_cnt {n : Nat} {vs : List Int} : ∀ (k : Nat) {c : List Int}, OkC n c → cnt c ≤ k → D vs c ≤ cnt c := by
  intro k
  induction k with
  | zero =>
    intro c hc hk
    have : cnt c = 0 := by omega
    rw [D_zero (both_one hc this)]
    omega
  | succ k ih =>
    intro c hc hk
    cases hb : bothB vs c with
    | false => rw [D_zero hb]; omega
    | true =>
      obtain ⟨i, hi, e⟩ := D_place hc hb
      have hf := mem_free.mp hi
      have c1 := cnt_set (b := 1) hf (by decide)
      have c0 := cnt_set (b := 0) hf (by decide)
      have h1 := ih (hc.set i (.inr rfl)) (by omega : cnt (c.set i 1) ≤ k)
      have h0 := ih (hc.set i (.inl rfl)) (by omega : cnt (c.set i 0) ≤ k)
      rw [← e]
      unfold here
      omega
theorem D_len {n : Nat} {vs c : List Int} (hc : OkC n c) : D vs c ≤ n := by
  have h1 := D_cnt (vs := vs) (cnt c) hc (Nat.le_refl _)
  have h2 := cnt_le c
  have h3 := hc.1
  omega
/-- one of both halves wants so many asks less one -/
theorem D_half {n : Nat} {vs c : List Int} (hc : OkC n c) {i k : Nat} (hi : i ∈ free c) (hk : k + 1 ≤ D vs c) : (k ≤ D vs (c.set i 1)) ∨ (k ≤ D vs (c.set i 0)) := by
  have hb : bothB vs c = true := D_both (by omega)
  have h := D_le hc hb hi
  unfold here at h
  omega

/-! ### trees -/
inductive Tree where
  | leaf (b : Int)
  | ask (i : Nat) (t u : Tree)
def ev : Tree → Nat → Int
  | .leaf b, _ => b
  | .ask i t u, r => if bitN r i = 1 then ev t r else ev u r
def ht : Tree → Nat
  | .leaf _ => 0
  | .ask _ t u => 1 + max (ht t) (ht u)
def nodes : Tree → Nat
  | .leaf _ => 1
  | .ask _ t u => 1 + nodes t + nodes u
def OkT (n : Nat) : Tree → Prop
  | .leaf b => b = 0 ∨ b = 1
  | .ask i t u => i < n ∧ OkT n t ∧ OkT n u
theorem nodes_le : ∀ t : Tree, nodes t + 1 ≤ 2 ^ (ht t + 1)
  | .leaf _ => by simp [nodes, ht]
  | .ask i t u => by
    have h1 := nodes_le t
    have h2 := nodes_le u
    have e1 : 2 ^ (ht t + 1) ≤ 2 ^ (max (ht t) (ht u) + 1) := Nat.pow_le_pow_right (by decide) (by omega)
    have e2 : 2 ^ (ht u + 1) ≤ 2 ^ (max (ht t) (ht u) + 1) := Nat.pow_le_pow_right (by decide) (by omega)
    simp only [nodes, ht]
    have e3 : 2 ^ (1 + max (ht t) (ht u) + 1) = 2 ^ (max (ht t) (ht u) + 1) * 2 := by rw [Nat.add_comm 1, Nat.pow_succ]
    rw [e3]
    omega
theorem nodes_pos : ∀ t : Tree, 1 ≤ nodes t
  | .leaf _ => Nat.le_refl _
  | .ask _ t u => by simp only [nodes]; omega
theorem ev_01 {n : Nat} : ∀ {t : Tree} {r : Nat}, OkT n t → ev t r = 0 ∨ ev t r = 1
  | .leaf b, r, h => h
  | .ask i t u, r, h => by
    simp only [ev]
    split
    · exact ev_01 h.2.1
    · exact ev_01 h.2.2
structure GoodT (n : Nat) (vs c : List Int) (t : Tree) : Prop where
  ht : ht t = D vs c
  ok : OkT n t
  ev : ∀ r, r < 2 ^ n → fitsB c r = true → ev t r = vs.getD r 0
theorem GoodT.leaf {n : Nat} {vs c : List Int} (hv : OkV n vs) (hc : OkC n c) (h : D vs c = 0) : GoodT n vs c (.leaf (kd vs c - 1)) := by
  have hb : bothB vs c = false := by
    cases e : bothB vs c with
    | false => rfl
    | true => have := D_pos hc e; omega
  refine ⟨h.symm, ?_, fun r hr hf => (kd_value hv hc hb hr hf).symm⟩
  have h3 : kd vs c ≠ 3 := fun e => by rw [kd_three.mp e] at hb; cases hb
  rcases kd_range hv hc with e | e | e
  · rw [e]; exact .inl rfl
  · rw [e]; exact .inr rfl
  · exact absurd e h3
theorem GoodT.ask {n : Nat} {vs c : List Int} (hc : OkC n c) {i : Nat} (hi : i ∈ free c) (e : here vs c i = D vs c) {t u : Tree} (ht : GoodT n vs (c.set i 1) t) (hu : GoodT n vs (c.set i 0) u) : GoodT n vs c (.ask i t u) := by
  have hf := mem_free.mp hi
  have hlt : i < n := by rw [← hc.1]; exact (List.getElem?_eq_some_iff.mp hf).1
  refine ⟨?_, ⟨hlt, ht.ok, hu.ok⟩, fun r hr hfit => ?_⟩
  · rw [← e]
    unfold here
    show 1 + max (Fa.ht t) (Fa.ht u) = _
    rw [ht.ht, hu.ht]
  · have q := fits_half hfit hf
    show (if bitN r i = 1 then Fa.ev t r else Fa.ev u r) = _
    by_cases hb : bitN r i = 1
    · rw [if_pos hb] at q ⊢
      exact ht.ev r hr q
    · rw [if_neg hb] at q ⊢
      exact hu.ev r hr q
def root (n : Nat) : List Int := List.replicate n 2
theorem root_ok (n : Nat) : OkC n (root n) := ⟨List.length_replicate, fun x hx => .inr (.inr (List.eq_of_mem_replicate hx))⟩
theorem root_fits : ∀ (n r : Nat), fitsB (root n) r = true
  | 0, _ => rfl
  | n + 1, r => by
    have e : root (n + 1) = 2 :: root n := rfl
    rw [e]
    simp only [fitsB, root_fits n (r / 2)]
    rfl
theorem root_cnt (n : Nat) : cnt (root n) ≤ n := by
  have := cnt_le (root n)
  rw [(root_ok n).1] at this
  exact this
end Fa

set_option Elab.async false
set_option linter.all false
set_option maxRecDepth 100000
set_option maxHeartbeats 4000000
/-! Rules of our own over the layer: a def by its name with its promise, enumerate over a tuple, zip of a tuple and a list, order of nested pairs. -/
namespace Fa
open PySem PySem.Spec PyProof.Rows L2

/-! ### a def by its name -/
structure Has (P : Program) (w : World) (K : PySem.W.Frag) (mg : Str → Option Value) (base : Heap) (x : Str) (ps : List Str) (k : Nat) (sp : Sp) : Prop where
  ex : ∃ (f : Addr) (fd : FuncData), FnOk P w K mg base CX0 k f fd ps sp ∧ mg x = some (.ref f) ∧ PySem.W.keepIn K (.ref f) = true ∧ Binds K fd ps []
structure DefAt (K : PySem.W.Frag) (mg : Str → Option Value) (x : Str) (st : Stmt) (ps : List Str) : Prop where
  ex : ∃ (f : Addr) (fd : FuncData), Fun K x x st f fd ∧ mg x = some (.ref f) ∧ Binds K fd ps []
section
variable {P : Program} {w : World} {K : PySem.W.Frag} {mg : Str → Option Value} {base : Heap} {x : Str} {ps : List Str} {k j : Nat} {sp sp' : Sp} {st : Stmt} {N : List Str}
theorem Has.mono (F : Has P w K mg base x ps k sp) (h : k ≤ j) : Has P w K mg base x ps j sp := let ⟨f, fd, a, b, c, d⟩ := F.ex; ⟨f, fd, a.mono h, b, c, d⟩
theorem Has.imp (F : Has P w K mg base x ps k sp) (h : ∀ vs H Q E, sp' vs H Q E → sp vs H Q E) : Has P w K mg base x ps k sp' := let ⟨f, fd, a, b, c, d⟩ := F.ex; ⟨f, fd, a.imp h, b, c, d⟩
/-- the def's body as a term of rules, and its reading -/
theorem DefAt.ok (D : DefAt K mg x st ps) (S : FnScope N ps (defScope st)) (len : ∀ vs H Q E, sp vs H Q E → vs.length = ps.length)
    (hbody : ∀ (f : Addr) (cdv : Value) (A : Around) (outer : List Env) (s : Shared) (H : Hp) (vs : List V) (Q : VK) (E : XK), Room k (A.deeper (envOfC x (defScope st) s.heap.objs.size f cdv)) → sp vs H Q E →
      ∃ t, PSs (cxOf CX0 P w K mg base N x (defScope st) f cdv A outer s H E).nox (defBody st) t ∧ t { nx := fun _ H' => Q .non H', rt := Q } (start N vs) H) : Has P w K mg base x ps (k + 1) sp := by
  obtain ⟨f, fd, F, m, b⟩ := D.ex
  exact ⟨f, fd, F.ok S len (hbody f), m, F.kp, b⟩
end
section
variable {X : Cx} {x : Str} {p pos : Pos} {ps : List Str} {k : Nat} {sp : Sp} {e : Expr} {es : List Expr} {t : TA}
theorem pe_has (F : Has X.prog X.w X.K X.mg X.base x ps k sp) (hr : Room k X.A) (ha : PA X (e :: es) t) (hg : Gl X x := by rfl) (hdb : (x == ("__debug__" : Str)) = false := by decide)
    (he : starEach (e :: es) X.env = (false, eval e X.env) :: starEach es X.env := by rfl) (hpl : (backTo pos (starEach es X.env)).any (·.1) = false := by rfl) : PE X (.Call (.Name x p) (e :: es) [] pos) (tCall sp [] E0 t) := by
  obtain ⟨f, fd, G, m, kp, b⟩ := F.ex
  exact pe_call G hr hg m kp b .nil pass0 ha hdb he hpl
end

/-! ### heaps that grow -/
/-- all but what stands at a and b -/
def But (a b : Addr) (H H' : Hp) : Prop := ∀ c o, H c = some o → c ≠ a → c ≠ b → H' c = some o

/-! ### enumerate(tuple) -/
theorem enum1_new {v : Value} {o : Obj} {G : Heap → Prop} (B : Begins v o G) :
    Meets (Builtin.«enumerate.__new__» ⟨[.type "enumerate", v], []⟩) (fun _ R s => G s.heap ∧
      R (.ok (.ret (.ref (s.heap.push o).objs.size))) { s with heap := (s.heap.push o).push { cls := .type "enumerate", data := .fields #[.none, .bool false, .ref s.heap.objs.size, rawInt 0, .none, .none] } }) :=
  .of_wp fun prog w A R s h => by
    obtain ⟨hp, gs, dr, tk, os⟩ := s; obtain ⟨h1, h2⟩ := h
    have hsub := sub_enumerate
    have go : ∀ {A' : Around} {E : Value → Shared → Prop} {Q : Value → Shared → Prop}, Q (.ref hp.objs.size) ⟨hp.push o, gs, dr, tk, os⟩ → wpAny (model prog w) A' (pyIter v) Q E ⟨hp, gs, dr, tk, os⟩ :=
      fun q => B.iter prog w _ _ ⟨hp, gs, dr, tk, os⟩ _ h1 q
    wp_walk using go
    refine wpAny_stack_any fun sk => wpAny_pure ?_
    split
    · rename_i c _ _ _ _ _
      cases (c == Value.type "enumerate") <;> (wp_walk using go; exact ⟨_, rfl, h2⟩)
    · wp_walk using go
      exact ⟨_, rfl, h2⟩
theorem enum1_call {prog : Program} {w : World} {A : Around} {E : Value → Shared → Prop} {s : Shared} {v : Value} {o : Obj} {G : Heap → Prop} {Q : Value → Shared → Prop} (B : Begins v o G) (h1 : G s.heap)
    (h : ∀ h', IsEnum h' (s.heap.objs.size + 1) s.heap.objs.size 0 .none → h'.get? s.heap.objs.size = some o → (∀ b q, s.heap.get? b = some q → h'.get? b = some q) → Q (.ref (s.heap.objs.size + 1)) { s with heap := h' }) :
    wpAny (model prog w) A (call (.type "enumerate") [v]) Q E s := by
  refine callType_new F.called_enumerate (by decide) (F.typeCall_enumerate_1 _) (F.newCall_enumerate_1 _) (fun ob => F.args_object_init_2 ob _) F.entry_enumerate_new (enum1_new B) ⟨h1, ?_⟩
  have sz : (s.heap.push o).objs.size = s.heap.objs.size + 1 := Heap.size_push ..
  have he : IsEnum ((s.heap.push o).push { cls := .type "enumerate", data := .fields #[.none, .bool false, .ref s.heap.objs.size, rawInt 0, .none, .none] }) (s.heap.objs.size + 1) s.heap.objs.size 0 .none := by
    have z := Heap.get?_push_size (s.heap.push o) (o := { cls := .type "enumerate", data := .fields #[.none, .bool false, .ref s.heap.objs.size, rawInt 0, .none, .none] }) rfl
    rw [sz] at z
    exact z
  show _ ∧ _
  rw [sz]
  exact ⟨⟨_, he, rfl⟩, h _ he (Heap.get?_push_of_some _ (Heap.get?_push_size _ B.free)) fun b q z => Heap.get?_push_of_some _ (Heap.get?_push_of_some _ z)⟩
def IeT (K : PySem.W.Frag) (a : Addr) : It :=
  ⟨fun i H => ∃ (xs : List V) (x : V), SqT K H a xs ∧ xs[i]? = some x, fun i H v H' => ∃ T x, v = .ref T ∧ H T = none ∧ H' = upd H T (.tup [.int (i : Nat), x]) ∧ ∀ xs, SqT K H a xs → xs[i]? = some x,
    fun i H => ∃ xs : List V, SqT K H a xs ∧ xs.length ≤ i⟩
theorem turn_enumT {P : Program} {w : World} {K : PySem.W.Frag} {elts : List Expr} {kk : Nat} {tpos : Pos} (a e it : Addr) :
    Turn P w K (.Tuple elts kk tpos) (IeT K a) [e, it] e (fun i h => (∃ old, IsEnum h e it ((i : Nat) : Int) old) ∧ h.IsTupleIter it a i ∧ e ≠ it) where
  mem := List.mem_cons_self
  obj := fun i h st b hb => by
    obtain ⟨⟨old, he⟩, ⟨o, ho, _, hd⟩, _⟩ := st
    rcases List.mem_cons.mp hb with z | z
    · rw [z]; exact ⟨_, he, fun v q => nomatch q⟩
    · rw [List.mem_singleton.mp z]; exact ⟨o, ho, fun v q => by rw [hd] at q; cases q⟩
  keep := fun i h h' st k => let ⟨⟨old, he⟩, hi, hne⟩ := st; ⟨⟨old, k e (by simp) _ he⟩, hi.at fun o q => k it (by simp) o q, hne⟩
  item := by
    intro X hP hw hK hc i pins s σ H E I hf st hg
    subst hP hw hK
    obtain ⟨⟨old, he⟩, hit, hne⟩ := st
    obtain ⟨xs, x, hq, hx⟩ := hg
    obtain ⟨its, rv, p, hz⟩ := I.tuple hq
    obtain ⟨u, hu, ru⟩ := rv.get hx
    have hT : s.heap.IsTuple a its.toArray := p
    have hel : e < s.heap.objs.size := Heap.lt_size he
    have hil : it < s.heap.objs.size := by obtain ⟨_, q, _⟩ := hit; exact Heap.lt_size q
    have hai : a ≠ it := by
      rintro rfl
      obtain ⟨o1, e1, c1, _⟩ := hit
      obtain ⟨o2, e2, c2, _⟩ := hT
      rw [e1] at e2; cases e2
      rw [c1] at c2
      exact absurd (Value.type.inj c2) (by decide)
    have hae : e ≠ a := by
      rintro rfl
      obtain ⟨o2, e2, c2, _⟩ := hT
      rw [he] at e2; cases e2
      have c3 : Value.type "enumerate" = Value.type "tuple" := c2
      exact absurd (Value.type.inj c3) (by decide)
    have hlt : i < its.toArray.size := by rw [List.size_toArray]; exact (List.getElem?_eq_some_iff.mp hu).1
    have D := Draws.tuple (prog := X.prog) (w := X.w) (A := X.A.in1) (I.ok.hd hc) it a hai its.toArray
    refine wpAny_pyNext_enum_itemC D he ⟨hit, hT⟩ hlt hne (fun m => ?_) fun y h' tk hy ho hst' hT1 hsz hk => ?_
    · rcases List.mem_cons.mp m with z | z
      · exact hne z
      · exact hae (List.mem_singleton.mp z)
    have ey : y = u := by
      have z : its.toArray[i]? = some y := hy
      rw [List.getElem?_toArray, hu] at z
      exact (Option.some.inj z).symm
    subst ey
    refine ⟨_, rfl, wpAny_letOwnedTupleGo_enum (s := { s with heap := h', toks := tk + 1 }) ho fun h2 he' sb => ?_⟩
    have hT2 : h2.get? s.heap.objs.size = some { cls := .type "tuple", data := .seq #[.int i tk, y] } := (sb.2 _ (Nat.ne_of_gt hel)).trans hT1
    have new : ObjOk X.prog X.w (upd H s.heap.objs.size (.tup [.int (i : Nat), x])) h2 s.heap.objs.size (.tup [.int (i : Nat), x]) :=
      ⟨by show 2 ≤ sizeLine; decide, [.int i tk, y], .cons ⟨_, rfl⟩ (.cons ru .nil), ⟨_, hT2, rfl, _, rfl⟩⟩
    have I1 : Inv X pins σ (upd H s.heap.objs.size (.tup [.int (i : Nat), x])) { s with heap := h2, toks := tk + 1 } :=
      I.turnedNew (ch := [e, it]) (fun b ob hb q => (sb.2 b (fun z => hb (by simp [z]))).trans (hk b ob (fun z => hb (by simp [z])) (fun z => hb (by simp [z])) q)) hf (Nat.le_refl _) new
    refine ⟨.ref s.heap.objs.size, _, I1, rfl, ⟨_, x, rfl, I.hok.fresh (Nat.le_refl _), rfl, fun ys hys => by rw [I.tuple_inj hys hq]; exact hx⟩, ⟨⟨y, ?_⟩, hst'.1.at fun o q => (sb.2 it (Ne.symm hne)).trans q, hne⟩, fun b hb => ?_⟩
    · have e1 : ((i + 1 : Nat) : Int) = (i : Int) + 1 := by omega
      rw [e1]; exact he'
    · have hb' : b < s.heap.objs.size := by
        rcases List.mem_cons.mp hb with z | z
        · rw [z]; exact hel
        · rw [List.mem_singleton.mp z]; exact hil
      rw [upd_ne (Nat.ne_of_lt hb')]
      exact (hf b hb).1
  done := by
    intro X hP hw hK hc i pins s σ H E I hf st hg
    subst hP hw hK
    obtain ⟨⟨old, he⟩, hit, hne⟩ := st
    obtain ⟨xs, hq, hx⟩ := hg
    obtain ⟨its, rv, p, hz⟩ := I.tuple hq
    obtain ⟨f0, f1, f2, f3, f4, f5⟩ := hf it (by simp)
    have hl := rv.length
    have hT : s.heap.IsTuple a its.toArray := p
    have hT' : s.TypeIs (.ref e) "enumerate" := ⟨_, he, rfl⟩
    unfold pyNext
    refine wpAny_bind (wpAny_attempt (wpAny_callSpecial?_slot (name := Str.ofString "__next__") hT' F.slot_enumerate_next (wpAny_call_entry F.slot_enumerate_next hT' F.entry_enumerate_next ?_ (F.args_enumerate_next_1 _))))
    show wpAny _ _ (field (.ref e) 2 >>= _) _ _ _
    refine wpAny_bind (wpAny_field he rfl (x := .ref it) rfl ?_)
    refine wpAny_bind (wpAny_nextOf_tuple_end (A := X.A.in1) (I.ok.hd hc) hit hT (by simp; omega) fun h' z he2 hz2 => ?_)
    obtain ⟨o, ho, hcl⟩ := hz2
    refine wpAny_bind (wpAny_isInstance (T := "StopIteration") (b := true) ⟨o, ho, hcl⟩ isSubtype_stop ?_)
    exact wpAny_pure ⟨rfl, I.turned (t' := s.toks) (fun b q hb z2 => he2 b q hb z2) f0 f1 f3 f4 f5⟩
  self := fun A i s Q E st h => let ⟨⟨_, he⟩, _⟩ := st; wpAny_pyIter_enum he h
def iEnT (K : PySem.W.Frag) (ta : TA) : TI := fun σ H R => ta σ H fun vs H1 => ∃ a xs, vs = [.ref a] ∧ SqT K H1 a xs ∧ R (IeT K a) H1
theorem pi_enT {X : Cx} {e : Expr} {ta : TA} {p pos tpos : Pos} {elts : List Expr} {kk : Nat} (hm : X.mg "enumerate" = none) (ha : PA X [e] ta) (hg : Gl X "enumerate" := by rfl) (hs : starEach [e] X.env = [(false, eval e X.env)] := by rfl) :
    PI X (.Tuple elts kk tpos) (.Call (.Name "enumerate" p) [e] [] pos) (iEnT X.K ta) := by
  refine ⟨fun pins s σ H R I h => ?_⟩
  refine Call_ (ld_blt I hg hm boot_enumerate (PyProof.Rows.callWith_type1 (thn (ha.run pos pins s σ H _ I h) fun us s1 ⟨vs, H1, I1, r1, q1⟩ => ?_) hs rfl))
  obtain ⟨a, xs, ex, hq, q⟩ := q1
  subst ex
  obtain ⟨u, rfl, rx⟩ := vals1 r1
  cases rx
  obtain ⟨its, rv, p', hz⟩ := I1.tuple hq
  refine enum1_call (begins_tuple a its.toArray) (show s1.heap.IsTuple a its.toArray from p') fun h' he hit hk => wpAny_pyIter_enum he ?_
  have I2 : Inv X pins σ H1 { s1 with heap := h' } := I1.kept (t' := s1.toks) hk
  refine ⟨s1.heap.objs.size + 1, [s1.heap.objs.size + 1, s1.heap.objs.size], _, _, H1, rfl, I2, turn_enumT a (s1.heap.objs.size + 1) s1.heap.objs.size, ⟨⟨.none, he⟩, ⟨_, hit, rfl, rfl⟩, Nat.succ_ne_self _⟩, fun b hb => ?_, q⟩
  have hle : s1.heap.objs.size ≤ b := by
    rcases List.mem_cons.mp hb with z | z
    · rw [z]; exact Nat.le_succ _
    · rw [List.mem_singleton.mp z]; exact Nat.le_refl _
  exact I1.fpOk hle (I1.hok.fresh hle)
theorem walk_enT {K : PySem.W.Frag} {a : Addr} {xs : List V} : Walk (IeT K a) xs.length (fun H => SqT K H a xs) (YPair (fun i => some (.int (i : Nat))) (fun i => xs[i]?)) := by
  refine ⟨fun i _ hi q => ⟨xs, xs[i], q, by simp [hi]⟩, fun _ q => ⟨xs, q, Nat.le_refl _⟩, fun i H v H' _ q y => ?_⟩
  obtain ⟨T, x, h1, h2, h3, h4⟩ := y
  exact ⟨T, .int (i : Nat), x, h1, h2, h3, rfl, h4 xs q⟩
end Fa

set_option Elab.async false
set_option linter.all false
set_option maxRecDepth 100000
set_option maxHeartbeats 4000000
/-! Rules of our own: zip of a tuple and a list, tuple * 1, len(set(xs)), entries and their order. -/
namespace Fa
open PySem PySem.Spec PyProof.Rows L2

/-! ### zip(tuple, list) -/
def IzM (K : PySem.W.Frag) (a b : Addr) : It :=
  ⟨fun i H => ∃ (xs ys : List V) (x y : V), SqT K H a xs ∧ SqL K H b ys ∧ xs[i]? = some x ∧ ys[i]? = some y,
    fun i H v H' => ∃ T x y, v = .ref T ∧ H T = none ∧ H' = upd H T (.tup [x, y]) ∧ (∀ xs, SqT K H a xs → xs[i]? = some x) ∧ ∀ ys, SqL K H b ys → ys[i]? = some y,
    fun i H => ∃ xs ys : List V, SqT K H a xs ∧ SqL K H b ys ∧ xs.length = ys.length ∧ xs.length = i⟩
theorem sep_of {z TI TO i1 i2 a b : Addr} (D : ZipApart z TI TO i1 i2 a b) : ZipSep2 z TI TO i1 i2 [i1, a] [i2, b] := by
  refine ⟨D.TIz, D.TOz, D.TITO, D.TIi1, List.mem_cons_self, ?_, ?_, D.TIi2, List.mem_cons_self, ?_, ?_, ?_, ?_⟩
  all_goals
    intro m
    rcases List.mem_cons.mp m with e | e
    all_goals try rw [List.mem_singleton] at e
  · exact D.i1z e.symm
  · exact D.l1z e.symm
  · exact D.TOi1 e
  · exact D.l1TO e.symm
  · exact D.i2z e.symm
  · exact D.l2z e.symm
  · exact D.TOi2 e
  · exact D.l2TO e.symm
  · exact D.i12 e
  · exact D.l2i1 e.symm
  · exact D.i12 e.symm
  · exact D.l1i2 e.symm
theorem turn_zipM {P : Program} {w : World} {K : PySem.W.Frag} {elts : List Expr} {kk : Nat} {tpos : Pos} {a b z TI TO i1 i2 : Addr} (D : ZipApart z TI TO i1 i2 a b) :
    Turn P w K (.Tuple elts kk tpos) (IzM K a b) [z, TI, TO, i1, i2] z (fun i h => IsZip h z TI TO .none ∧ IsTupOf2 h TI (.ref i1) (.ref i2) ∧ (∃ x y, IsTupOf2 h TO x y) ∧ h.IsTupleIter i1 a i ∧ h.IsListIter i2 b i) where
  mem := List.mem_cons_self
  obj := fun i h st c hc => by
    obtain ⟨hz, hTI, ⟨x, y, hTO⟩, ⟨o1, e1, _, d1⟩, ⟨o2, e2, _, d2⟩⟩ := st
    have e' : c = z ∨ c = TI ∨ c = TO ∨ c = i1 ∨ c = i2 := by simpa using hc
    rcases e' with q | q | q | q | q
    · rw [q]; exact ⟨_, hz, fun v q => nomatch q⟩
    · rw [q]; exact ⟨_, hTI, fun v q => nomatch q⟩
    · rw [q]; exact ⟨_, hTO, fun v q => nomatch q⟩
    · rw [q]; exact ⟨o1, e1, fun v q => by rw [d1] at q; cases q⟩
    · rw [q]; exact ⟨o2, e2, fun v q => by rw [d2] at q; cases q⟩
  keep := fun i h h' st k => by
    obtain ⟨hz, hTI, ⟨x, y, hTO⟩, h1, h2⟩ := st
    exact ⟨k z (by simp) _ hz, k TI (by simp) _ hTI, ⟨x, y, k TO (by simp) _ hTO⟩, h1.at fun o q => k i1 (by simp) o q, h2.at fun o q => k i2 (by simp) o q⟩
  item := by
    intro X hP hw hK hc i pins s σ H E I hf st hg
    subst hP hw hK
    obtain ⟨hz, hTI, ⟨x0, y0, hTO⟩, h1, h2⟩ := st
    obtain ⟨xs, ys, x, y, hqx, hqy, hx, hy⟩ := hg
    obtain ⟨its, rv, p, _⟩ := I.tuple hqx
    obtain ⟨its2, rv2, p2, _⟩ := I.list hqy
    obtain ⟨u, hu, ru⟩ := rv.get hx
    obtain ⟨u2, hu2, ru2⟩ := rv2.get hy
    have hzl : z < s.heap.objs.size := Heap.lt_size hz
    have hA : X.A.in1.handled = none := I.ok.hd hc
    have D1 := Draws.tuple (prog := X.prog) (w := X.w) (A := X.A.in1) hA i1 a D.l1i1 its.toArray
    have D2 := Draws.list (prog := X.prog) (w := X.w) (A := X.A.in1) hA i2 b D.l2i2 its2.toArray
    refine wpAny_pyNext_zipD2_item (sep_of D) D1 D2 hz hTI hTO ⟨h1, p⟩ ⟨h2, p2.isList⟩ (by rw [List.size_toArray]; exact (List.getElem?_eq_some_iff.mp hu).1) (by rw [List.size_toArray]; exact (List.getElem?_eq_some_iff.mp hu2).1)
      fun y1 y2 h' tk g1 g2 z' TO' h1' h2' hT hsz hk => ?_
    have q1 : y1 = u := by
      have g : its.toArray[i]? = some y1 := g1
      rw [List.getElem?_toArray, hu] at g
      exact (Option.some.inj g).symm
    have q2 : y2 = u2 := by
      have g : its2.toArray[i]? = some y2 := g2
      rw [List.getElem?_toArray, hu2] at g
      exact (Option.some.inj g).symm
    subst q1 q2
    refine ⟨_, rfl, wpAny_letOwnedTupleGo_zip (s := { s with heap := h', toks := tk }) z' fun hp2 z2 sb => ?_⟩
    have hT2 : hp2.get? s.heap.objs.size = some { cls := .type "tuple", data := .seq #[y1, y2] } := (sb.2 _ (Nat.ne_of_gt hzl)).trans hT
    have new : ObjOk X.prog X.w (upd H s.heap.objs.size (.tup [x, y])) hp2 s.heap.objs.size (.tup [x, y]) :=
      ⟨by show 2 ≤ sizeLine; decide, [y1, y2], .cons ru (.cons ru2 .nil), ⟨_, hT2, rfl, _, rfl⟩⟩
    have I1 : Inv X pins σ (upd H s.heap.objs.size (.tup [x, y])) { s with heap := hp2, toks := tk } :=
      I.turnedNew (ch := [z, TI, TO, i1, i2]) (fun c o hb q => (sb.2 c (fun e => hb (by simp [e]))).trans (hk c o (fun e => hb (by simp [e])) (fun e => hb (by simp [e])) (fun e => hb (by simp [e])) (fun e => hb (by simp [e])) q)) hf (Nat.le_refl _) new
    refine ⟨.ref s.heap.objs.size, _, I1, rfl, ⟨_, x, y, rfl, I.hok.fresh (Nat.le_refl _), rfl, fun l hl => by rw [I.tuple_inj hl hqx]; exact hx, fun l hl => by rw [I.list_inj hl hqy]; exact hy⟩, ⟨z2, ?_, ⟨y1, y2, ?_⟩, ?_, ?_⟩, fun c hcm => ?_⟩
    · exact (sb.2 _ D.TIz).trans (hk _ _ D.TIz D.TITO D.TIi1 D.TIi2 hTI)
    · exact (sb.2 _ D.TOz).trans TO'
    · exact h1'.1.at fun o q => (sb.2 _ D.i1z).trans q
    · exact h2'.1.at fun o q => (sb.2 _ D.i2z).trans q
    · have hlt : c < s.heap.objs.size := by
        have e' : c = z ∨ c = TI ∨ c = TO ∨ c = i1 ∨ c = i2 := by simpa using hcm
        rcases e' with q | q | q | q | q
        · rw [q]; exact hzl
        · rw [q]; exact Heap.lt_size hTI
        · rw [q]; exact Heap.lt_size hTO
        · rw [q]; obtain ⟨_, e1, _⟩ := h1; exact Heap.lt_size e1
        · rw [q]; obtain ⟨_, e2, _⟩ := h2; exact Heap.lt_size e2
      rw [upd_ne (Nat.ne_of_lt hlt)]
      exact (hf c hcm).1
  done := by
    intro X hP hw hK hc i pins s σ H E I hf st hg
    subst hP hw hK
    obtain ⟨hz, hTI, ⟨x0, y0, hTO⟩, h1, h2⟩ := st
    obtain ⟨xs, ys, hqx, hqy, hlen, hend⟩ := hg
    obtain ⟨its, rv, p, _⟩ := I.tuple hqx
    obtain ⟨its2, rv2, p2, _⟩ := I.list hqy
    have l1 := rv.length
    have l2 := rv2.length
    have hA : X.A.in1.handled = none := I.ok.hd hc
    have D1 := Draws.tuple (prog := X.prog) (w := X.w) (A := X.A.in1) hA i1 a D.l1i1 its.toArray
    have D2 := Draws.list (prog := X.prog) (w := X.w) (A := X.A.in1) hA i2 b D.l2i2 its2.toArray
    have n1 : i = its.toArray.size := by rw [List.size_toArray]; omega
    have n2 : i = its2.toArray.size := by rw [List.size_toArray]; omega
    exact wpAny_pyNext_zipD2_end (sep_of D) D1 D2 hz hTI hTO ⟨h1, p⟩ ⟨h2, p2.isList⟩ (Nat.le_of_eq n1) (Nat.le_of_eq n2) (.inl n1) fun h' tk hk => ⟨rfl, I.turnedL (ch := [z, TI, TO, i1, i2]) (fun c o hb q =>
      hk c o (fun e => hb (by simp [e])) (fun e => hb (by simp [e])) (fun e => hb (by simp [e])) (fun e => hb (by simp [e])) q) hf⟩
  self := fun A i s Q E st h => wpAny_pyIter_zip st.1 h
def iZipM (K : PySem.W.Frag) (ta : TA) : TI := fun σ H R => ta σ H fun vs H1 => ∃ a b xs ys, vs = [.ref a, .ref b] ∧ SqT K H1 a xs ∧ SqL K H1 b ys ∧ R (IzM K a b) H1
theorem pi_zipM {X : Cx} {e e2 : Expr} {ta : TA} {p pos tpos : Pos} {elts : List Expr} {kk : Nat} (hm : X.mg "zip" = none) (ha : PA X [e, e2] ta) (hg : Gl X "zip" := by rfl)
    (hs : starEach [e, e2] X.env = (false, eval e X.env) :: starEach [e2] X.env := by rfl) (hpl : (backTo pos (starEach [e2] X.env)).any (·.1) = false := by rfl) :
    PI X (.Tuple elts kk tpos) (.Call (.Name "zip" p) [e, e2] [] pos) (iZipM X.K ta) := by
  refine ⟨fun pins s σ H R I h => ?_⟩
  refine Call_ (ld_blt I hg hm PyProof.Rows.boot_zip (PyProof.Rows.callWith_type1 (thn (ha.run pos pins s σ H _ I h) fun us s1 ⟨vs, H1, I1, r1, q1⟩ => ?_) hs hpl))
  obtain ⟨a, b, xs, ys, ex, hqx, hqy, q⟩ := q1
  subst ex
  obtain ⟨u1, u2, rfl, r, r'⟩ := vals2 r1
  cases r
  cases r'
  obtain ⟨its, rv, p1, _⟩ := I1.tuple hqx
  obtain ⟨its2, rv2, p2, _⟩ := I1.list hqy
  obtain ⟨o1, ho1, _⟩ := id p1
  refine zip_begins2 (begins_tuple a its.toArray) (begins_list b its2.toArray) (show s1.heap.IsTuple a its.toArray from p1) p2.isList fun h' hz hTI hTO h1 h2 hsz hk => wpAny_pyIter_zip hz ?_
  have I2 : Inv X pins σ H1 { s1 with heap := h' } := I1.kept (t' := s1.toks) hk
  refine ⟨s1.heap.objs.size + 4, [s1.heap.objs.size + 4, s1.heap.objs.size + 2, s1.heap.objs.size + 3, s1.heap.objs.size, s1.heap.objs.size + 1], _, _, H1, rfl, I2, turn_zipM (PySem.W.ktu_apart s1.heap.objs.size a b (Heap.lt_size ho1) p2.lt), ⟨hz, hTI, ⟨_, _, hTO⟩, ⟨_, h1, rfl, rfl⟩, ⟨_, h2, rfl, rfl⟩⟩, fun c hcm => ?_, q⟩
  have e' : c = s1.heap.objs.size + 4 ∨ c = s1.heap.objs.size + 2 ∨ c = s1.heap.objs.size + 3 ∨ c = s1.heap.objs.size ∨ c = s1.heap.objs.size + 1 := by simpa using hcm
  have hle : s1.heap.objs.size ≤ c := by
    rcases e' with z | z | z | z | z
    · rw [z]; exact Nat.le_add_right _ _
    · rw [z]; exact Nat.le_add_right _ _
    · rw [z]; exact Nat.le_add_right _ _
    · rw [z]; exact Nat.le_refl _
    · rw [z]; exact Nat.le_add_right _ _
  exact I1.fpOk hle (I1.hok.fresh hle)
theorem walk_zipM {K : PySem.W.Frag} {a b : Addr} {xs ys : List V} (hl : xs.length = ys.length) : Walk (IzM K a b) xs.length (fun H => SqT K H a xs ∧ SqL K H b ys) (YPair (fun i => xs[i]?) (fun i => ys[i]?)) := by
  refine ⟨fun i _ hi q => ?_, fun _ q => ⟨xs, ys, q.1, q.2, hl, rfl⟩, fun i H v H' _ q y => ?_⟩
  · have h2 : i < ys.length := by omega
    exact ⟨xs, ys, xs[i], ys[i], q.1, q.2, by simp [hi], by simp [h2]⟩
  · obtain ⟨T, x, z, h1, h2, h3, h4, h5⟩ := y
    exact ⟨T, x, z, h1, h2, h3, h4 xs q.1, h5 ys q.2⟩
/-- zip of two tuples, the second the shorter by one or of one length -/
theorem walk_zipT {K : PySem.W.Frag} {a b : Addr} {xs ys : List V} {n : Nat} (hn : n = min xs.length ys.length) : Walk (RZ.ItzT K a b) n (fun H => SqT K H a xs ∧ SqT K H b ys) (YPair (fun i => xs[i]?) (fun i => ys[i]?)) := by
  subst hn
  refine ⟨fun i _ hi q => ?_, fun _ q => ⟨xs, ys, q.1, q.2, by omega⟩, fun i H v H' _ q y => ?_⟩
  · have h1 : i < xs.length := by omega
    have h2 : i < ys.length := by omega
    exact ⟨xs, ys, xs[i], ys[i], q.1, q.2, by simp [h1], by simp [h2]⟩
  · obtain ⟨T, x, z, h1, h2, h3, h4, h5⟩ := y
    exact ⟨T, x, z, h1, h2, h3, h4 xs q.1, h5 ys q.2⟩

/-! ### (2,) * n -/
theorem tuple_mul1 (l : Addr) (items : Array Value) (n : Nat) (dd : Option Addr) (sl : Array (Option Value)) (u : Tok) :
    Meets (Builtin.«tuple.__mul__» ⟨[.ref l, .int 1 u], []⟩) (fun _ R s => s.heap.get? l = some { cls := .type "tuple", dict := dd, data := .seq items n, slots := sl } ∧ R (.ok (.ret (Value.ref l))) s) :=
  .of_wp fun prog w A R s h => by
    obtain ⟨hp, g, d, tk, os⟩ := s
    obtain ⟨hl, h⟩ := h
    have f1 := AutoSeq1.idx_int
    have c1 : (items.isEmpty || (1 : Int) == 1) = true := by simp
    wp_walk using AutoSeq1.wpAny_loadPart' hl
    repeat (first
      | exact ⟨_, rfl, h⟩
      | (refine wpAny_ite_true (decide_eq_true c1) ?_; wp_walk using AutoSeq1.wpAny_loadPart' hl)
      | (refine wpAny_ite_false (decide_eq_false (by decide)) ?_; wp_walk using AutoSeq1.wpAny_loadPart' hl))
def rRepN (K : PySem.W.Frag) : R2 := fun x y H Q => ∃ l n v, x = .ref l ∧ y = .int ((n : Nat) : Int) ∧ SqT K H l [v] ∧ 1 ≤ n ∧ n ≤ 1000 ∧ (n = 1 → Q (.ref l) H) ∧ (2 ≤ n → ∀ p, H p = none → Q (.ref p) (upd H p (.tup (List.replicate n v))))
theorem op_repN {X : Cx} : OpR X (binaryOp .Mult) (rRepN X.K) := by
  intro pins s σ H x y v u Q I rx ry h
  obtain ⟨l, n, z, rfl, rfl, hT, h1, h2, q1, q2⟩ := h
  by_cases hn : n = 1
  · subst hn
    cases rx
    obtain ⟨t, rfl⟩ := ry
    obtain ⟨its, r, ⟨⟨cls, dd, data, sl⟩, ho, hc, m, hd⟩, hs⟩ := I.tuple hT
    simp only at hc hd
    subst hc hd
    exact wpAny_binaryOp_repeat_ref (T := "tuple") (U := "int") (by decide) ⟨_, ho, rfl⟩ (fun s' => typeIs_int s' _ t) noFill_tuple_mul F.fills_int_mul F.slot_int_rmul repeat_tuple F.slot_int_index.lookup
      (call_meets F.slot_int_rmul (typeIs_int s _ t) F.entry_int_rmul (F.args_int_rmul_2 _ _) (int_rmul_tuple _ t l its.toArray m dd sl)
        ⟨ho, rfl, ⟨_, ho, rfl⟩, call_meets F.slot_tuple_mul ⟨_, ho, rfl⟩ F.entry_tuple_mul (F.args_tuple_mul_2 _ _) (tuple_mul1 l its.toArray m dd sl t) ⟨ho, ⟨.ref l, H, I, rfl, q1 rfl⟩⟩⟩)
  · refine op_repT pins s σ H _ _ v u Q I rx ry ⟨l, n, [z], rfl, rfl, hT, (fun e => by cases e), by omega, by omega, by show 1 ≤ 1000; decide, fun p hp => ?_⟩
    have e : (List.replicate ((n : Int)).toNat [z]).flatten = List.replicate n z := by
      rw [Int.toNat_natCast]
      clear hn q1 q2 h1 h2 ry
      induction n with
      | zero => rfl
      | succ n ih => rw [List.replicate_succ, List.flatten_cons, ih]; rfl
    rw [e]
    exact q2 (by omega) p hp

/-! ### len(set(xs)) of ints -/
def tLenSet (K : PySem.W.Frag) (ta : TE) : TE := fun σ H Q => ta σ H fun x H1 => ∃ (l : Addr) (ns : List Int), x = .ref l ∧ SqL K H1 l (ns.map V.int) ∧ ns.length ≤ 4000 ∧ Q (.int ((firstMet (fun i => ns.getD i 0) ns.length).length : Nat)) H1
theorem pe_lenSet {X : Cx} {a : Expr} {ta : TE} {p p2 q pos : Pos} (hm : X.mg "len" = none) (hm2 : X.mg "set" = none) (ha : PE X a ta) (hg : Gl X "len" := by rfl) (hg2 : Gl X "set" := by rfl) (hc : X.calm = true := by rfl)
    (na : starEach [a] X.env = (false, eval a X.env) :: starEach [] X.env := by rfl) : PE X (.Call (.Name "len" p) [.Call (.Name "set" p2) [a] [] q] [] pos) (tLenSet X.K ta) := by
  refine ⟨fun pins s σ H Q I h => ?_⟩
  refine Call_ (ld_blt I hg hm boot_len ?_)
  refine PyProof.Rows.callWith_builtin1 (PyProof.Rows.args_cons ?_ rfl) rfl rfl
  refine Call_ (ld_blt I hg2 hm2 boot_set ?_)
  refine PyProof.Rows.callWith_type1 (PyProof.Rows.args_cons (thn (ha.run pins s σ H _ I h) fun v s1 ⟨x, H1, I1, r1, q1⟩ => PyProof.Rows.args_nil ?_) na) na rfl
  obtain ⟨l, ns, rfl, hq, hl, q1⟩ := q1
  cases r1
  obtain ⟨its, r, pl, hz⟩ := I1.list hq
  have hlen : its.toArray.size = ns.length := by rw [List.size_toArray, ← r.length, List.length_map]
  refine call_set_list (I1.ok.hd hc) pl.isList (by simpa using RZ.intsAre_vals r) (by rw [hlen]; unfold scanBound; omega) fun h' tk hS hk => ?_
  refine PyProof.Rows.args_nil ?_
  rw [hlen] at hS
  obtain ⟨o, es, ep, t, ho, hex, hd, _, _, _, hf, hn⟩ := hS
  have I2 : Inv X pins σ H1 { s1 with heap := h', toks := tk } := I1.kept fun b o e => hk b o (Heap.lt_size e) e
  have hle := firstMet_length_le (fun i => ns.getD i 0) ns.length
  exact call_len_set ho hex hd hf (by rw [hn] <;> omega) ⟨.int ((firstMet (fun i => ns.getD i 0) ns.length).length : Nat), H1, I2.tok _, ⟨_, by rw [hn]⟩, q1⟩
end Fa

set_option Elab.async false
set_option linter.all false
set_option maxRecDepth 100000
set_option maxHeartbeats 4000000
/-! Entries (a number and a cube): their order, dicts that have them as keys, sorted of such a dict. -/
namespace Fa
open PySem PySem.Spec PyProof.Rows L2

abbrev Ent := Int × List Int
/-- the order of entries -/
def ltE (p q : Ent) : Prop := p.1 < q.1 ∨ (p.1 = q.1 ∧ p.2 < q.2)
instance (p q : Ent) : Decidable (ltE p q) := by unfold ltE; exact inferInstance
theorem ltE_irrefl (p : Ent) : ¬ ltE p p := fun h => by
  rcases h with h | ⟨_, h⟩
  · omega
  · exact List.lt_irrefl _ h
theorem ltE_trans {p q r : Ent} (h : ltE p q) (k : ltE q r) : ltE p r := by
  rcases h with h | ⟨e, h⟩ <;> rcases k with k | ⟨f, k⟩
  · exact .inl (by omega)
  · exact .inl (by omega)
  · exact .inl (by omega)
  · exact .inr ⟨e.trans f, List.lt_trans h k⟩
theorem ltE_total {p q : Ent} (h : ¬ ltE p q) (ne : p ≠ q) : ltE q p := by
  obtain ⟨a, c⟩ := p
  obtain ⟨b, d⟩ := q
  unfold ltE at h ⊢
  simp only at h ⊢
  by_cases e : a = b
  · subst e
    refine .inr ⟨rfl, ?_⟩
    have h1 : ¬ c < d := fun z => h (.inr ⟨rfl, z⟩)
    have h2 : d ≤ c := List.not_lt.mp h1
    rcases List.le_iff_lt_or_eq.mp h2 with z | z
    · exact z
    · exact absurd (by rw [z]) ne
  · exact .inl (by omega)

/-! ### the order as Python asks it -/
theorem lexAt_shift (e r : Nat → Bool) (z : Bool) : ∀ (k i : Nat), Ob.lexAt e r z (i + 1) k = Ob.lexAt (fun j => e (j + 1)) (fun j => r (j + 1)) z i k
  | 0, _ => rfl
  | k + 1, i => by
    rw [Ob.lexAt_succ, Ob.lexAt_succ, lexAt_shift e r z k (i + 1)]
theorem lexAt_ge : ∀ ns ms : List Int, Ob.lexAt (fun j => decide (ns.getD j 0 = ms.getD j 0)) (fun j => decide (ms.getD j 0 ≤ ns.getD j 0)) (decide (ns.length ≥ ms.length)) 0 (min ns.length ms.length) = !decide (ns < ms)
  | [], [] => by
    have h : ¬ ([] : List Int) < [] := List.lt_irrefl _
    simp [Ob.lexAt_zero]
  | [], m :: ms => by
    have e : min ([] : List Int).length (m :: ms).length = 0 := by simp
    rw [e, Ob.lexAt_zero]
    simp
  | n :: ns, [] => by
    have e : min (n :: ns).length ([] : List Int).length = 0 := by simp
    rw [e, Ob.lexAt_zero]
    simp
  | n :: ns, m :: ms => by
    have e : min (n :: ns).length (m :: ms).length = min ns.length ms.length + 1 := by simp only [List.length_cons]; omega
    rw [e, Ob.lexAt_succ]
    have ih := lexAt_ge ns ms
    by_cases h : n = m
    · subst h
      rw [if_pos (by simp), lexAt_shift]
      have e2 : decide ((n :: ns).length ≥ (n :: ms).length) = decide (ns.length ≥ ms.length) := by simp
      rw [e2]
      simp only [List.getD_cons_succ]
      rw [ih]
      simp [List.cons_lt_cons_iff]
    · rw [if_neg (by simp [h])]
      simp only [List.getD_cons_zero]
      simp only [List.cons_lt_cons_iff, h, false_and, or_false]
      by_cases h2 : n < m
      · simp [h2]
      · simp [h2]; omega

/-! ### entries in the heap -/
def EntA (H : Hp) (a : Addr) (e : Ent) : Prop := ∃ c, H a = some (.tup [.int e.1, .ref c]) ∧ H c = some (.tup (e.2.map V.int))
theorem EntA.keep {H H' : Hp} {a : Addr} {e : Ent} (x : EntA H a e) (ht : ∀ b ys, H b = some (.tup ys) → H' b = some (.tup ys)) : EntA H' a e := let ⟨c, h1, h2⟩ := x; ⟨c, ht _ _ h1, ht _ _ h2⟩
def nk (e : Ent) : NestedKey := .tup [.num e.1, .tup (e.2.map .num)]
theorem num_inj : ∀ {a b : List Int}, a.map NestedKey.num = b.map .num → a = b
  | [], [], _ => rfl
  | x :: a, y :: b, h => by
    injection h with h1 h2
    injection h1 with h3
    rw [h3, num_inj h2]
  | [], y :: b, h => by cases h
  | x :: a, [], h => by cases h
theorem nk_inj {p q : Ent} (h : nk p = nk q) : p = q := by
  obtain ⟨a, c⟩ := p
  obtain ⟨b, d⟩ := q
  unfold nk at h
  injection h with h
  injection h with h1 h2
  injection h1 with h1
  injection h2 with h2 _
  injection h2 with h2
  simp only at h1 h2
  rw [h1, num_inj h2]
theorem depth_nums : ∀ l : List Int, NestedKey.depthAll (l.map .num) = 0
  | [] => rfl
  | x :: l => by
    rw [List.map_cons]
    simp only [NestedKey.depthAll, NestedKey.depth, depth_nums l]
    rfl
theorem nk_depth (e : Ent) : (nk e).depth = 2 := by
  unfold nk
  simp only [NestedKey.depth, NestedKey.depthAll, depth_nums]
  rfl
theorem nums_all {h : Heap} : ∀ {l : List Int} {us : List Value}, Vals (l.map V.int) us → NestedAll h (l.map .num) us
  | [], _, .nil => .nil
  | n :: l, _, .cons r t => by
    obtain ⟨k, rfl⟩ := r
    exact .cons (.int n k) (nums_all t)
section
variable {P : Program} {w : World} {H : Hp} {h : Heap} {a : Addr}
theorem tup_at (ok : HOk P w H h) {xs : List V} (e : H a = some (.tup xs)) : ∃ its : List Value, Vals xs its ∧ ∃ (o : Obj) (n : Nat), h.get? a = some o ∧ o.cls = .type "tuple" ∧ o.data = .seq its.toArray n := by
  obtain ⟨_, its, r, o, h1, h2, n, h3⟩ := (show ObjOk P w H h a (.tup xs) from ok a _ e)
  exact ⟨its, r, o, n, h1, h2, h3⟩
theorem ent_is (ok : HOk P w H h) {e : Ent} (x : EntA H a e) : (nestedKind P w).is h (nk e) a := by
  obtain ⟨c, h1, h2⟩ := x
  obtain ⟨its, r, o, n, g1, g2, g3⟩ := tup_at ok h1
  obtain ⟨its2, r2, o2, n2, f1, f2, f3⟩ := tup_at ok h2
  refine ⟨?_, by rw [nk_depth]; decide⟩
  cases r with
  | cons q1 q2 =>
    cases q2 with
    | cons q2 q3 =>
      cases q3
      obtain ⟨t, rfl⟩ := q1
      cases q2
      exact .tup g1 g2 g3 (.cons (.int _ t) (.cons (.tup f1 f2 f3 (by simpa using nums_all r2)) .nil))
end

/-! ### p >= q -/
def rGeE : R2 := fun x y H Q => ∃ (a b : Addr) (p q : Ent), x = .ref a ∧ y = .ref b ∧ EntA H a p ∧ EntA H b q ∧ Q (.bl (!decide (ltE p q))) H
theorem cube_eq {P : Program} {w : World} {H : Hp} {s : Shared} (ok : HOk P w H s.heap) {a b : Addr} {ns ms : List Int} {A : Around} (ha : H a = some (.tup (ns.map V.int))) (hb : H b = some (.tup (ms.map V.int))) (hu : A.units + 3 < cLine) :
    SeqAt.EqAt A s (.ref a) (.ref b) (decide (ns = ms)) := by
  obtain ⟨i1, r1, o1, n1, g1, g2, g3⟩ := tup_at ok ha
  obtain ⟨i2, r2, o2, n2, f1, f2, f3⟩ := tup_at ok hb
  have k1 : NestedIs s.heap (.tup (ns.map .num)) (.ref a) := .tup g1 g2 g3 (by simpa using nums_all r1)
  have k2 : NestedIs s.heap (.tup (ms.map .num)) (.ref b) := .tup f1 f2 f3 (by simpa using nums_all r2)
  have d1 : (NestedKey.tup (ns.map .num)).depth = 1 := by simp only [NestedKey.depth, depth_nums]
  refine (eqAt_key _ _ A s _ _ k1 k2 (by rw [d1]; omega)).cast ?_
  rw [← NestedKey.decide_eq]
  by_cases e : ns = ms
  · subst e; simp
  · have e2 : ¬ (NestedKey.tup (ns.map .num) = .tup (ms.map .num)) := fun z => e (num_inj (by injection z))
    rw [decide_eq_false e, decide_eq_false e2]
theorem cube_ge {P : Program} {w : World} {H : Hp} {s : Shared} (ok : HOk P w H s.heap) {a b : Addr} {ns ms : List Int} {A : Around} (ha : H a = some (.tup (ns.map V.int))) (hb : H b = some (.tup (ms.map V.int))) (hu : A.units + 3 < cLine) :
    Ob.RcOp .GtE A s (.ref a) (.ref b) (!decide (ns < ms)) := by
  obtain ⟨i1, r1, o1, n1, g1, g2, g3⟩ := tup_at ok ha
  obtain ⟨i2, r2, o2, n2, f1, f2, f3⟩ := tup_at ok hb
  have j1 : IntsAre i1 ns := RZ.intsAre_vals r1
  have j2 : IntsAre i2 ms := RZ.intsAre_vals r2
  have e1 : i1.toArray.size = ns.length := by rw [List.size_toArray]; exact j1.length
  have e2 : i2.toArray.size = ms.length := by rw [List.size_toArray]; exact j2.length
  have at1 : ∀ j (h1 : j < i1.toArray.size), ∃ t, i1.toArray[j] = .int (ns.getD j 0) t := fun j h1 => PyProof.Rows.IntsAre.int_at j1 _ _ (by simp at h1; simp [h1])
  have at2 : ∀ j (h1 : j < i2.toArray.size), ∃ t, i2.toArray[j] = .int (ms.getD j 0) t := fun j h1 => PyProof.Rows.IntsAre.int_at j2 _ _ (by simp at h1; simp [h1])
  have R := Ob.RcOp.tuples_ge (A := A) (s := s) (l := a) (b := b) (items := i1.toArray) (items2 := i2.toArray) (e := fun j => decide (ns.getD j 0 = ms.getD j 0)) (r := fun j => decide (ms.getD j 0 ≤ ns.getD j 0)) ⟨o1, g1, g2, n1, g3⟩ ⟨o2, f1, f2, n2, f3⟩ (by omega) (fun j h1 h2 => by
    obtain ⟨t, et⟩ := at1 j h1
    obtain ⟨t', et'⟩ := at2 j h2
    rw [et, et']
    exact (SeqAt.EqAt.int_int _ _ _ _).cast (by rw [Bool.beq_eq_decide_eq])) (fun j h1 h2 _ => by
    obtain ⟨t, et⟩ := at1 j h1
    obtain ⟨t', et'⟩ := at2 j h2
    rw [et, et']
    exact Ob.RcOp.ge_int _ _ _ _)
  rw [e1, e2, lexAt_ge] at R
  exact R
theorem op_geE {X : Cx} (hu : X.A.units + 5 < cLine) : OpR X (compareOp .GtE) rGeE := by
  intro pins s σ H x y v u Q I rx ry hh
  obtain ⟨a, b, p, q, rfl, rfl, ⟨c, h1, h2⟩, ⟨d, k1, k2⟩, hq⟩ := hh
  cases rx
  cases ry
  obtain ⟨i1, r1, o1, n1, g1, g2, g3⟩ := tup_at I.hok h1
  obtain ⟨i2, r2, o2, n2, f1, f2, f3⟩ := tup_at I.hok k1
  cases r1 with
  | cons q1 q2 =>
  cases q2 with
  | cons q2 q3 =>
  cases q3
  obtain ⟨t1, rfl⟩ := q1
  cases q2
  cases r2 with
  | cons q1 q2 =>
  cases q2 with
  | cons q2 q3 =>
  cases q3
  obtain ⟨t2, rfl⟩ := q1
  cases q2
  have hin : X.A.in1.units = X.A.units + 1 := rfl
  have E1 := cube_eq (A := X.A.in1) I.hok h2 k2 (by rw [hin]; omega)
  have G1 := cube_ge (A := X.A.in1) I.hok h2 k2 (by rw [hin]; omega)
  have R := Ob.RcOp.tuples_ge (A := X.A) (s := s) (l := a) (b := b) (items := #[Value.int p.1 t1, Value.ref c]) (items2 := #[Value.int q.1 t2, Value.ref d])
    (e := fun j => if j = 0 then decide (p.1 = q.1) else decide (p.2 = q.2)) (r := fun j => if j = 0 then decide (q.1 ≤ p.1) else !decide (p.2 < q.2)) ⟨o1, g1, g2, n1, g3⟩ ⟨o2, f1, f2, n2, f3⟩ (by omega) (fun j a1 a2 => by
    have hj : j = 0 ∨ j = 1 := by have : j < 2 := a1; omega
    rcases hj with e | e <;> subst e
    · exact (SeqAt.EqAt.int_int _ _ _ _).cast (by rw [Bool.beq_eq_decide_eq]; rfl)
    · exact E1) (fun j a1 a2 _ => by
    have hj : j = 0 ∨ j = 1 := by have : j < 2 := a1; omega
    rcases hj with e | e <;> subst e
    · exact Ob.RcOp.ge_int _ _ _ _
    · exact G1)
  have z : Ob.lexAt (fun j => if j = 0 then decide (p.1 = q.1) else decide (p.2 = q.2)) (fun j => if j = 0 then decide (q.1 ≤ p.1) else !decide (p.2 < q.2)) (decide ((2 : Nat) ≥ 2)) 0 2 = !decide (ltE p q) := by
    rw [Ob.lexAt_succ, Ob.lexAt_succ, Ob.lexAt_zero]
    simp only [if_true, Nat.zero_add, (by decide : ¬ ((1 : Nat) = 0)), if_false]
    unfold ltE
    by_cases e : p.1 = q.1
    · by_cases e2 : p.2 = q.2
      · have n1 : ¬ q.2 < q.2 := List.lt_irrefl _
        simp [e, e2]
      · simp [e, e2]
    · by_cases e2 : p.1 < q.1
      · simp [e, e2]
      · simp [e, e2]; omega
  have R2 : Ob.RcOp .GtE X.A s (.ref a) (.ref b) (!decide (ltE p q)) := by
    rw [← z]
    exact R
  exact (show wpAny (model X.prog X.w) X.A (compareOp .GtE (.ref a) (.ref b)) (EP X pins σ Q) X.xe s from R2 X.prog X.w X.xe (EP X pins σ Q) ⟨.bl _, H, I, rfl, hq⟩)

/-! ### dicts whose keys are entries -/
def DNk (P : Program) (w : World) (a : Addr) (xs : List (NestedKey × Addr × Value)) : HO :=
  .ext fun h => (a == sysModules) = false ∧ xs.length ≤ sizeLine ∧ ∃ o es ep, h.get? a = some o ∧ o.ExactDict ∧ o.data = .dict es ep ∧ es.toList = xs.map (entryOfKey (nestedKind P w)) ∧ (xs.map (·.1)).Nodup
abbrev KN (H : Hp) : List (Ent × V) → List (NestedKey × Addr × Value) → Prop := Paired fun p q => nk p.1 = q.1 ∧ EntA H q.2.1 p.1 ∧ RelV p.2 q.2.2
/-- at a stands a dict with the entries kvs -/
def DictN (P : Program) (w : World) (H : Hp) (a : Addr) (kvs : List (Ent × V)) : Prop := ∃ xs, H a = some (DNk P w a xs) ∧ KN H kvs xs
section
variable {H H' : Hp} {kvs : List (Ent × V)} {xs : List (NestedKey × Addr × Value)}
theorem KN.keep (r : KN H kvs xs) (ht : ∀ b ys, H b = some (.tup ys) → H' b = some (.tup ys)) : KN H' kvs xs := Paired.mapP r fun _ _ z => ⟨z.1, z.2.1.keep ht, z.2.2⟩
theorem KN.val (r : KN H kvs xs) (e : Ent) : RelO (valV kvs e) ((atKey xs (nk e)).map (·.2)) := by
  induction r with
  | nil => exact True.intro
  | @cons p q ps qs h t ih =>
    obtain ⟨h1, _, h2⟩ := h
    by_cases k : p.1 = e
    · have k' : q.1 = nk e := by rw [← h1, k]
      have b : atKey (q :: qs) (nk e) = some q.2 := by simp [atKey, List.find?_cons, k']
      rw [valV_pos k, b]
      exact h2
    · have k' : ¬ q.1 = nk e := fun z => k (nk_inj (h1.trans z))
      have b : atKey (q :: qs) (nk e) = atKey qs (nk e) := by simp [atKey, List.find?_cons, k']
      rw [valV_neg k, b]
      exact ih
theorem KN.repl (r : KN H kvs xs) (e : Ent) {y : V} {u : Value} (ry : RelV y u) : KN H (kvs.map fun kv => if kv.1 = e then (kv.1, y) else kv) (xs.map (putAt (nk e) u)) := by
  induction r with
  | nil => exact .nil
  | @cons p q ps qs h t ih =>
    rw [List.map_cons, List.map_cons]
    refine .cons ?_ ih
    obtain ⟨h1, h2, h3⟩ := h
    unfold putAt
    by_cases k : p.1 = e
    · rw [if_pos k, if_pos (by rw [← h1, k])]; exact ⟨h1, h2, ry⟩
    · rw [if_neg k, if_neg (fun z => k (nk_inj (h1.trans z)))]; exact ⟨h1, h2, h3⟩
theorem KN.put (r : KN H kvs xs) (e : Ent) {b : Addr} {y : V} {u : Value} (hb : EntA H b e) (ry : RelV y u) : KN H (putK kvs e y) (storedH xs (nk e) b u) := by
  have z : (kvs.any fun kv => decide (kv.1 = e)) = (atKey xs (nk e)).isSome := by
    rw [valV_any, (r.val e).isSome_eq, Option.isSome_map]
  unfold putK storedH
  rw [z]
  by_cases q : (atKey xs (nk e)).isSome = true
  · rw [if_pos q, if_pos q]; exact r.repl e ry
  · rw [if_neg q, if_neg q]; exact Paired.snoc r ⟨rfl, hb, ry⟩
variable {P : Program} {w : World} {a : Addr} {h : Heap}
theorem DictN.keep (x : DictN P w H a kvs) (ha : H' a = H a) (ht : ∀ b ys, H b = some (.tup ys) → H' b = some (.tup ys)) : DictN P w H' a kvs := let ⟨xs, h1, r⟩ := x; ⟨xs, ha.trans h1, r.keep ht⟩
theorem DictN.same (x : DictN P w H a kvs) (e : Same H H') : DictN P w H' a kvs := let ⟨xs, h1, r⟩ := x; ⟨xs, e _ _ h1, r.keep fun b ys z => e b _ z⟩
theorem kn_is (ok : HOk P w H h) (r : KN H kvs xs) : ∀ x ∈ xs, (nestedKind P w).is h x.1 x.2.1 := by
  induction r with
  | nil => intro x hx; exact nomatch hx
  | @cons p q ps qs hq t ih =>
    intro x hx
    rcases List.mem_cons.mp hx with e | hx
    · subst e
      rw [← hq.1]
      exact ent_is ok hq.2.1
    · exact ih x hx
theorem dn_rd (ok : HOk P w H h) (e : H a = some (DNk P w a xs)) (r : KN H kvs xs) : (a == sysModules) = false ∧ xs.length ≤ sizeLine ∧ h.DictOfH (nestedKind P w) a xs := by
  have z := (show ObjOk P w H h a (DNk P w a xs) from ok a _ e).1
  obtain ⟨hd, hz, o, es, ep, h1, h2, h3, h4, h5⟩ := z
  exact ⟨hd, hz, o, es, ep, h1, h2, h3, h4, kn_is ok r, h5⟩
theorem dn_new (hd : (a == sysModules) = false) (hz : xs.length ≤ sizeLine) (x : h.DictOfH (nestedKind P w) a xs) : ObjOk P w H' h a (DNk P w a xs) := by
  obtain ⟨o, es, ep, h1, h2, h3, h4, _, h5⟩ := x
  refine ⟨⟨hd, hz, o, es, ep, h1, h2, h3, h4, h5⟩, ⟨o, h1⟩, fun a1 a2 q k => ?_⟩
  obtain ⟨hd, hz, o, es, ep, h1, r⟩ := q
  exact ⟨hd, hz, o, es, ep, k o h1, r⟩
end
section
variable {X : Cx} {pins : List (Addr × Obj)} {σ : L2.St} {H : Hp} {s : Shared} {a b : Addr} {e : Ent} {kvs : List (Ent × V)} {A : Around} {E : Value → Shared → Prop}
theorem n_get {v : V} {Q : Value → Shared → Prop} (hu : A.units + 9 < cLine) (I : Inv X pins σ H s) (g : DictN X.prog X.w H a kvs) (x : EntA H b e) (hv : valV kvs e = some v) (h : ∀ w' s', Inv X pins σ H s' → RelV v w' → Q w' s') :
    wpAny (model X.prog X.w) A (getItem (.ref a) (.ref b)) Q E s := by
  obtain ⟨xs, h1, r⟩ := g
  obtain ⟨hd, hz, dd⟩ := dn_rd I.hok h1 r
  obtain ⟨w', hw, rw'⟩ := RelO.some_of (v := v) (o := (atKey xs (nk e)).map (·.2)) (by rw [← hv]; exact r.val e)
  obtain ⟨p, hp, hp2⟩ := Option.map_eq_some_iff.mp hw
  refine wpAny_getItem_heap (show A.in1.units + 8 < cLine from by show A.units + 1 + 8 < cLine; omega) (ent_is I.hok x) dd hp ?_
  rw [hp2]
  exact h w' _ (I.tok _) rw'
theorem n_in {Q : Value → Shared → Prop} (hu : A.units + 9 < cLine) (I : Inv X pins σ H s) (g : DictN X.prog X.w H a kvs) (x : EntA H b e) (h : ∀ s', Inv X pins σ H s' → Q (.bool (valV kvs e).isSome) s') :
    wpAny (model X.prog X.w) A (compareOp .In (.ref b) (.ref a)) Q E s := by
  obtain ⟨xs, h1, r⟩ := g
  obtain ⟨hd, hz, dd⟩ := dn_rd I.hok h1 r
  refine wpAny_in_heap (show A.in1.units + 8 < cLine from by show A.units + 1 + 8 < cLine; omega) (ent_is I.hok x) hd dd ?_
  have q := (r.val e).isSome_eq
  rw [Option.isSome_map] at q
  rw [← q]
  exact h _ (I.tok _)
theorem n_notIn {Q : Value → Shared → Prop} (hu : A.units + 9 < cLine) (I : Inv X pins σ H s) (g : DictN X.prog X.w H a kvs) (x : EntA H b e) (h : ∀ s', Inv X pins σ H s' → Q (.bool (!(valV kvs e).isSome)) s') :
    wpAny (model X.prog X.w) A (compareOp .NotIn (.ref b) (.ref a)) Q E s := by
  obtain ⟨xs, h1, r⟩ := g
  obtain ⟨hd, hz, dd⟩ := dn_rd I.hok h1 r
  refine wpAny_notIn_heap (show A.in1.units + 8 < cLine from by show A.units + 1 + 8 < cLine; omega) (ent_is I.hok x) hd dd ?_
  have q := (r.val e).isSome_eq
  rw [Option.isSome_map] at q
  rw [← q]
  exact h _ (I.tok _)
/-- what stands behind a[b] = v -/
def PutN (P : Program) (w : World) (H : Hp) (a : Addr) (kvs : List (Ent × V)) (H' : Hp) : Prop := DictN P w H' a kvs ∧ ∀ c, c ≠ a → H' c = H c
theorem n_write {h' : Heap} {t' : Nat} {xs : List (NestedKey × Addr × Value)} {v : V} {r : Value} (I : Inv X pins σ H s) (h1 : H a = some (DNk X.prog X.w a xs)) (rel : KN H kvs xs) (x : EntA H b e) (rv : RelV v r) (hl : kvs.length < sizeLine) (hd : (a == sysModules) = false)
    (dd : h'.DictOfH (nestedKind X.prog X.w) a (storedH xs (nk e) b r)) (hs : Heap.SameBut a s.heap h') :
    ∃ H', PutN X.prog X.w H a (putK kvs e v) H' ∧ Inv X pins σ H' { s with heap := h', toks := t' } := by
  have hp : KN H (putK kvs e v) (storedH xs (nk e) b r) := rel.put e x rv
  have hz : (storedH xs (nk e) b r).length ≤ sizeLine := by
    rw [← Paired.length hp]
    have := length_putK kvs e v
    omega
  have nt : ∀ c ys, H c = some (.tup ys) → c ≠ a := fun c ys z q => by
    rw [q, h1] at z
    cases z
  obtain ⟨o, ho⟩ : ∃ o, h'.get? a = some o := let ⟨o, _, _, q, _⟩ := dd; ⟨o, q⟩
  refine ⟨upd H a (DNk X.prog X.w a (storedH xs (nk e) b r)), ⟨⟨_, upd_same, hp.keep fun c ys z => by rw [upd_ne (nt c ys z)]; exact z⟩, fun c hc => upd_ne hc⟩, ?_⟩
  exact d_write I (by rw [h1]; exact True.intro) hs ⟨o, ho⟩ (dn_new hd hz dd)
theorem n_put {v : V} {r : Value} {Q : Unit → Shared → Prop} (hu : A.units + 9 < cLine) (I : Inv X pins σ H s) (g : DictN X.prog X.w H a kvs) (x : EntA H b e) (rv : RelV v r) (hl : kvs.length < sizeLine)
    (h : ∀ H' s', PutN X.prog X.w H a (putK kvs e v) H' → Inv X pins σ H' s' → Q () s') : wpAny (model X.prog X.w) A (setItem (.ref a) (.ref b) r) Q E s := by
  obtain ⟨xs, h1, rel⟩ := g
  obtain ⟨hd, hz, dd⟩ := dn_rd I.hok h1 rel
  refine wpAny_setItem_heap (hsz := hz) (show A.in1.units + 8 < cLine from by show A.units + 1 + 8 < cLine; omega) (ent_is I.hok x) dd fun h' dd' hs => ?_
  obtain ⟨H', h2, h3⟩ := n_write (t' := s.toks + (nestedKind X.prog X.w).draws (nk e)) I h1 rel x rv hl hd dd' hs
  exact h H' _ h2 h3
/-- the same by a comprehension -/
theorem n_set {v : V} {r : Value} {Q : Unit → Shared → Prop} (hu : A.units + 9 < cLine) (I : Inv X pins σ H s) (g : DictN X.prog X.w H a kvs) (x : EntA H b e) (rv : RelV v r) (hl : kvs.length < sizeLine)
    (h : ∀ H' s', PutN X.prog X.w H a (putK kvs e v) H' → Inv X pins σ H' s' → Q () s') : wpAny (model X.prog X.w) A (dictSet a (.ref b) r) Q E s := by
  obtain ⟨xs, h1, rel⟩ := g
  obtain ⟨hd, hz, dd⟩ := dn_rd I.hok h1 rel
  refine wpAny_dictSet_heap (hsz := hz) (show A.units + 8 < cLine from by omega) (ent_is I.hok x) dd fun h' dd' hs => ?_
  obtain ⟨H', h2, h3⟩ := n_write (t' := s.toks + (nestedKind X.prog X.w).draws (nk e)) I h1 rel x rv hl hd dd' hs
  exact h H' _ h2 h3
end
/-! ### their readings -/
section
variable {X : Cx} {o i value : Expr} {td ty tv : TE} {pos pos' : Pos}
def tNGet (P : Program) (w : World) (td ty : TE) : TE := fun σ H Q => td σ H fun x H1 => ty σ H1 fun y H2 => ∃ a b kvs e v, x = .ref a ∧ y = .ref b ∧ DictN P w H2 a kvs ∧ EntA H2 b e ∧ valV kvs e = some v ∧ Q v H2
def tNIn (P : Program) (w : World) (ty td : TE) : TE := fun σ H Q => ty σ H fun y H1 => td σ H1 fun x H2 => ∃ a b kvs e, x = .ref a ∧ y = .ref b ∧ DictN P w H2 a kvs ∧ EntA H2 b e ∧ Q (.bl (valV kvs e).isSome) H2
def tNNotIn (P : Program) (w : World) (ty td : TE) : TE := fun σ H Q => ty σ H fun y H1 => td σ H1 fun x H2 => ∃ a b kvs e, x = .ref a ∧ y = .ref b ∧ DictN P w H2 a kvs ∧ EntA H2 b e ∧ Q (.bl (!(valV kvs e).isSome)) H2
def sNPut (P : Program) (w : World) (td ty tv : TE) : TS := fun D σ H => tv σ H fun v H1 => td σ H1 fun x H2 => ty σ H2 fun y H3 => ∃ a b kvs e, x = .ref a ∧ y = .ref b ∧ DictN P w H3 a kvs ∧ EntA H3 b e ∧ kvs.length < sizeLine ∧
  ∀ H4, PutN P w H3 a (putK kvs e v) H4 → D.nx σ H4
theorem n_typeIs {pins : List (Addr × Obj)} {σ : L2.St} {H : Hp} {s : Shared} {a : Addr} {kvs : List (Ent × V)} (I : Inv X pins σ H s) (g : DictN X.prog X.w H a kvs) : s.TypeIs (.ref a) "dict" := by
  obtain ⟨xs, h1, r⟩ := g
  exact (dn_rd I.hok h1 r).2.2.typeIs
theorem pe_nget (hu : X.A.units + 9 < cLine) (ho : PE X o td) (hi : PE X i ty) (hs : NoSl i := by exact fun _ _ => rfl) : PE X (.Subscript o i pos) (tNGet X.prog X.w td ty) := by
  refine ⟨fun pins s σ H Q I h => ?_⟩
  refine subD_of PySem.F.slot_dict_getitem.lookup hs (thn (ho.run pins s σ H _ I h) fun u s1 ⟨x, H1, I1, rx, q1⟩ => thn (hi.run pins s1 σ H1 _ I1 q1) fun iv s2 ⟨y, H2, I2, ry, a, b, kvs, e, z, ex, ey, g, x1, hv, q2⟩ => ?_)
  subst ex ey
  cases rx
  cases ry
  exact ⟨n_typeIs I2 g, n_get hu I2 g x1 hv fun w' s3 I3 rw' => ⟨z, H2, I3, rw', q2⟩⟩
theorem pc_nin (hu : X.A.units + 9 < cLine) (hi : PE X i ty) (ho : PE X o td) : PC X .In i o (tNIn X.prog X.w ty td) := by
  refine ⟨fun pins s σ H Q I h => bin hi ho I h fun v u s2 y x H2 I2 ry rx q => ?_⟩
  obtain ⟨a, b, kvs, e, rfl, rfl, g, x1, q⟩ := q
  cases rx
  cases ry
  exact n_in hu I2 g x1 fun s' I' => ⟨.bl _, H2, I', rfl, q⟩
theorem pc_nnotin (hu : X.A.units + 9 < cLine) (hi : PE X i ty) (ho : PE X o td) : PC X .NotIn i o (tNNotIn X.prog X.w ty td) := by
  refine ⟨fun pins s σ H Q I h => bin hi ho I h fun v u s2 y x H2 I2 ry rx q => ?_⟩
  obtain ⟨a, b, kvs, e, rfl, rfl, g, x1, q⟩ := q
  cases rx
  cases ry
  exact n_notIn hu I2 g x1 fun s' I' => ⟨.bl _, H2, I', rfl, q⟩
theorem ps_nput (hu : X.A.units + 9 < cLine) (ho : PE X o td) (hi : PE X i ty) (hv : PE X value tv) (hs : swapsWith value (some (.Subscript o i pos')) pos.line X.env = pure false := by rfl) :
    PS X (.Assign [.Subscript o i pos'] value pos) (sNPut X.prog X.w td ty tv) := by
  refine ⟨fun pins s σ H D I h => ?_⟩
  refine wpAny_Assign_Subscript (thn (hv.run pins s σ H _ I h) fun r s1 ⟨v, H1, I1, rv, q1⟩ => thn (ho.run pins s1 σ H1 _ I1 q1) fun u s2 ⟨x, H2, I2, rx, q2⟩ => thn (hi.run pins s2 σ H2 _ I2 q2) fun iv s3 ⟨y, H3, I3, ry, q3⟩ => ?_) hs
  obtain ⟨a, b, kvs, e, rfl, rfl, g, x1, hl, k⟩ := q3
  cases rx
  cases ry
  exact n_put hu I3 g x1 rv hl fun H4 s4 hp I4 => ⟨σ, H4, I4, k H4 hp⟩
/-- {} whose keys will be entries -/
def tNNew (P : Program) (w : World) : TE := fun _ H Q => ∀ p H', H p = none → DictN P w H' p [] → (∀ c, c ≠ p → H' c = H c) → Q (.ref p) H'
theorem dn_zero {P : Program} {w : World} {H' : Hp} {h : Heap} (hb : sysModules < h.objs.size) : ObjOk P w H' (h.push { cls := .type "dict", data := .dict #[] }) h.objs.size (DNk P w h.objs.size []) :=
  dn_new (beq_eq_false_iff_ne.mpr (Nat.ne_of_gt hb)) (Nat.zero_le _) (Heap.DictOfH.new h)
theorem pe_nnew : PE X (.Dict [] [] pos) (tNNew X.prog X.w) := ⟨fun pins s σ H Q I h => by
  refine wpAny_Dict_empty ?_
  exact ⟨.ref s.heap.objs.size, upd H s.heap.objs.size (DNk X.prog X.w s.heap.objs.size []), I.laid (t' := s.toks) (fun b o e => Heap.get?_push_of_some _ e) (Nat.le_refl _) (dn_zero I.big), rfl,
    h _ _ (I.hok.fresh (Nat.le_refl _)) ⟨[], upd_same, .nil⟩ fun c hc => upd_ne hc⟩⟩
end
end Fa

set_option Elab.async false
set_option linter.all false
set_option maxRecDepth 100000
set_option maxHeartbeats 4000000
/-! sorted of a dict that has entries as keys; a dict comprehension that makes such a dict. -/
namespace Fa
open PySem PySem.Spec PyProof.Rows L2 PySem.W

def enc (e : Ent) : PyData := .tuple [.int e.1, .tuple (e.2.map .int)]
theorem alike_enc (p q : Ent) : alike (enc p) (enc q) = true := by
  unfold enc
  simp only [alike, alikeAll, alike_ints, Bool.and_self]
theorem depth_enc (e : Ent) : (enc e).depth = 2 := by
  unfold enc
  simp only [PyData.depth, PyData.depthAll, depth_ints]
  rfl
theorem eqv_rows : ∀ xs ys : List Int, PyData.eqv (.tuple (xs.map .int)) (.tuple (ys.map .int)) = decide (xs = ys) := by
  intro xs
  induction xs with
  | nil =>
    intro ys
    cases ys with
    | nil => simp [PyData.eqv, PyData.eqvAll]
    | cons y ys => simp [PyData.eqv, PyData.eqvAll]
  | cons x xs ih =>
    intro ys
    cases ys with
    | nil => simp [PyData.eqv, PyData.eqvAll]
    | cons y ys =>
      have h := ih ys
      simp only [PyData.eqv, List.map_cons, PyData.eqvAll] at h ⊢
      rw [h]
      by_cases e : x = y
      · subst e; simp
      · simp [e]
theorem dataLt_enc (p q : Ent) : dataLt (enc p) (enc q) = decide (ltE p q) := by
  unfold enc ltE
  rw [dataLt_pair (by simp only [alike]) (by simp only [alike, alike_ints]), eqv_rows, dataLt_tuple, dataLt_int]
  have e3 : PyProof.Rows.lexLt itemOrd (keyToksAll (p.2.map .int)) (keyToksAll (q.2.map .int)) = decide (p.2 < q.2) := dataLt_ints p.2 q.2
  rw [e3]
  by_cases e : p.1 = q.1
  · have h1 : PyData.eqv (.int p.1) (.int q.1) = true := by simp [PyData.eqv, e]
    rw [if_pos h1]
    by_cases e2 : p.2 = q.2
    · have n1 : ¬ q.2 < q.2 := List.lt_irrefl _
      simp [e, e2]
    · simp [e, e2]
  · have h1 : ¬ PyData.eqv (.int p.1) (.int q.1) = true := by simp [PyData.eqv, e]
    rw [if_neg h1]
    simp [e]
def leE (p q : Ent) : Bool := !decide (ltE q p)
theorem dataLe_enc : dataLe false enc = leE := by
  funext p q
  rw [dataLe_eq]
  show (!dataLt (enc q) (enc p)) = _
  rw [dataLt_enc]
  rfl
theorem leE_trans (p q r : Ent) (h : leE p q = true) (k : leE q r = true) : leE p r = true := by
  unfold leE at *
  simp only [Bool.not_eq_true', decide_eq_false_iff_not] at *
  intro z
  by_cases e : q = r
  · subst e; exact h z
  · by_cases e2 : ltE q r
    · exact h (ltE_trans e2 z)
    · exact k (ltE_total e2 e)
theorem leE_total (p q : Ent) : (leE p q || leE q p) = true := by
  unfold leE
  by_cases h : ltE q p
  · have : ¬ ltE p q := fun z => ltE_irrefl _ (ltE_trans h z)
    simp [h, this]
  · simp [h]
theorem sorted_strict {l : List Ent} (hn : l.Nodup) : (l.mergeSort leE).Pairwise ltE := by
  have h1 := List.pairwise_mergeSort leE_trans (fun a b => by have := leE_total a b; simpa using this) l
  have h2 : (l.mergeSort leE).Nodup := (List.mergeSort_perm l leE).nodup_iff.mpr hn
  refine List.Pairwise.imp₂ (fun p q h ne => ?_) h1 h2
  have h3 : ¬ ltE q p := by
    unfold leE at h
    simpa using h
  exact ltE_total h3 (Ne.symm ne)

theorem each_ents {H : Hp} : ∀ {vs : List Value} {es : List Ent}, EachIs (fun v b => ∃ a, v = Value.ref a ∧ EntA H a b) vs es → ∃ refs : List Addr, vs = refs.map Value.ref ∧ Paired (fun r e => EntA H r e) refs es
  | _, _, .nil => ⟨[], rfl, .nil⟩
  | _, _, .cons h t => by
    obtain ⟨a, rfl, x⟩ := h
    obtain ⟨refs, rfl, r⟩ := each_ents t
    exact ⟨a :: refs, rfl, .cons x r⟩
theorem refs_vals : ∀ refs : List Addr, Vals (refs.map V.ref) (refs.map Value.ref)
  | [] => .nil
  | a :: r => .cons rfl (refs_vals r)
theorem ints_dp {K : PySem.W.Frag} {H : Hp} : ∀ l : List Int, DpAll K H (l.map V.int) (l.map .int)
  | [] => .nil
  | x :: l => .cons (.int x) (ints_dp l)
theorem ent_dp {K : PySem.W.Frag} {H : Hp} {a : Addr} {e : Ent} (x : EntA H a e) : Dp K H (.ref a) (enc e) := by
  obtain ⟨c, h1, h2⟩ := x
  exact .tup (SqT.of h1) (.cons (.int _) (.cons (.tup (SqT.of h2) (ints_dp _)) .nil))
def rSortN (P : Program) (w : World) : List V → Hp → VK → Prop := fun xs H Q => ∃ (a : Addr) (kvs : List (Ent × V)), xs = [.ref a] ∧ DictN P w H a kvs ∧ (kvs.map (·.1)).Nodup ∧
  ∀ (p : Addr) (es : List Ent) (refs : List Addr), H p = none → es.Perm (kvs.map (·.1)) → es.Pairwise ltE → Paired (fun r e => EntA H r e) refs es → Q (.ref p) (upd H p (.lst (refs.map V.ref)))
theorem kn_each {H : Hp} : ∀ {kvs : List (Ent × V)} {xs : List (NestedKey × Addr × Value)}, KN H kvs xs → EachIs (fun v b => ∃ a, v = Value.ref a ∧ EntA H a b) (xs.map fun x => Value.ref x.2.1) (kvs.map (·.1))
  | _, _, .nil => .nil
  | _, _, .cons h t => .cons ⟨_, rfl, h.2.1⟩ (kn_each t)
theorem each_reads {X : Cx} {pins : List (Addr × Obj)} {σ : L2.St} {H : Hp} {s : Shared} {h' : Heap} (I : Inv X pins σ H s) (hk : ∀ b o, s.heap.get? b = some o → h'.get? b = some o) {vs : List Value} {es : List Ent} (e : EachIs (fun v b => ∃ a, v = Value.ref a ∧ EntA H a b) vs es) :
    EachIs (fun v b => ∃ as, Reads h' v (enc b) as) vs es := e.mono fun v b ⟨a, hv, x⟩ => by
  subst hv
  obtain ⟨as, r⟩ := Dp.reads I (enc b) (.ref a) (.ref a) (ent_dp x) rfl
  exact ⟨as, PyProof.Rows.Reads.keeps hk r⟩
theorem call_sortN {X : Cx} (hcalm : X.calm = true) (hu : X.A.units + 10 < cLine) : CallR X (.builtin "sorted") (rSortN X.prog X.w) := by
  intro pins s σ H xs us Q I r q
  obtain ⟨a, kvs, ex, ⟨ks, h1, rel⟩, hnd, q⟩ := q
  subst ex
  obtain ⟨u, eu, rx⟩ := vals1 r
  subst eu
  cases rx
  obtain ⟨lo, hz, dd⟩ := dn_rd I.hok h1 rel
  obtain ⟨es, ep, hraw, hsz, hkey⟩ := dd.raw
  have h16 : es.size ≤ sizeLine := by rw [hsz]; exact hz
  refine Calls.call_function_entry PyProof.Rows.kind_sorted PyProof.Rows.plain_sorted PyProof.Rows.entry_sorted (PyProof.Rows.args_sorted1 _) ?_
  unfold Builtin.«sorted»
  refine wpAny_bind (m := checkCount "sorted" 1 1 _) (wpAny_pure ?_)
  refine wpAny_bind (PySem.W.kdu_collect (A := X.A.in1) (PySem.KdlSrc.rawDict (es := es) (ep := ep) lo) (I.ok.hd hcalm) hraw h16 fun h' tk acc hk hacc => ?_)
  have hal : acc.toList = ks.map fun x => Value.ref x.2.1 := by
    apply List.ext_getElem?
    intro j
    rw [List.getElem?_map]
    by_cases hj : j < es.size
    · obtain ⟨y, hy, hky, _, _⟩ := hkey j hj
      have hja : j < acc.size := by rw [hacc.1]; exact hj
      obtain ⟨_, ev⟩ := hacc.2 j acc[j] (by simp [hja])
      rw [Array.getElem?_toList, Array.getElem?_eq_getElem hja, ev, hky, hy]
      rfl
    · have h2 : ks[j]? = none := List.getElem?_eq_none (by omega)
      have h3 : acc.toList[j]? = none := List.getElem?_eq_none (by rw [Array.length_toList, hacc.1]; omega)
      rw [h2, h3]
      rfl
  have hlen : acc.toList.length = ks.length := by rw [hal, List.length_map]
  have I1 : Inv X pins σ H { s with heap := h', toks := tk } := I.kept hk
  refine wpAny_bind (wpAny_newList ?_ (by rw [hlen]; exact hz))
  have hoL : (h'.push (seqObj "list" acc.toList.toArray 0)).get? h'.objs.size = some (seqObj "list" acc.toList.toArray 0) := Heap.get?_push_size _ rfl
  show wpAny _ _ _ _ _ { s with heap := h'.push (seqObj "list" acc.toList.toArray 0), toks := tk }
  have e0 : EachIs (fun v b => ∃ a, v = Value.ref a ∧ EntA H a b) acc.toList (kvs.map (·.1)) := by rw [hal]; exact kn_each rel
  have kp : ∀ b o, h'.get? b = some o → (sortingHeap (h'.push (seqObj "list" acc.toList.toArray 0)) h'.objs.size acc.toList).get? b = some o := fun b o e =>
    sortingHeap_old (Nat.ne_of_lt (Heap.lt_size e)) (Heap.get?_push_of_some _ e)
  have er := each_reads (s := { s with heap := h', toks := tk }) I1 kp e0
  have hAl : AllAlike ((kvs.map (·.1)).map enc) := AllAlike.of alike_enc
  have hSo : Sortable ((kvs.map (·.1)).map enc) := Sortable.tuples fun b => ⟨_, _, rfl⟩
  have lk : (kvs.map (·.1)).length = ks.length := by rw [List.length_map]; exact Paired.length rel
  refine wpAny_bind (wpAny_holding (wpAny_call_entry slot_list_sort ⟨_, hoL, rfl⟩ entry_list_sort
    (list_sort_vals (κ := dataKind (sortingHeap (h'.push (seqObj "list" acc.toList.toArray 0)) h'.objs.size acc.toList) ((kvs.map (·.1)).map enc)) (s := { s with heap := h'.push (seqObj "list" acc.toList.toArray 0), toks := tk }) hoL
      (SortsAt.data (s := { s with heap := sortingHeap (h'.push (seqObj "list" acc.toList.toArray 0)) h'.objs.size acc.toList, toks := tk }) (each_map (R := fun v d => ∃ as, Reads (sortingHeap (h'.push (seqObj "list" acc.toList.toArray 0)) h'.objs.size acc.toList) v d as) enc er) hAl hSo
        (bound_map fun b _ => by rw [depth_enc]; have e1 : X.A.in1.units = X.A.units + 1 := rfl; have e2 : X.A.in1.in1.units = X.A.units + 2 := rfl; simp only [e1, e2]; omega))
      (by rw [hlen]; exact hz) ⟨_, rfl, ?_⟩) (args_list_sort _)))
  have es1 := sortVals_data false e0 er hAl
  rw [dataLe_enc] at es1
  obtain ⟨refs, hr, pr⟩ := each_ents es1
  rw [hr]
  obtain ⟨e', he'⟩ := PyProof.Rows.sortedHeap_at (vs := acc.toList) (out := (refs.map Value.ref).toArray) hoL
  have hpl := Paired.length pr
  have hml : ((kvs.map (·.1)).mergeSort leE).length = ks.length := by rw [List.length_mergeSort]; exact lk
  refine wpAny_pure ⟨_, rfl, .ref h'.objs.size, upd H h'.objs.size (.lst (refs.map V.ref)), I1.laid (t' := tk) (fun b u e => ?_) (Nat.le_refl _)
    (show ObjOk X.prog X.w _ _ _ (.lst (refs.map V.ref)) from ⟨by rw [List.length_map, hpl, hml]; exact hz, refs.map Value.ref, e', refs_vals refs, he'⟩), rfl, ?_⟩
  · have hb : b < h'.objs.size := Heap.lt_size e
    rw [PyProof.Rows.sortedHeap_old (Nat.ne_of_lt hb) (by rw [size_push']; exact Nat.lt_succ_of_lt hb)]
    exact Heap.get?_push_of_some _ e
  · exact q _ _ refs (I1.hok.fresh (Nat.le_refl _)) (List.mergeSort_perm _ _) (sorted_strict hnd) pr
end Fa

set_option Elab.async false
set_option linter.all false
set_option maxRecDepth 100000
set_option maxHeartbeats 4000000
/-! {k: v for x in t}, t a tuple, the keys entries. -/
namespace Fa
open PySem PySem.Spec PyProof.Rows L2

/-- D: the new dict; Pw: what holds at each turn of the heap -/
def tDcN (P : Program) (w : World) (wi : TI) (g : TG) (tk tv : TE) (vs : List Nat) : TE := fun σ H Q => wi σ H fun J H1 => ∀ D Hd, H1 D = none → DictN P w Hd D [] → (∀ c, c ≠ D → Hd c = H1 c) →
  ∃ Pw : Nat → Hp → Prop, ∃ n : Nat, Pw 0 Hd ∧ ∀ i H, Pw i H → (i = n → J.stop i H ∧ Q (.ref D) H) ∧ (i ≠ n → i < n ∧ J.go i H ∧ ∀ x H', J.yld i H x H' → g x (wipe σ vs) H' fun σ2 H2 => wipe σ2 vs = wipe σ vs ∧
    tk σ2 H2 fun y H3 => tv σ2 H3 fun z H4 => ∃ b kvs e, y = .ref b ∧ DictN P w H4 D kvs ∧ EntA H4 b e ∧ kvs.length < sizeLine ∧ ∀ H5, PutN P w H4 D (putK kvs e z) H5 → Pw (i + 1) H5)
section
variable {X : Cx} {kx vx tg iter : Expr} {scope : Scope} {own : List (Str × Nat)} {pos : Pos} {wi : TI} {g : TG} {tk tv : TE}
theorem pe_dcN (hc : X.calm = true) (hu : X.A.units + 9 < cLine) (hN : X.N.Nodup) (hi : PI X tg iter wi) (ok : BlkOk X.N X.env.scope scope own)
    (hg : ∀ (s1 : Shared) (G : Hp) (C : Addr) (cl : List (Str × Addr)) (fp : List Addr), PG (X.blk s1 G scope (compEnvC scope cl C X.env) fp) tg g)
    (hk : ∀ (s1 : Shared) (G : Hp) (C : Addr) (cl : List (Str × Addr)) (fp : List Addr), PE (X.blk s1 G scope (compEnvC scope cl C X.env) fp) kx tk)
    (hv : ∀ (s1 : Shared) (G : Hp) (C : Addr) (cl : List (Str × Addr)) (fp : List Addr), PE (X.blk s1 G scope (compEnvC scope cl C X.env) fp) vx tv) (hs : ∀ x, foldedSetIterable iter X.env x = pure x := by intro _; rfl) :
    PE X (.DictComp kx vx [⟨tg, iter, [], 0⟩] scope pos) (tDcN X.prog X.w wi g tk tv (own.map (·.2))) := by
  refine ⟨fun pins s σ H Q I hw => ?_⟩
  rw [arm_eval_DictComp]
  have captured : ∀ y ∈ scope.names, y.2 = .free → ∃ c, X.env.cells.lookup y.1 = some c := fun y hy e => by
    rcases ok.free y hy e with k | k
    · exact I.ok.has _ (.inl k)
    · exact I.ok.has _ (.inr k)
  refine wpAny_comprehension_free rfl hs (closure_ok captured) ok.kind (fun y hy e => by rw [ok.uniq y hy, e]) (thn (hi.run pins s σ H _ I hw) fun xv s1 hx => thn hx fun itv s2 hit => ?_)
  obtain ⟨it, fp, tn, J, H2, e, I2, T, st2, f2, q⟩ := hit
  subst e
  refine wpAny_newObj_type (newEnv_comp ?_)
  -- the dict, laid at the end of the heap
  generalize eD : s2.heap.objs.size = D
  have nD : H2 D = none := I2.hok.fresh (Nat.le_of_eq eD)
  have new0 : ObjOk X.prog X.w (upd H2 D (DNk X.prog X.w D [])) (s2.heap.push { cls := .type "dict", data := .dict #[] }) D (DNk X.prog X.w D []) := by
    rw [← eD]
    exact dn_zero I2.big
  obtain ⟨Pw, n, p0, turn⟩ := q D (upd H2 D (DNk X.prog X.w D [])) nD ⟨[], upd_same, .nil⟩ fun c hne => upd_ne hne
  generalize e3 : ({ s2 with heap := s2.heap.push { cls := .type "dict", data := .dict #[] } } : Shared) = s3
  generalize eG : upd H2 D (DNk X.prog X.w D []) = G at p0 new0
  have h3 : s3.heap = s2.heap.push { cls := .type "dict", data := .dict #[] } := by rw [← e3]
  have I3 : Inv X pins σ G s3 := by
    rw [← e3, ← eG]
    rw [← eG] at new0
    exact I2.laid (t' := s2.toks) (fun b o z => Heap.get?_push_of_some _ z) (Nat.le_of_eq eD) new0
  have below : ∀ b ∈ fp, b < s2.heap.objs.size := fun b hb => by
    obtain ⟨o, z, _⟩ := T.obj _ _ st2 b hb
    exact Heap.lt_size z
  have f3 : ∀ b ∈ fp, FpOk X pins G b ∧ b < s3.heap.objs.size := fun b hb => by
    have lt := below b hb
    refine ⟨⟨?_, (f2 b hb).2⟩, by rw [h3, Heap.size_push]; exact Nat.lt_succ_of_lt lt⟩
    rw [← eG, upd_ne (by rw [← eD]; exact Nat.ne_of_lt lt)]
    exact (f2 b hb).1
  have st3 : tn 0 s3.heap := T.keep _ _ _ st2 fun b _ o z => by rw [h3]; exact Heap.get?_push_of_some _ z
  have I4 := block_start I3 ok hN f3
  have rg := hg s3 G s3.heap.objs.size (cellsFrom (s3.heap.objs.size + 1) scope.names (cloFrom X.env.cells scope.names [])) fp
  have rk := hk s3 G s3.heap.objs.size (cellsFrom (s3.heap.objs.size + 1) scope.names (cloFrom X.env.cells scope.names [])) fp
  have rv := hv s3 G s3.heap.objs.size (cellsFrom (s3.heap.objs.size + 1) scope.names (cloFrom X.env.cells scope.names [])) fp
  show codeAny (model X.prog X.w) X.A (.compStart (.DictComp kx vx [⟨tg, iter, [], 0⟩] scope pos) 0 (.ref it) (.ref D) (compEnvC scope (cellsFrom (s3.heap.objs.size + 1) scope.names (cloFrom X.env.cells scope.names [])) s3.heap.objs.size X.env))
    (compPost (model X.prog X.w) X.A X.xe none (EP X pins σ Q) (.ref D) s3.heap.objs.size) { s3 with heap := pushCells (s3.heap.push { cls := .type "dict", data := .dict #[] }) scope.names }
  generalize ece : compEnvC scope (cellsFrom (s3.heap.objs.size + 1) scope.names (cloFrom X.env.cells scope.names [])) s3.heap.objs.size X.env = ce at I4 rg rk rv ⊢
  have cL : ce.locals = s3.heap.objs.size := by subst ece; rfl
  generalize e4 : ({ s3 with heap := pushCells (s3.heap.push { cls := .type "dict", data := .dict #[] }) scope.names } : Shared) = s4 at I4 ⊢
  have st4 : tn 0 s4.heap := T.keep _ _ _ st3 fun b _ o z => by rw [← e4]; exact pushCells_keeps _ _ _ _ (Heap.get?_push_of_some _ z)
  have nf : ∀ b ∈ fp, G b = none := fun b hb => (f3 b hb).1.1
  have stat : ∀ {σ1 : L2.St} {H1 : Hp} {t1 : Shared}, Inv (X.blk s3 G scope ce fp) [] σ1 H1 t1 → (∀ b ∈ fp, H1 b = none) → ∀ b ∈ fp, FpOk (X.blk s3 G scope ce fp) [] H1 b := fun {σ1 H1 t1} J1 hn b hb =>
    ⟨hn b hb, (J1.ok.exf b hb).1, J1.ok.exfs b hb, .inl hb, fun x c z => (J1.ok.exf b hb).2 x c z, fun p hp => absurd (show p ∈ ([] : List (Addr × Obj)) ++ [] from hp) (by simp)⟩
  have loop : codeAny (model X.prog X.w) X.A (.compLoop (.DictComp kx vx [⟨tg, iter, [], 0⟩] scope pos) 0 (.ref it) (.ref D) ce) (compPost (model X.prog X.w) X.A X.xe none (EP X pins σ Q) (.ref D) s3.heap.objs.size) s4 := by
    refine compLoop_anyD (fun m t => ∃ i H1, m = n - i ∧ Inv (X.blk s3 G scope ce fp) [] (wipe σ (own.map (·.2))) H1 t ∧ tn i t.heap ∧ (∀ b ∈ fp, H1 b = none) ∧ Pw i H1) ?_ n ⟨0, G, rfl, I4, st4, nf, p0⟩
    rintro m s5 ⟨i, H5, em, I5, st5, n5, w5⟩
    obtain ⟨ends, goes⟩ := turn i H5 w5
    by_cases hin : i = n
    · obtain ⟨stop, qq⟩ := ends hin
      refine thnF (T.done (X.blk s3 G scope ce fp) rfl rfl rfl hc i [] s5 _ H5 (fun _ _ => False) I5 (stat I5 n5) st5 stop) fun r s6 ⟨hr, I6⟩ => ?_
      subst hr
      have I7 : Inv X pins σ H5 s6 := I3.call' (ch := fp) I6.os I6.base I6.hok I6.bare fun b hb => ⟨(f3 b hb).1.2.2.2.1, (f3 b hb).1.2.1, (f3 b hb).1.2.2.2.2.1, (f3 b hb).1.2.2.2.2.2⟩
      have nC : H5 s3.heap.objs.size = none := by
        have z : H5 ce.locals = none := I6.free
        rw [cL] at z
        exact z
      obtain ⟨mp, hn, _⟩ := I6.loc
      have hn2 : s6.heap.Ns s3.heap.objs.size mp := by
        have z : s6.heap.Ns ce.locals mp := hn
        rw [cL] at z
        exact z
      refine ⟨mp, hn2, fun h9 sb => ?_⟩
      obtain ⟨a0, a1, a2, a3, a4, a5⟩ := I3.fpOk (Nat.le_refl _) nC
      exact ⟨.ref D, H5, I7.turned (t' := s6.toks) (fun b o hb z => (sb.2 b hb).trans z) a0 a1 a3 a4 a5, rfl, qq⟩
    · obtain ⟨hlt, go, step⟩ := goes hin
      refine thnF (T.item (X.blk s3 G scope ce fp) rfl rfl rfl hc i [] s5 _ H5 (fun _ _ => False) I5 (stat I5 n5) st5 go) fun r s6 ⟨u, hr, h6⟩ => ?_
      subst hr
      refine thnF h6 fun _ s7 ⟨x, H7, I7, r7, y7, st7, n7⟩ => ?_
      have I7' := I7.pinned (stat I7 n7) (T.obj _ _ st7)
      refine thnF (rg.run _ s7 _ H7 x u _ I7' r7 (step x H7 y7)) fun _ s8 ⟨σ8, H8, I8, hw8, q8⟩ => ?_
      refine thnF ((pts_nil (X := X.blk s3 G scope ce fp)).run _ s8 σ8 H8 _ I8 (show tYes σ8 H8 (fun b H9 => b = true ∧ H9 = H8) from ⟨rfl, rfl⟩)) fun b s9 ⟨H9, I9, eb, eH⟩ => ?_
      subst eb eH
      simp only [if_true]
      refine thnF (rk.run _ s9 σ8 H9 _ I9 q8) fun z s10 ⟨yk, H10, I10, r10, q10⟩ => ?_
      refine thnF (rv.run _ s10 σ8 H10 _ I10 q10) fun z2 s11 ⟨yv, H11, I11, r11, b, kvs, e, ek, dN, xE, hz, nx⟩ => ?_
      subst ek
      cases r10
      refine n_set (X := X.blk s3 G scope ce fp) (A := X.A) hu I11 dN xE r11 hz fun H12 s12 hput I12 => ?_
      have pin' : ∀ b ∈ fp, ∀ o, s7.heap.get? b = some o → s12.heap.get? b = some o ∧ H12 b = none := fun b hb o z =>
        let y := I12.pin (b, o) (List.mem_append_right _ (List.mem_append_right _ (mem_pinsAt hb z)))
        ⟨y.1, y.2.1⟩
      have hl : (wipe σ (own.map (·.2))).length = σ8.length := by rw [← hw8, wipe_length]
      refine ⟨n - (i + 1), by omega, i + 1, H12, rfl, (I12.unpinned (pins := [])).weak hl (fun j v z => ?_), T.keep _ _ _ st7 fun b hb o z => (pin' b hb o z).1, fun b hb => ?_, nx H12 hput⟩
      · rw [← hw8] at z
        exact (wipe_some z).1
      · obtain ⟨o, z, _⟩ := T.obj _ _ st7 b hb
        exact (pin' b hb o z).2
  exact codeAny_compStart_dict loop (T.self X.A 0 _ _ _ st4 loop)
end
end Fa

set_option Elab.async false
set_option linter.all false
set_option maxRecDepth 100000
set_option maxHeartbeats 4000000
/-! Defs whose promise asks that no repr is under way (repr of a list), and the end of a law row over such a def. -/
namespace Fa
open PySem PySem.Spec PyProof.Rows L2

/-- as FnOk without exceptions, where no repr is under way around the call -/
def FnG (P : Program) (w : World) (K : PySem.W.Frag) (mg : Str → Option Value) (base : Heap) (k : Nat) (f : Addr) (fd : FuncData) (ps : List Str) (sp : Sp) : Prop :=
  (∀ vs H Q E, sp vs H Q E → vs.length = ps.length) ∧
  ∀ (A : Around) (outer : List Env) (s : Shared) (H : Hp) (args : Args) (us : List Value) (vs : List V) (Q : VK) (E : XK), A.guards = some [] → Room k A → Env0 P w K mg base A outer s H → BindsTo s fd args (ps.zip us) → Vals vs us → sp vs H Q E →
    codeAny (model P w) A (.call (.ref f) args) (CR CX0 outer P w H s Q E) s
structure HasG (P : Program) (w : World) (K : PySem.W.Frag) (mg : Str → Option Value) (base : Heap) (x : Str) (ps : List Str) (k : Nat) (sp : Sp) : Prop where
  ex : ∃ (f : Addr) (fd : FuncData), FnG P w K mg base k f fd ps sp ∧ mg x = some (.ref f) ∧ PySem.W.keepIn K (.ref f) = true ∧ Binds K fd ps []
section
variable {P : Program} {w : World} {K : PySem.W.Frag} {mg : Str → Option Value} {base : Heap} {x : Str} {ps : List Str} {k j : Nat} {sp : Sp} {st : Stmt} {N : List Str}
theorem HasG.mono (F : HasG P w K mg base x ps k sp) (h : k ≤ j) : HasG P w K mg base x ps j sp := let ⟨f, fd, a, b, c, d⟩ := F.ex; ⟨f, fd, ⟨a.1, fun A outer s H args us vs Q E hg hr => a.2 A outer s H args us vs Q E hg (hr.mono h)⟩, b, c, d⟩
theorem fnG_of {f : Addr} {fd : FuncData} (F : Fun K x x st f fd) (S : FnScope N ps (defScope st)) (len : ∀ vs H Q E, sp vs H Q E → vs.length = ps.length)
    (body : ∀ (cdv : Value) (A : Around) (outer : List Env) (s : Shared) (H : Hp) (vs : List V) (Q : VK) (E : XK), A.guards = some [] → Room k (A.deeper (envOfC x (defScope st) s.heap.objs.size f cdv)) → sp vs H Q E →
      ∃ t, PSs (cxOf CX0 P w K mg base N x (defScope st) f cdv A outer s H E).nox (defBody st) t ∧ t { nx := fun _ H' => Q .non H', rt := Q } (start N vs) H) : FnG P w K mg base (k + 1) f fd ps sp := by
  obtain ⟨oc, od, kV, doc, pm, an, cdv, ct, osl, rfl, lk, hcd⟩ := F.ex
  refine ⟨len, fun A outer s H args us vs Q E hg hr e0 hb r hsp => ?_⟩
  have back : ∀ b o, base.get? b = some o → s.heap.get? b = some o := fun b o e => (e0.bs b o e).1
  have KX : K.In s.heap := e0.mod.kin.keeps back
  have named : ∀ y ∈ ps.zip us, (defScope st).names.lookup y.1 = some .local ∨ ((defScope st).names.lookup y.1 = some .cell ∧ ((cellsFrom (s.heap.objs.size + 1) (defScope st).names []).lookup y.1).isSome = true) := fun ⟨n, v⟩ hy => by
    rcases S.par n (List.of_mem_zip hy).1 with q | q
    · exact .inl q
    · exact .inr ⟨q, PySem.W.cellsFrom_some _ _ _ (.inl q)⟩
  have lo := len _ _ _ _ hsp
  refine codeAny_call_function hr.depth (KX _ _ lk) rfl S.co S.gen rfl (PySem.W.codeRec_of KX hcd) (hb _ _ _ _ (wpAny_newFunctionEnv_cells S.kind named fun env he s1 into => ?_))
  subst he
  refine ⟨(e0.mod.nolimit.keeps back).keeps into.toInCall.keep, codeAny_func ?_⟩
  obtain ⟨t, ht0, hq⟩ := body cdv A outer s H vs Q E hg (hr.deeper _) hsp
  have ht := ht0.nox
  have I := inv_start (CX := CX0) (P := P) (w := w) (mg := mg) (base := base) (E := E) S hr.hd e0 lo r into
  have ending : ∀ {σ1 : L2.St} {H1 : Hp} {v : V} {u : Value} {s2 : Shared}, Inv (cxOf CX0 P w K mg base N x (defScope st) f cdv A outer s H E) [] σ1 H1 s2 → RelV v u → Q v H1 → CE outer P w H s Q u s2 :=
    fun {σ1 H1 v u s2} J rv q => ⟨v, H1, J.os, J.bare, J.base, J.hok, rv, q⟩
  refine wpAny_mono (ht.run [] s1 (start N vs) H _ I hq) (fun fl s2 hs => ?_) fun e s2 hs => hs
  cases fl with
  | next => obtain ⟨σ1, H1, J, q⟩ := hs; exact ending (v := V.non) (u := Value.none) J rfl q
  | ret u => obtain ⟨v, σ1, H1, J, rv, q⟩ := hs; exact ending J rv q
  | brk => obtain ⟨_, _, _, q⟩ := hs; exact False.elim q
  | cont => obtain ⟨_, _, _, q⟩ := hs; exact False.elim q
theorem DefAt.okG (D : DefAt K mg x st ps) (S : FnScope N ps (defScope st)) (len : ∀ vs H Q E, sp vs H Q E → vs.length = ps.length)
    (body : ∀ (f : Addr) (cdv : Value) (A : Around) (outer : List Env) (s : Shared) (H : Hp) (vs : List V) (Q : VK) (E : XK), A.guards = some [] → Room k (A.deeper (envOfC x (defScope st) s.heap.objs.size f cdv)) → sp vs H Q E →
      ∃ t, PSs (cxOf CX0 P w K mg base N x (defScope st) f cdv A outer s H E).nox (defBody st) t ∧ t { nx := fun _ H' => Q .non H', rt := Q } (start N vs) H) : HasG P w K mg base x ps (k + 1) sp := by
  obtain ⟨f, fd, F, m, b⟩ := D.ex
  exact ⟨f, fd, fnG_of F S len (body f), m, F.kp, b⟩
end
section
variable {X : Cx} {x : Str} {p pos : Pos} {ps : List Str} {k : Nat} {sp : Sp} {e : Expr} {es : List Expr} {t : TA}
theorem pe_hasG (hgd : X.A.guards = some []) (F : HasG X.prog X.w X.K X.mg X.base x ps k sp) (hr : Room k X.A) (ha : PA X (e :: es) t) (hg : Gl X x := by rfl) (hdb : (x == ("__debug__" : Str)) = false := by decide)
    (he : starEach (e :: es) X.env = (false, eval e X.env) :: starEach es X.env := by rfl) (hpl : (backTo pos (starEach es X.env)).any (·.1) = false := by rfl) : PE X (.Call (.Name x p) (e :: es) [] pos) (tCall sp [] E0 t) := by
  obtain ⟨f, fd, G, m, kp, b⟩ := F.ex
  refine ⟨fun pins s σ H Q I h => wpAny_Call_Name_kw (ld_glob I hg m ?_ hdb)⟩
  refine PySem.W.callWith_K (h₀ := X.base) I.ok.mod.kin kp (thn (ha.run pos pins s σ H _ I h) fun us s1 ⟨vs, H1, I1, r, q⟩ => ⟨I1.kIn, ?_⟩) he hpl
  have q0 : sp vs H1 Q E0 := by
    have z : sp (vs ++ []) H1 Q E0 := q
    rw [List.append_nil] at z
    exact z
  have hl : us.length = ps.length := by rw [← r.length]; exact G.1 _ _ _ _ q0
  have bind : BindsTo s1 fd ⟨us, []⟩ (ps.zip us) := by
    have z := b s1 us I1.kIn (by rw [List.append_nil]; exact hl)
    rw [List.append_nil] at z
    exact z
  refine wpAny_call (codeAny_mono (G.2 X.A X.stack s1 H1 ⟨us, []⟩ us vs Q E0 hgd hr I1.env0 bind r q0) fun res s2 hq => ?_)
  cases res with
  | error e => exact False.elim hq
  | ok fl =>
    cases fl with
    | ret u => exact I1.after hq
    | next => exact False.elim hq
    | brk => exact False.elim hq
    | cont => exact False.elim hq
end
/-- repr(x): of an int, of data -/
def rRepr (K : PySem.W.Frag) : List V → Hp → VK → Prop := fun xs H Q => (∃ i, xs = [.int i] ∧ i.natAbs.log2 < 1920 ∧ Q (.str (toString i)) H) ∨
  ∃ a d, xs = [.ref a] ∧ Dp K H (.ref a) d ∧ d.showable = true ∧ d.hasDict = false ∧ d.depth ≤ 4 ∧ d.shown.length ≤ 1000 ∧ Q (.str d.shown) H
theorem call_reprG {X : Cx} (hgd : X.A.guards = some []) (hu : X.A.units + 10 < cLine) : CallR X (.builtin "repr") (rRepr X.K) := by
  intro pins s σ H xs us Q I r h
  rcases h with h | ⟨a, d, ex, hd, h1, h2, h3, h4, q⟩
  · exact SkE.call_repr_int pins s σ H xs us Q I r h
  · subst ex
    obtain ⟨u, rfl, rx⟩ := vals1 r
    cases rx
    obtain ⟨as, rd⟩ := Dp.reads I d (.ref a) (.ref a) hd rfl
    exact repr_of_reads' rd h1 (fun z => by rw [h2] at z; cases z) hgd (by omega) (fun _ _ z => z) (fun h' u tk hk => ⟨.str d.shown, H, I.kept (t' := tk) hk, ⟨u, rfl⟩, q⟩) (by rw [sizeLine_eq]; omega)

/-! ### the law's row -/
theorem law_atG {P : Program} {w : World} {K : PySem.W.Frag} {mg mb : Str → Option Value} {k : Nat} {fa a : Addr} {fd : FuncData} {x : Str} {sp : Sp} {s1 : Shared} {vs : List Value} {ns : List Int}
    (KX : K.In s1.heap) (hns : s1.heap.Ns mainGlobals mg) (hb : s1.heap.Ns builtinsNs mb) (hbb : ∀ x : Str, x ≠ "__name__" → mb x = bootBuiltins x) (hlim : s1.heap.NoLimit) (hg : s1.gens = #[])
    (ha : s1.heap.get? a = some { cls := .type "list", data := .seq vs.toArray }) (hi : IntsAre vs ns) (hl : ns.length ≤ sizeLine) (hr : Room k callerA)
    (F : ∀ base : Heap, K.In base → base.Ns mainGlobals mg → FnG P w K mg base k fa fd [x] sp) (hbind : ∀ (s : Shared) (u : Value), BindsTo s fd ⟨[u], []⟩ [(x, u)])
    (hsp : ∀ H : Hp, SqL K H a (ns.map V.int) → sp [.ref a] H (fun v _ => v = .bl true) E0) :
    codeAny (model P w) callerA (.call (.ref fa) ⟨[.ref a], []⟩) (fun r s' => r = .ok (.ret (.bool true)) ∧ OldK s1.heap s'.heap ∧ s'.os = s1.os ∧ AllBare s'.gens) s1 := by
  have rv := vals_ints hi
  -- the script is tracked as a known object, or it is one of the module's own
  have main : ∀ H : Hp, (∀ b o, H b = some o → b = a ∧ o = .frz { cls := .type "list", data := .seq vs.toArray } (.lst (ns.map V.int)) ∧ K.lookup a = none) → SqL K H a (ns.map V.int) →
      codeAny (model P w) callerA (.call (.ref fa) ⟨[.ref a], []⟩) (fun r s' => r = .ok (.ret (.bool true)) ∧ OldK s1.heap s'.heap ∧ s'.os = s1.os ∧ AllBare s'.gens) s1 := by
    intro H only hS
    have hok : HOk P w H s1.heap := fun b o z => by
      obtain ⟨rfl, rfl, _⟩ := only b o z
      exact ⟨ha, by rw [List.length_map]; exact hl, vs, _, rv, ha⟩
    have free : ∀ {b : Addr} {o : Obj} {es : Array DictEntry} {ep : Nat}, s1.heap.get? b = some o → o.data = .dict es ep → H b = none := fun {b o es ep} z d => by
      cases q : H b with
      | none => rfl
      | some u =>
        obtain ⟨rfl, _, _⟩ := only b u q
        rw [ha] at z
        cases z
        cases (show Data.seq vs.toArray _ = Data.dict es ep from d)
    have ns' : ∀ {b : Addr} {m : Str → Option Value}, s1.heap.Ns b m → (hidT s1.heap H).Ns b m := fun {b m} ⟨o, es, ep, z, d, r⟩ => ⟨o, es, ep, hidT_get z (free z d), d, r⟩
    have kin : K.In (hidT s1.heap H) := fun b o z => hidT_get (KX b o z) (by
      cases q : H b with
      | none => rfl
      | some u =>
        obtain ⟨rfl, _, kn⟩ := only b u q
        rw [kn] at z
        cases z)
    have md : Mod K mg (hidT s1.heap H) := ⟨kin, ns' hns, ⟨mb, ns' hb, hbb⟩, let ⟨mc, h1, h2⟩ := hlim; ⟨mc, ns' h1, h2⟩⟩
    have e0 : Env0 P w K mg (hidT s1.heap H) callerA [] s1 H := ⟨rfl, md, fun b o z => of_hidT z, Nat.le_of_eq (hidT_size _ _), trivial, fun b z => absurd (show b ∈ ([] : List Addr) from z) (by simp), hok, .of_eq hg⟩
    refine codeAny_mono ((F _ kin (ns' hns)).2 callerA [] s1 H ⟨[.ref a], []⟩ [.ref a] [.ref a] _ E0 rfl hr e0 (hbind s1 (.ref a)) (.cons rfl .nil) (hsp H hS)) fun r s' res => ?_
    cases r with
    | error e => exact False.elim res
    | ok fl =>
      cases fl with
      | next => exact False.elim res
      | brk => exact False.elim res
      | cont => exact False.elim res
      | ret u =>
        obtain ⟨v, H', os, bare, un, hok', r', q⟩ := res
        have q' : v = .bl true := q
        subst q'
        cases (show u = Value.bool true from r')
        refine ⟨rfl, OldK.of_keep fun b o z => ?_, os, bare⟩
        cases hb1 : H b with
        | none => exact un.keep b o z hb1 (by intro m; exact absurd (show b ∈ ([] : List Addr) from m) (by simp)) (by simp)
        | some w1 =>
          obtain ⟨rfl, rfl, _⟩ := only b w1 hb1
          obtain ⟨e1, _⟩ := hok b _ hb1
          obtain ⟨e2, _⟩ := hok' b _ (un.frzs b _ _ hb1)
          rw [z] at e1
          cases e1
          exact e2
  cases hk : K.lookup a with
  | some o =>
    have e := KX a o hk
    rw [ha] at e
    cases e
    exact main (fun _ => none) (fun b o z => by cases z) (.inr ⟨_, vs.toArray, _, hk, rfl, rfl, rfl, by rw [List.size_toArray, hi.length]; exact hl, by simpa using rv⟩)
  | none =>
    refine main (fun b => if b = a then some (.frz { cls := .type "list", data := .seq vs.toArray } (.lst (ns.map V.int))) else none) (fun b o z => ?_) (.inl (.inr ⟨_, if_pos rfl⟩))
    by_cases hb1 : b = a
    · rw [if_pos hb1] at z
      exact ⟨hb1, (Option.some.inj z).symm, hk⟩
    · rw [if_neg hb1] at z
      cases z
theorem walk_ofG {l : PySem.W.OpenLaw} {n k : Nat} {q : Program} {loose : List Str} {XP : (Str → Option Value) → Heap → Prop} {YP : World → Heap → Prop} {d : DefRec} {K : Params → PySem.W.Frag} {sp : PySem.W.Frag → Sp} {x : Str}
    (hn : l.most = some n) (hn2 : n ≤ sizeLine) (hdf : d.params.defaults = []) (hr : Room k callerA) (hY : ∀ (w : World) (h : Heap), YP w h → (K w.params).In h)
    (F : ∀ (w : World) (mg : Str → Option Value) (fa : Addr) (h : Heap), (K w.params).In h → h.Ns mainGlobals mg → mg d.name = some (.ref fa) →
      ∃ fd : FuncData, (∀ (s : Shared) (u : Value), BindsTo s fd ⟨[u], []⟩ [(x, u)]) ∧ ∀ base : Heap, (K w.params).In base → base.Ns mainGlobals mg → FnG l.prog w (K w.params) mg base k fa fd [x] (sp (K w.params)))
    (hsp : ∀ (K : PySem.W.Frag) (H : Hp) (a : Addr) (ns : List Int), ns.length ≤ n → (∀ z ∈ ns, Builtin.Int.intBits z ≤ 1048576) → SqL K H a (ns.map V.int) → sp K [.ref a] H (fun v _ => v = .bl true) E0) :
    PySem.W.WalkO q loose XP YP l.row.toRowW d [] (fun f vs => PySem.call f vs) := by
  refine Att.attach_callB hn hdf fun w s0 s1 mg mb fa o pm cd doc a vs ns G Y ho hd hcd hmg hobj hints hlen hbits hg => ?_
  obtain ⟨fd, hb, hF⟩ := F w mg fa _ (hY w _ Y) G.T.g hmg
  exact law_atG (hY w _ Y) G.T.g G.T.b G.T.builtins G.T.nolimit hg hobj hints (Nat.le_trans hlen hn2) hr hF hb fun H hS => hsp (K w.params) H a ns hlen hbits hS
end Fa

set_option Elab.async false
set_option linter.all false
set_option maxRecDepth 100000
set_option maxHeartbeats 4000000
/-! The text by places; what the top leaves. -/
namespace Fa
open PySem PySem.Spec PyProof.Rows L2
def topS (i : Nat) : Stmt := PySem.Challenge.pw_saidbetween_k69_whole_the_fewest_asks.main.body.getD i (.Pass ⟨0, 0, 0, 0⟩)
abbrev s_is_from : Stmt := topS 9
abbrev n_is_from : List Str := ["value", "low", "high"]
theorem sc_is_from : FnScope n_is_from ["value", "low", "high"] (defScope s_is_from) := ⟨rfl, rfl, rfl, by decide +kernel, rfl, by decide +kernel, by decide +kernel⟩
abbrev s_check_many : Stmt := topS 10
abbrev n_check_many : List Str := ["value"]
theorem sc_check_many : FnScope n_check_many ["value"] (defScope s_check_many) := ⟨rfl, rfl, rfl, by decide +kernel, rfl, by decide +kernel, by decide +kernel⟩
abbrev s_check_values : Stmt := topS 11
abbrev n_check_values : List Str := ["many", "value", "row", "item"]
theorem sc_check_values : FnScope n_check_values ["many", "value"] (defScope s_check_values) := ⟨rfl, rfl, rfl, by decide +kernel, rfl, by decide +kernel, by decide +kernel⟩
abbrev s_bit_so : Stmt := topS 12
abbrev n_bit_so : List Str := ["row", "place"]
theorem sc_bit_so : FnScope n_bit_so ["row", "place"] (defScope s_bit_so) := ⟨rfl, rfl, rfl, by decide +kernel, rfl, by decide +kernel, by decide +kernel⟩
abbrev s_is_ask : Stmt := topS 19
abbrev n_is_ask : List Str := ["value"]
theorem sc_is_ask : FnScope n_is_ask ["value"] (defScope s_is_ask) := ⟨rfl, rfl, rfl, by decide +kernel, rfl, by decide +kernel, by decide +kernel⟩
abbrev s_walked_tree : Stmt := topS 20
abbrev n_walked_tree : List Str := ["many", "value", "path", "met", "more"]
theorem sc_walked_tree : FnScope n_walked_tree ["many", "value", "path", "met"] (defScope s_walked_tree) := ⟨rfl, rfl, rfl, by decide +kernel, rfl, by decide +kernel, by decide +kernel⟩
abbrev s_check_tree : Stmt := topS 21
abbrev n_check_tree : List Str := ["many", "value"]
theorem sc_check_tree : FnScope n_check_tree ["many", "value"] (defScope s_check_tree) := ⟨rfl, rfl, rfl, by decide +kernel, rfl, by decide +kernel, by decide +kernel⟩
abbrev s_asked_so : Stmt := topS 22
abbrev n_asked_so : List Str := ["tree", "row", "found", "here", "bit"]
theorem sc_asked_so : FnScope n_asked_so ["tree", "row"] (defScope s_asked_so) := ⟨rfl, rfl, rfl, by decide +kernel, rfl, by decide +kernel, by decide +kernel⟩
abbrev s_tells_values : Stmt := topS 23
abbrev n_tells_values : List Str := ["values", "tree", "row", "value"]
theorem sc_tells_values : FnScope n_tells_values ["values", "tree"] (defScope s_tells_values) := ⟨rfl, rfl, rfl, by decide +kernel, rfl, by decide +kernel, by decide +kernel⟩
abbrev s_is_tree_so : Stmt := topS 24
abbrev n_is_tree_so : List Str := ["many", "values", "value"]
theorem sc_is_tree_so : FnScope n_is_tree_so ["many", "values", "value"] (defScope s_is_tree_so) := ⟨rfl, rfl, rfl, by decide +kernel, rfl, by decide +kernel, by decide +kernel⟩
abbrev s_cube_so : Stmt := topS 25
abbrev n_cube_so : List Str := ["many"]
theorem sc_cube_so : FnScope n_cube_so ["many"] (defScope s_cube_so) := ⟨rfl, rfl, rfl, by decide +kernel, rfl, by decide +kernel, by decide +kernel⟩
abbrev s_free_bits : Stmt := topS 26
abbrev n_free_bits : List Str := ["cube", "place", "thing"]
theorem sc_free_bits : FnScope n_free_bits ["cube"] (defScope s_free_bits) := ⟨rfl, rfl, rfl, by decide +kernel, rfl, by decide +kernel, by decide +kernel⟩
abbrev s_half_so : Stmt := topS 27
abbrev n_half_so : List Str := ["cube", "place", "bit"]
theorem sc_half_so : FnScope n_half_so ["cube", "place", "bit"] (defScope s_half_so) := ⟨rfl, rfl, rfl, by decide +kernel, rfl, by decide +kernel, by decide +kernel⟩
abbrev s_halves_of : Stmt := topS 28
abbrev n_halves_of : List Str := ["cube", "place"]
theorem sc_halves_of : FnScope n_halves_of ["cube", "place"] (defScope s_halves_of) := ⟨rfl, rfl, rfl, by decide +kernel, rfl, by decide +kernel, by decide +kernel⟩
abbrev s_kinds_so : Stmt := topS 29
abbrev n_kinds_so : List Str := ["values", "cube", "known", "places", "row", "near", "far", "place", "bit"]
theorem sc_kinds_so : FnScope n_kinds_so ["values", "cube", "known"] (defScope s_kinds_so) := ⟨rfl, rfl, rfl, by decide +kernel, rfl, by decide +kernel, by decide +kernel⟩
abbrev s_fewest_so : Stmt := topS 30
abbrev n_fewest_so : List Str := ["values", "cube", "kinds", "known", "best", "place", "near", "far", "here"]
theorem sc_fewest_so : FnScope n_fewest_so ["values", "cube", "kinds", "known"] (defScope s_fewest_so) := ⟨rfl, rfl, rfl, by decide +kernel, rfl, by decide +kernel, by decide +kernel⟩
abbrev s_tree_so : Stmt := topS 31
abbrev n_tree_so : List Str := ["cube", "kinds", "known", "place", "near", "far"]
theorem sc_tree_so : FnScope n_tree_so ["cube", "kinds", "known"] (defScope s_tree_so) := ⟨rfl, rfl, rfl, by decide +kernel, rfl, by decide +kernel, by decide +kernel⟩
abbrev s_entries_so : Stmt := topS 32
abbrev n_entries_so : List Str := ["cube", "known", "left", "found", "asks", "here", "place", "near", "far"]
theorem sc_entries_so : FnScope n_entries_so ["cube", "known"] (defScope s_entries_so) := ⟨rfl, rfl, rfl, by decide +kernel, rfl, by decide +kernel, by decide +kernel⟩
abbrev s_least_so : Stmt := topS 33
abbrev n_least_so : List Str := ["many", "values", "kinds", "known", "cube", "asks"]
theorem sc_least_so : FnScope n_least_so ["many", "values"] (defScope s_least_so) := ⟨rfl, rfl, rfl, by decide +kernel, rfl, by decide +kernel, by decide +kernel⟩
abbrev s_is_entry : Stmt := topS 34
abbrev n_is_entry : List Str := ["many", "value", "thing"]
theorem sc_is_entry : FnScope n_is_entry ["many", "value"] (defScope s_is_entry) := ⟨rfl, rfl, rfl, by decide +kernel, rfl, by decide +kernel, by decide +kernel⟩
abbrev s_is_entry_set : Stmt := topS 35
abbrev n_is_entry_set : List Str := ["many", "value", "item", "near", "far"]
theorem sc_is_entry_set : FnScope n_is_entry_set ["many", "value"] (defScope s_is_entry_set) := ⟨rfl, rfl, rfl, by decide +kernel, rfl, by decide +kernel, by decide +kernel⟩
abbrev s_lies_within : Stmt := topS 36
abbrev n_lies_within : List Str := ["asks", "cube", "entries", "known", "found", "place", "near", "far"]
theorem sc_lies_within : FnScope n_lies_within ["asks", "cube", "entries", "known"] (defScope s_lies_within) := ⟨rfl, rfl, rfl, by decide +kernel, rfl, by decide +kernel, by decide +kernel⟩
abbrev s_stands_so : Stmt := topS 37
abbrev n_stands_so : List Str := ["values", "entry", "entries", "kinds", "known", "asks", "cube", "place", "near", "far"]
theorem sc_stands_so : FnScope n_stands_so ["values", "entry", "entries", "kinds", "known"] (defScope s_stands_so) := ⟨rfl, rfl, rfl, by decide +kernel, rfl, by decide +kernel, by decide +kernel⟩
abbrev s_is_book_so : Stmt := topS 38
abbrev n_is_book_so : List Str := ["many", "values", "value", "entries", "kinds", "known", "entry"]
theorem sc_is_book_so : FnScope n_is_book_so ["many", "values", "value"] (defScope s_is_book_so) := ⟨rfl, rfl, rfl, by decide +kernel, rfl, by decide +kernel, by decide +kernel⟩
abbrev s_check_few : Stmt := topS 39
abbrev n_check_few : List Str := ["many", "values"]
theorem sc_check_few : FnScope n_check_few ["many", "values"] (defScope s_check_few) := ⟨rfl, rfl, rfl, by decide +kernel, rfl, by decide +kernel, by decide +kernel⟩
abbrev s_is_tree_for : Stmt := topS 40
abbrev n_is_tree_for : List Str := ["many", "values", "value"]
theorem sc_is_tree_for : FnScope n_is_tree_for ["many", "values", "value"] (defScope s_is_tree_for) := ⟨rfl, rfl, rfl, by decide +kernel, rfl, by decide +kernel, by decide +kernel⟩
abbrev s_least_asks : Stmt := topS 41
abbrev n_least_asks : List Str := ["many", "values"]
theorem sc_least_asks : FnScope n_least_asks ["many", "values"] (defScope s_least_asks) := ⟨rfl, rfl, rfl, by decide +kernel, rfl, by decide +kernel, by decide +kernel⟩
abbrev s_is_cube_book : Stmt := topS 42
abbrev n_is_cube_book : List Str := ["many", "values", "asks", "value", "entry"]
theorem sc_is_cube_book : FnScope n_is_cube_book ["many", "values", "asks", "value"] (defScope s_is_cube_book) := ⟨rfl, rfl, rfl, by decide +kernel, rfl, by decide +kernel, by decide +kernel⟩
abbrev s_law_mixed : Stmt := topS 44
abbrev n_law_mixed : List Str := ["_law_cell", "_law_k"]
theorem sc_law_mixed : FnScope n_law_mixed ["_law_cell", "_law_k"] (defScope s_law_mixed) := ⟨rfl, rfl, rfl, by decide +kernel, rfl, by decide +kernel, by decide +kernel⟩
abbrev s_law_begin : Stmt := topS 45
abbrev n_law_begin : List Str := ["_law_script", "_law_cells_so", "_law_cell"]
theorem sc_law_begin : FnScope n_law_begin ["_law_script"] (defScope s_law_begin) := ⟨rfl, rfl, rfl, by decide +kernel, rfl, by decide +kernel, by decide +kernel⟩
abbrev s_law_draw : Stmt := topS 46
abbrev n_law_draw : List Str := ["_law_state", "_law_limit", "_law_at", "_law_place", "_law_left", "_law_number"]
theorem sc_law_draw : FnScope n_law_draw ["_law_state", "_law_limit"] (defScope s_law_draw) := ⟨rfl, rfl, rfl, by decide +kernel, rfl, by decide +kernel, by decide +kernel⟩
abbrev s_law_power : Stmt := topS 47
abbrev n_law_power : List Str := ["_law_count", "_law_found", "_law_step"]
theorem sc_law_power : FnScope n_law_power ["_law_count"] (defScope s_law_power) := ⟨rfl, rfl, rfl, by decide +kernel, rfl, by decide +kernel, by decide +kernel⟩
abbrev s_law_bits_of : Stmt := topS 48
abbrev n_law_bits_of : List Str := ["_law_line", "_law_count", "_law_found", "_law_step"]
theorem sc_law_bits_of : FnScope n_law_bits_of ["_law_line", "_law_count"] (defScope s_law_bits_of) := ⟨rfl, rfl, rfl, by decide +kernel, rfl, by decide +kernel, by decide +kernel⟩
abbrev s_law_worths : Stmt := topS 49
abbrev n_law_worths : List Str := ["_law_state", "_law_count", "_law_line"]
theorem sc_law_worths : FnScope n_law_worths ["_law_state", "_law_count"] (defScope s_law_worths) := ⟨rfl, rfl, rfl, by decide +kernel, rfl, by decide +kernel, by decide +kernel⟩
abbrev s_law_like : Stmt := topS 50
abbrev n_law_like : List Str := ["_law_got", "_law_due"]
theorem sc_law_like : FnScope n_law_like ["_law_got", "_law_due"] (defScope s_law_like) := ⟨rfl, rfl, rfl, by decide +kernel, rfl, by decide +kernel, by decide +kernel⟩
abbrev s_law_fits : Stmt := topS 51
abbrev n_law_fits : List Str := ["_law_cube", "_law_line", "_law_told", "_law_bit"]
theorem sc_law_fits : FnScope n_law_fits ["_law_cube", "_law_line"] (defScope s_law_fits) := ⟨rfl, rfl, rfl, by decide +kernel, rfl, by decide +kernel, by decide +kernel⟩
abbrev s_law_lines_in : Stmt := topS 52
abbrev n_law_lines_in : List Str := ["_law_cube", "_law_line"]
theorem sc_law_lines_in : FnScope n_law_lines_in ["_law_cube"] (defScope s_law_lines_in) := ⟨rfl, rfl, rfl, by decide +kernel, rfl, by decide +kernel, by decide +kernel⟩
abbrev s_law_is_both : Stmt := topS 53
abbrev n_law_is_both : List Str := ["_law_worths_here", "_law_cube", "_law_line"]
theorem sc_law_is_both : FnScope n_law_is_both ["_law_worths_here", "_law_cube"] (defScope s_law_is_both) := ⟨rfl, rfl, rfl, by decide +kernel, rfl, by decide +kernel, by decide +kernel⟩
abbrev s_law_half : Stmt := topS 54
abbrev n_law_half : List Str := ["_law_cube", "_law_place", "_law_bit"]
theorem sc_law_half : FnScope n_law_half ["_law_cube", "_law_place", "_law_bit"] (defScope s_law_half) := ⟨rfl, rfl, rfl, by decide +kernel, rfl, by decide +kernel, by decide +kernel⟩
abbrev s_law_asks_for : Stmt := topS 55
abbrev n_law_asks_for : List Str := ["_law_worths_here", "_law_cube", "_law_known", "_law_best", "_law_place", "_law_two", "_law_spot", "_law_told", "_law_bit"]
theorem sc_law_asks_for : FnScope n_law_asks_for ["_law_worths_here", "_law_cube", "_law_known"] (defScope s_law_asks_for) := ⟨rfl, rfl, rfl, by decide +kernel, rfl, by decide +kernel, by decide +kernel⟩
abbrev s_law_walk : Stmt := topS 56
abbrev n_law_walk : List Str := ["_law_wood_here", "_law_line", "_law_found", "_law_bits_so", "_law_turn"]
theorem sc_law_walk : FnScope n_law_walk ["_law_wood_here", "_law_line"] (defScope s_law_walk) := ⟨rfl, rfl, rfl, by decide +kernel, rfl, by decide +kernel, by decide +kernel⟩
abbrev s_law_high : Stmt := topS 57
abbrev n_law_high : List Str := ["_law_wood_here"]
theorem sc_law_high : FnScope n_law_high ["_law_wood_here"] (defScope s_law_high) := ⟨rfl, rfl, rfl, by decide +kernel, rfl, by decide +kernel, by decide +kernel⟩
abbrev s_law_wood : Stmt := topS 58
abbrev n_law_wood : List Str := ["_law_state", "_law_count", "_law_deep"]
theorem sc_law_wood : FnScope n_law_wood ["_law_state", "_law_count", "_law_deep"] (defScope s_law_wood) := ⟨rfl, rfl, rfl, by decide +kernel, rfl, by decide +kernel, by decide +kernel⟩
abbrev s_law_ends_right : Stmt := topS 59
abbrev n_law_ends_right : List Str := ["_law_count", "_law_worths_here", "_law_wood_here", "_law_line"]
theorem sc_law_ends_right : FnScope n_law_ends_right ["_law_count", "_law_worths_here", "_law_wood_here"] (defScope s_law_ends_right) := ⟨rfl, rfl, rfl, by decide +kernel, rfl, by decide +kernel, by decide +kernel⟩
abbrev s_law_less_cube : Stmt := topS 60
abbrev n_law_less_cube : List Str := ["_law_cube", "_law_other", "_law_told", "_law_wide"]
theorem sc_law_less_cube : FnScope n_law_less_cube ["_law_cube", "_law_other"] (defScope s_law_less_cube) := ⟨rfl, rfl, rfl, by decide +kernel, rfl, by decide +kernel, by decide +kernel⟩
abbrev s_law_is_cube_entry : Stmt := topS 61
abbrev n_law_is_cube_entry : List Str := ["_law_count", "_law_told", "_law_one"]
theorem sc_law_is_cube_entry : FnScope n_law_is_cube_entry ["_law_count", "_law_told"] (defScope s_law_is_cube_entry) := ⟨rfl, rfl, rfl, by decide +kernel, rfl, by decide +kernel, by decide +kernel⟩
abbrev s_law_cube_stands : Stmt := topS 62
abbrev n_law_cube_stands : List Str := ["_law_worths_here", "_law_told", "_law_entry", "_law_level", "_law_cube", "_law_held", "_law_free", "_law_place", "_law_sides", "_law_one", "_law_spot", "_law_bit"]
theorem sc_law_cube_stands : FnScope n_law_cube_stands ["_law_worths_here", "_law_told", "_law_entry"] (defScope s_law_cube_stands) := ⟨rfl, rfl, rfl, by decide +kernel, rfl, by decide +kernel, by decide +kernel⟩
abbrev s_law_is_cube_book : Stmt := topS 63
abbrev n_law_is_cube_book : List Str := ["_law_count", "_law_worths_here", "_law_most", "_law_told", "_law_one", "_law_other"]
theorem sc_law_is_cube_book : FnScope n_law_is_cube_book ["_law_count", "_law_worths_here", "_law_most", "_law_told"] (defScope s_law_is_cube_book) := ⟨rfl, rfl, rfl, by decide +kernel, rfl, by decide +kernel, by decide +kernel⟩
abbrev s_law_right : Stmt := topS 64
abbrev n_law_right : List Str := ["_law_count", "_law_worths_here", "_law_least", "_law_wood_here", "_law_told", "_law_got", "_law_number"]
theorem sc_law_right : FnScope n_law_right ["_law_count", "_law_worths_here"] (defScope s_law_right) := ⟨rfl, rfl, rfl, by decide +kernel, rfl, by decide +kernel, by decide +kernel⟩
abbrev s_law_few : Stmt := topS 65
abbrev n_law_few : List Str := ["_law_state", "_law_count", "_law_wood_here", "_law_line"]
theorem sc_law_few : FnScope n_law_few ["_law_state", "_law_count"] (defScope s_law_few) := ⟨rfl, rfl, rfl, by decide +kernel, rfl, by decide +kernel, by decide +kernel⟩
abbrev s_law : Stmt := topS 66
abbrev n_law : List Str := ["_law_script", "_law_state", "_law_number", "_law_count", "_law_worths_here", "_law_got"]
theorem sc_law : FnScope n_law ["_law_script"] (defScope s_law) := ⟨rfl, rfl, rfl, by decide +kernel, rfl, by decide +kernel, by decide +kernel⟩
def twos : List Int := [1, 2, 4, 8, 16, 32, 64, 128, 256, 512, 1024, 2048, 4096, 8192, 16384, 32768, 65536, 131072, 262144, 524288, 1048576]
def SqTwos (K : PySem.W.Frag) (a : Addr) : Prop := ∃ (o : Obj) (its : Array Value) (n : Nat), K.lookup a = some o ∧ o.cls = .type "tuple" ∧ o.data = .seq its n ∧ its.size ≤ sizeLine ∧ Vals (twos.map V.int) its.toList
structure Txt (K : PySem.W.Frag) (mg : Str → Option Value) : Prop where
  d_is_from : DefAt K mg "is_from" s_is_from ["value", "low", "high"]
  d_check_many : DefAt K mg "check_many" s_check_many ["value"]
  d_check_values : DefAt K mg "check_values" s_check_values ["many", "value"]
  d_bit_so : DefAt K mg "bit_so" s_bit_so ["row", "place"]
  d_is_ask : DefAt K mg "is_ask" s_is_ask ["value"]
  d_walked_tree : DefAt K mg "walked_tree" s_walked_tree ["many", "value", "path", "met"]
  d_check_tree : DefAt K mg "check_tree" s_check_tree ["many", "value"]
  d_asked_so : DefAt K mg "asked_so" s_asked_so ["tree", "row"]
  d_tells_values : DefAt K mg "tells_values" s_tells_values ["values", "tree"]
  d_is_tree_so : DefAt K mg "is_tree_so" s_is_tree_so ["many", "values", "value"]
  d_cube_so : DefAt K mg "cube_so" s_cube_so ["many"]
  d_free_bits : DefAt K mg "free_bits" s_free_bits ["cube"]
  d_half_so : DefAt K mg "half_so" s_half_so ["cube", "place", "bit"]
  d_halves_of : DefAt K mg "halves_of" s_halves_of ["cube", "place"]
  d_kinds_so : DefAt K mg "kinds_so" s_kinds_so ["values", "cube", "known"]
  d_fewest_so : DefAt K mg "fewest_so" s_fewest_so ["values", "cube", "kinds", "known"]
  d_tree_so : DefAt K mg "tree_so" s_tree_so ["cube", "kinds", "known"]
  d_entries_so : DefAt K mg "entries_so" s_entries_so ["cube", "known"]
  d_least_so : DefAt K mg "least_so" s_least_so ["many", "values"]
  d_is_entry : DefAt K mg "is_entry" s_is_entry ["many", "value"]
  d_is_entry_set : DefAt K mg "is_entry_set" s_is_entry_set ["many", "value"]
  d_lies_within : DefAt K mg "lies_within" s_lies_within ["asks", "cube", "entries", "known"]
  d_stands_so : DefAt K mg "stands_so" s_stands_so ["values", "entry", "entries", "kinds", "known"]
  d_is_book_so : DefAt K mg "is_book_so" s_is_book_so ["many", "values", "value"]
  d_check_few : DefAt K mg "check_few" s_check_few ["many", "values"]
  d_is_tree_for : DefAt K mg "is_tree_for" s_is_tree_for ["many", "values", "value"]
  d_least_asks : DefAt K mg "least_asks" s_least_asks ["many", "values"]
  d_is_cube_book : DefAt K mg "is_cube_book" s_is_cube_book ["many", "values", "asks", "value"]
  d_law_mixed : DefAt K mg "_law_mixed" s_law_mixed ["_law_cell", "_law_k"]
  d_law_begin : DefAt K mg "_law_begin" s_law_begin ["_law_script"]
  d_law_draw : DefAt K mg "_law_draw" s_law_draw ["_law_state", "_law_limit"]
  d_law_power : DefAt K mg "_law_power" s_law_power ["_law_count"]
  d_law_bits_of : DefAt K mg "_law_bits_of" s_law_bits_of ["_law_line", "_law_count"]
  d_law_worths : DefAt K mg "_law_worths" s_law_worths ["_law_state", "_law_count"]
  d_law_like : DefAt K mg "_law_like" s_law_like ["_law_got", "_law_due"]
  d_law_fits : DefAt K mg "_law_fits" s_law_fits ["_law_cube", "_law_line"]
  d_law_lines_in : DefAt K mg "_law_lines_in" s_law_lines_in ["_law_cube"]
  d_law_is_both : DefAt K mg "_law_is_both" s_law_is_both ["_law_worths_here", "_law_cube"]
  d_law_half : DefAt K mg "_law_half" s_law_half ["_law_cube", "_law_place", "_law_bit"]
  d_law_asks_for : DefAt K mg "_law_asks_for" s_law_asks_for ["_law_worths_here", "_law_cube", "_law_known"]
  d_law_walk : DefAt K mg "_law_walk" s_law_walk ["_law_wood_here", "_law_line"]
  d_law_high : DefAt K mg "_law_high" s_law_high ["_law_wood_here"]
  d_law_wood : DefAt K mg "_law_wood" s_law_wood ["_law_state", "_law_count", "_law_deep"]
  d_law_ends_right : DefAt K mg "_law_ends_right" s_law_ends_right ["_law_count", "_law_worths_here", "_law_wood_here"]
  d_law_less_cube : DefAt K mg "_law_less_cube" s_law_less_cube ["_law_cube", "_law_other"]
  d_law_is_cube_entry : DefAt K mg "_law_is_cube_entry" s_law_is_cube_entry ["_law_count", "_law_told"]
  d_law_cube_stands : DefAt K mg "_law_cube_stands" s_law_cube_stands ["_law_worths_here", "_law_told", "_law_entry"]
  d_law_is_cube_book : DefAt K mg "_law_is_cube_book" s_law_is_cube_book ["_law_count", "_law_worths_here", "_law_most", "_law_told"]
  d_law_right : DefAt K mg "_law_right" s_law_right ["_law_count", "_law_worths_here"]
  d_law_few : DefAt K mg "_law_few" s_law_few ["_law_state", "_law_count"]
  b_bool : mg "bool" = none
  b_enumerate : mg "enumerate" = none
  b_int : mg "int" = none
  b_isinstance : mg "isinstance" = none
  b_len : mg "len" = none
  b_list : mg "list" = none
  b_max : mg "max" = none
  b_min : mg "min" = none
  b_range : mg "range" = none
  b_repr : mg "repr" = none
  b_set : mg "set" = none
  b_sorted : mg "sorted" = none
  b_str : mg "str" = none
  b_sum : mg "sum" = none
  b_tuple : mg "tuple" = none
  b_zip : mg "zip" = none
  c_MOST_MANY_questions : ∃ t, mg "MOST_MANY_questions" = some (.int 8 t)
  c_MOST_TREES : ∃ t, mg "MOST_TREES" = some (.int 600 t)
  c_MOST_ASKS : ∃ t, mg "MOST_ASKS" = some (.int 60 t)
  c_MOST_MANY_asks : ∃ t, mg "MOST_MANY_asks" = some (.int 6 t)
  c_MOST_ENTRIES : ∃ t, mg "MOST_ENTRIES" = some (.int 20000 t)
  c_FREE : ∃ t, mg "FREE" = some (.int 2 t)
  twos : ∃ a, mg "TWOS" = some (.ref a) ∧ SqTwos K a
noncomputable def Txt.aTWOS {K : PySem.W.Frag} {mg : Str → Option Value} (T : Txt K mg) : Addr := T.twos.choose
theorem Txt.c_TWOS {K : PySem.W.Frag} {mg : Str → Option Value} (T : Txt K mg) : mg "TWOS" = some (.ref T.aTWOS) := T.twos.choose_spec.1
theorem Txt.sqTWOS {K : PySem.W.Frag} {mg : Str → Option Value} (T : Txt K mg) (H : Hp) : SqT K H T.aTWOS (Fa.twos.map V.int) := .inr T.twos.choose_spec.2
theorem twos_at {n : Nat} (h : n ≤ 8) : atI (twos.map V.int) (n : Int) = some (.int ((2 ^ n : Nat) : Int)) := by
  have : n = 0 ∨ n = 1 ∨ n = 2 ∨ n = 3 ∨ n = 4 ∨ n = 5 ∨ n = 6 ∨ n = 7 ∨ n = 8 := by omega
  rcases this with e | e | e | e | e | e | e | e | e <;> subst e <;> rfl
section
variable {k : Nat} {A : Around}
theorem r9 (hr : Room k A) : A.units + 9 < cLine := by have := hr.un; omega
theorem r5 (hr : Room k A) : A.units + 5 < cLine := by have := hr.un; omega
theorem r10 (hr : Room k A) : A.units + 10 < cLine := by have := hr.un; omega
theorem r64 (hr : Room k A) : A.units + 64 < cLine := by have := hr.un; omega
end
abbrev Ex := Evl.Ex
/-- what a def with a value of its own promises: the value, leaving all that stands -/
def Ret (v : V) (H : Hp) (Q : VK) : Prop := ∀ H', Ex H H' → Q v H'
def RetL (xs : List V) (H : Hp) (Q : VK) : Prop := ∀ p H', Ex H H' → H' p = some (.lst xs) → Q (.ref p) H'
def RetT (xs : List V) (H : Hp) (Q : VK) : Prop := ∀ p H', Ex H H' → H' p = some (.tup xs) → Q (.ref p) H'
theorem Ret.go {v : V} {H H' : Hp} {Q : VK} (r : Ret v H Q) (e : Ex H H') : Q v H' := r H' e
theorem isI {K : PySem.W.Frag} {n : String} {b : Bool} (h : PySem.W.kitOne K (.type "int") (.type n) = some b) : True := trivial
end Fa

set_option Elab.async false
set_option linter.all false
set_option maxRecDepth 100000
set_option maxHeartbeats 4000000
namespace Fa
open PySem PySem.Spec PyProof.Rows L2
theorem exr (H : Hp) : Ex H H := Evl.Ex.refl H
theorem exn {H : Hp} {p : Addr} {o : HO} (h : H p = none) : Ex H (upd H p o) := Evl.Ex.new h
theorem at_ints {ns : List Int} {i : Nat} {x : V} (h : (ns.map V.int)[i]? = some x) : ∃ z, ns[i]? = some z ∧ x = V.int z := by
  rw [List.getElem?_map] at h
  cases e : ns[i]? with
  | none => rw [e] at h; cases h
  | some z => rw [e] at h; exact ⟨z, rfl, (Option.some.inj h).symm⟩
theorem ints_at {ns : List Int} {i : Nat} {z : Int} (h : ns[i]? = some z) : (ns.map V.int)[i]? = some (V.int z) := by
  rw [List.getElem?_map, h]
  rfl
section
variable {P : Program} {w : World} {K : PySem.W.Frag} {mg : Str → Option Value} {base : Heap}

def spFrom : Sp := fun vs H Q _ => ∃ v lo hi, vs = [v, .int lo, .int hi] ∧ ((∃ i, v = .int i ∧ Ret (.bl (decide (lo ≤ i ∧ i ≤ hi))) H Q) ∨ (∃ a xs, v = .ref a ∧ H a = some (.tup xs) ∧ Ret (.bl false) H Q))
theorem ok_is_from (T : Txt K mg) : Has P w K mg base "is_from" ["value", "low", "high"] 1 spFrom := by
  refine T.d_is_from.ok sc_is_from (fun vs H Q E h => ?_) (fun f cdv A outer s H vs Q E hr h => ?_)
  · obtain ⟨v, lo, hi, rfl, _⟩ := h
    rfl
  · obtain ⟨v, lo, hi, rfl, h⟩ := h
    refine ⟨_, (pss_one (ps_ret (pe_and (pe_callB call_isi (by rfl) T.b_isinstance (by decide +kernel) (pa_cons (pv 0) (pa_cons (pe_bltn (v := .ty "int") (by rfl) T.b_int (by decide +kernel) rfl) pa_nil))) (pe_and (pe_not (pe_callB call_isi (by rfl) T.b_isinstance (by decide +kernel) (pa_cons (pv 0) (pa_cons (pe_bltn (v := .ty "bool") (by rfl) T.b_bool (by decide +kernel) rfl) pa_nil)))) (pe_one (pe_chain op_le op_le (pv 1) (pv 0) (pv 2))))))), ?_⟩
    rcases h with ⟨i, rfl, k⟩ | ⟨a, xs, rfl, ha, k⟩
    · refine ⟨_, rfl, _, _, _, _, true, rfl, .ty _, .base (.int _), kit_ty (by decide +kernel), true, rfl, iteT ?_⟩
      refine ⟨_, rfl, _, _, _, _, false, rfl, .ty _, .base (.int _), kit_ty (by decide +kernel), false, rfl, true, rfl, iteT ?_⟩
      refine ⟨_, rfl, _, rfl, _, _, rfl, rfl, _, rfl, ?_⟩
      refine ite2 (fun c => ?_) (fun c => ?_)
      · have c' : lo ≤ i := of_decide_eq_true c
        refine ⟨_, rfl, _, _, rfl, rfl, ?_⟩
        have e : decide (lo ≤ i ∧ i ≤ hi) = decide (i ≤ hi) := by simp [c']
        rw [e] at k
        exact k H (exr H)
      · have c' : ¬ lo ≤ i := of_decide_eq_false (Bool.eq_false_iff.mpr c)
        have e : decide (lo ≤ i ∧ i ≤ hi) = false := by simp [c']
        rw [e] at k
        exact k H (exr H)
    · refine ⟨_, rfl, _, _, _, _, false, rfl, .ty _, .base (.tup ha), kit_ty (by decide +kernel), false, rfl, iteF ?_⟩
      exact k H (exr H)
def spMany : Sp := fun vs H Q _ => ∃ n : Nat, vs = [.int n] ∧ 1 ≤ n ∧ n ≤ 8 ∧ Ret (.int n) H Q
theorem ok_check_many (T : Txt K mg) : Has P w K mg base "check_many" ["value"] 2 spMany := by
  refine T.d_check_many.ok sc_check_many (fun vs H Q E h => ?_) (fun f cdv A outer s H vs Q E hr h => ?_)
  · obtain ⟨n, rfl, _⟩ := h
    rfl
  · obtain ⟨n, rfl, h1, h8, k⟩ := h
    have G_is_from := ok_is_from (P := P) (w := w) (base := base) T
    refine ⟨_, (pss_cons (ps_if (pt_not (pt_val (pe_has G_is_from (hr.mono (by decide)) (pa_cons (pv 0) (pa_cons pe_int (pa_cons (pe_glob (v := .int 8) rfl T.c_MOST_MANY_questions.choose_spec ⟨_, rfl⟩) pa_nil)))))) (pss_one ps_never) pss_nil)
      (pss_one (ps_ret (pv 0)))), ?_⟩
    refine ⟨_, rfl, _, 1, 8, rfl, .inl ⟨_, rfl, fun H1 e1 => ?_⟩⟩
    have e : decide ((1 : Int) ≤ n ∧ (n : Int) ≤ 8) = true := decide_eq_true ⟨by omega, by omega⟩
    rw [e]
    refine ⟨true, rfl, iteF ?_⟩
    exact ⟨_, rfl, k H1 e1⟩
def spValues : Sp := fun vs H Q _ => ∃ (n : Nat) (a : Addr) (ns : List Int), vs = [.int n, .ref a] ∧ 1 ≤ n ∧ n ≤ 8 ∧ OkV n ns ∧ H a = some (.tup (ns.map V.int)) ∧ Ret (.ref a) H Q
theorem ok_check_values (T : Txt K mg) : Has P w K mg base "check_values" ["many", "value"] 2 spValues := by
  refine T.d_check_values.ok sc_check_values (fun vs H Q E h => ?_) (fun f cdv A outer s H vs Q E hr h => ?_)
  · obtain ⟨n, a, ns, rfl, _⟩ := h
    rfl
  · obtain ⟨n, a, ns, rfl, h1, h8, hv, ha, k⟩ := h
    have G_is_from := ok_is_from (P := P) (w := w) (base := base) T
    refine ⟨_, (pss_cons (ps_if (PW.pt (pw_or (pt_not (pt_val (pe_callB call_isi (by rfl) T.b_isinstance (by decide +kernel) (pa_cons (pv 1) (pa_cons (pe_bltn (v := .ty "tuple") (by rfl) T.b_tuple (by decide +kernel) rfl) pa_nil))))) (pw_or1 (pt_cmpR op_ne (pe_callB call_len_seq (by rfl) T.b_len PySem.boot_len (pa_cons (pv 1) pa_nil)) (pe_ix ix_tup (pe_glob (v := .ref T.aTWOS) rfl T.c_TWOS rfl) (pv 0) (fun _ _ => rfl)) (nomark _))))) (pss_one ps_never) pss_nil)
      (pss_cons (ps_for PassesOwn.never rfl (pi_enT T.b_enumerate (pa_cons (pv 1) pa_nil)) (pg_tup (by rfl) (pgs_cons (pg_name (i := 2) sc_check_values.nd rfl (Or.inl rfl)) (pgs_cons (pg_name (i := 3) sc_check_values.nd rfl (Or.inl rfl)) pgs_nil))) (pss_one (ps_if (pt_not (pt_val (pe_has G_is_from (hr.mono (by decide)) (pa_cons (pv 3) (pa_cons pe_int (pa_cons pe_int pa_nil)))))) (pss_one ps_never) pss_nil)))
      (pss_one (ps_ret (pv 1))))), ?_⟩
    refine ⟨_, rfl, _, _, _, _, true, rfl, .ty _, .base (.tup ha), kit_ty (by decide +kernel), true, rfl, iteF ?_⟩
    refine ⟨_, rfl, a, _, rfl, .inr (SqT.of ha), _, rfl, _, _, _, _, rfl, rfl, T.sqTWOS H, twos_at h8, rfl, _, rfl, ?_⟩
    have el : V.int (((ns.map V.int).length : Nat) : Int) = V.int ((2 ^ n : Nat) : Int) := by rw [List.length_map, hv.1]
    refine iteNS el ?_
    refine ⟨_, rfl, a, _, rfl, SqT.of ha, for_it (walk_enT (xs := ns.map V.int)) (fun i σ H' => ∃ y2 y3, σ = [some (.int n), some (.ref a), y2, y3] ∧ Ex H H') ⟨none, none, rfl, exr H⟩ (fun i σ H' _ p => ?_) (fun i x σ H1 H2 hi p y => ?_) (fun σ H' p => ?_)⟩
    · obtain ⟨_, _, _, e⟩ := p
      exact SqT.of (e _ _ ha)
    · obtain ⟨y2, y3, rfl, e⟩ := p
      obtain ⟨t, x1, x2, rfl, nt, rfl, q1, q2⟩ := y
      cases q1
      obtain ⟨z, hz, rfl⟩ := at_ints q2
      have e2 : Ex H (upd H1 t (.tup [.int (i : Nat), .int z])) := e.trans (exn nt)
      refine ⟨t, _, rfl, SqT.of upd_same, rfl, _, _, rfl, _, _, rfl, rfl, ?_⟩
      refine ⟨_, rfl, _, 0, 1, rfl, .inl ⟨_, rfl, fun H3 e3 => ?_⟩⟩
      have hz01 := hv.2 z (List.mem_of_getElem? hz)
      have e : decide ((0 : Int) ≤ z ∧ z ≤ 1) = true := decide_eq_true (by omega)
      rw [e]
      exact ⟨true, rfl, iteF ⟨_, _, rfl, e2.trans e3⟩⟩
    · obtain ⟨y2, y3, rfl, e⟩ := p
      exact ⟨_, rfl, k H' e⟩
end
end Fa

set_option Elab.async false
set_option linter.all false
set_option maxRecDepth 100000
set_option maxHeartbeats 4000000
namespace Fa
open PySem PySem.Spec PyProof.Rows L2 Evl

/-! ### comprehensions over pairs, over single things -/
theorem lc_pairs {J : It} {n : Nat} {G : Hp → Prop} {xs ys : Nat → Option V} {K : PySem.W.Frag} {a b : Nat} {tt : TT} {te : TE} {vs : List Nat} {σ : L2.St} {H1 : Hp} {D : Addr} {Qd : Hp → Prop} (w : Walk J n G (YPair xs ys)) (hD : H1 D = none) (hn : n ≤ 40000)
    (hG : ∀ H', Ex H1 H' → G H') (hw : ∀ x y, wipe (((wipe σ vs).set a (some x)).set b (some y)) vs = wipe σ vs) (f : Nat → Bool) (v : Nat → V)
    (ht : ∀ i x y H2, i < n → Ex H1 H2 → xs i = some x → ys i = some y → EvT tt (((wipe σ vs).set a (some x)).set b (some y)) H2 (f i))
    (he : ∀ i x y H2, i < n → Ex H1 H2 → xs i = some x → ys i = some y → f i = true → Ev te (((wipe σ vs).set a (some x)).set b (some y)) H2 (v i))
    (hd : ∀ H', Ex H1 H' → H' D = some (.lst (given n f v)) → Qd H') :
    ∃ W : Nat → Nat → Hp → Prop, (∃ m, W 0 m (upd H1 D (.lst []))) ∧ ∀ i m H, W i m H →
      (J.stop i H ∧ Qd H) ∨ (J.go i H ∧ ∃ Nx : Hp → Prop, (∀ H', Nx H' → ∃ m', m' < m ∧ W (i + 1) m' H') ∧ ∀ x H', J.yld i H x H' → gTup K 2 (gCons (gName a) (gCons (gName b) gNil)) x (wipe σ vs) H' fun σ2 H2 => wipe σ2 vs = wipe σ vs ∧ tt σ2 H2 fun b H3 =>
        if b = true then te σ2 H3 fun y H4 => ∃ acc, H4 D = some (.lst acc) ∧ acc.length < sizeLine ∧ Nx (upd H4 D (.lst (acc ++ [y]))) else Nx H3) := by
  refine lc_it w (fun i H' => H1 D = none ∧ Ex H1 H' ∧ H' D = some (.lst (given i f v))) ⟨hD, Evl.Ex.new hD, upd_same⟩ (fun i H' _ p => hG H' p.2.1) (fun i x H H' hi p y => ?_) fun H' p => hd H' p.2.1 p.2.2
  obtain ⟨t, x1, x2, rfl, nt, rfl, q1, q2⟩ := y
  obtain ⟨p1, p2, p3⟩ := p
  have e2 : Ex H1 (upd H t (.tup [x1, x2])) := p2.trans (Evl.Ex.new nt)
  have hDt : D ≠ t := ne_of_none p3 nt
  refine ⟨t, _, rfl, SqT.of upd_same, rfl, _, _, rfl, _, _, rfl, rfl, hw x1 x2, ?_⟩
  refine cw_turn (H := H1) (f := f) (v := v) (te := te) (t := tt) ⟨p1, e2, by rw [upd_ne hDt]; exact p3⟩ (by omega) ?_ ?_
  · exact ht i x1 x2 H1 hi (Evl.Ex.refl H1) q1 q2
  · exact fun hf => he i x1 x2 H1 hi (Evl.Ex.refl H1) q1 q2 hf
theorem lc_ones {J : It} {n : Nat} {G : Hp → Prop} {Y : Nat → Hp → V → Hp → Prop} {xs : Nat → V → Prop} {a : Nat} {tt : TT} {te : TE} {vs : List Nat} {σ : L2.St} {H1 : Hp} {D : Addr} {Qd : Hp → Prop} (w : Walk J n G Y) (hY : ∀ i H x H', Y i H x H' → H' = H ∧ xs i x) (hD : H1 D = none) (hn : n ≤ 40000)
    (hG : ∀ H', Ex H1 H' → G H') (hw : ∀ x, wipe ((wipe σ vs).set a (some x)) vs = wipe σ vs) (f : Nat → Bool) (v : Nat → V)
    (ht : ∀ i x, i < n → xs i x → EvT tt ((wipe σ vs).set a (some x)) H1 (f i)) (he : ∀ i x, i < n → xs i x → f i = true → Ev te ((wipe σ vs).set a (some x)) H1 (v i))
    (hd : ∀ H', Ex H1 H' → H' D = some (.lst (given n f v)) → Qd H') :
    ∃ W : Nat → Nat → Hp → Prop, (∃ m, W 0 m (upd H1 D (.lst []))) ∧ ∀ i m H, W i m H →
      (J.stop i H ∧ Qd H) ∨ (J.go i H ∧ ∃ Nx : Hp → Prop, (∀ H', Nx H' → ∃ m', m' < m ∧ W (i + 1) m' H') ∧ ∀ x H', J.yld i H x H' → gName a x (wipe σ vs) H' fun σ2 H2 => wipe σ2 vs = wipe σ vs ∧ tt σ2 H2 fun b H3 =>
        if b = true then te σ2 H3 fun y H4 => ∃ acc, H4 D = some (.lst acc) ∧ acc.length < sizeLine ∧ Nx (upd H4 D (.lst (acc ++ [y]))) else Nx H3) := by
  refine lc_it w (fun i H' => H1 D = none ∧ Ex H1 H' ∧ H' D = some (.lst (given i f v))) ⟨hD, Evl.Ex.new hD, upd_same⟩ (fun i H' _ p => hG H' p.2.1) (fun i x H H' hi p y => ?_) fun H' p => hd H' p.2.1 p.2.2
  obtain ⟨rfl, hx⟩ := hY _ _ _ _ y
  obtain ⟨p1, p2, p3⟩ := p
  exact ⟨hw x, cw_turn (H := H1) (f := f) (v := v) (te := te) (t := tt) ⟨p1, p2, p3⟩ (by omega) (ht i x hi hx) fun hf => he i x hi hx hf⟩
theorem given_congr {n : Nat} {f g : Nat → Bool} {u v : Nat → V} (h : ∀ i, i < n → f i = g i) (k : ∀ i, i < n → f i = true → u i = v i) : given n f u = given n g v := by
  induction n with
  | zero => rfl
  | succ n ih =>
    have e := ih (fun i hi => h i (Nat.lt_succ_of_lt hi)) fun i hi => k i (Nat.lt_succ_of_lt hi)
    cases hf : f n with
    | true => rw [given_yes hf, given_yes ((h n (Nat.lt_succ_self n)) ▸ hf), e, k n (Nat.lt_succ_self n) hf]
    | false => rw [given_no hf, given_no ((h n (Nat.lt_succ_self n)) ▸ hf), e]
theorem given_free (cs : List Int) : given cs.length (fun i => cs.getD i 0 == 2) (fun i => V.int (i : Nat)) = (free cs).map fun i => V.int (i : Nat) := rfl
/-- a list of ones is empty where none was given -/
theorem given_nil {n : Nat} {f : Nat → Bool} {v : Nat → V} (h : ∀ i, i < n → f i = false) : given n f v = [] := by
  induction n with
  | zero => rfl
  | succ n ih => rw [given_no (h n (Nat.lt_succ_self n)), ih fun i hi => h i (Nat.lt_succ_of_lt hi)]
theorem given_ne {n : Nat} {f : Nat → Bool} {v : Nat → V} {i : Nat} (hi : i < n) (h : f i = true) : given n f v ≠ [] := by
  unfold given
  intro e
  have : i ∈ (List.range n).filter f := List.mem_filter.mpr ⟨List.mem_range.mpr hi, h⟩
  rw [List.map_eq_nil_iff.mp e] at this
  cases this

def ck (cs : List Int) : List Key := cs.map Sum.inl
theorem ck_kV (cs : List Int) : (ck cs).map kV = cs.map V.int := by
  unfold ck
  rw [List.map_map]
  rfl
theorem ck_inj {a b : List Int} (h : ck a = ck b) : a = b := by
  unfold ck at h
  induction a generalizing b with
  | nil => cases b with
    | nil => rfl
    | cons y b => cases h
  | cons x a ih => cases b with
    | nil => cases h
    | cons y b =>
      injection h with h1 h2
      injection h1 with h1
      rw [h1, ih h2]
theorem get_ints {cs : List Int} {i : Nat} {x : Int} (h : cs[i]? = some x) : cs.getD i 0 = x := by
  rw [List.getD_eq_getElem?_getD, h]
  rfl

section
variable {P : Program} {w : World} {K : PySem.W.Frag} {mg : Str → Option Value} {base : Heap}
def spBit : Sp := fun vs H Q _ => ∃ (r i : Nat), vs = [.int r, .int i] ∧ i ≤ 8 ∧ Ret (.int (bitN r i)) H Q
theorem ok_bit_so (T : Txt K mg) : Has P w K mg base "bit_so" ["row", "place"] 1 spBit := by
  refine T.d_bit_so.ok sc_bit_so (fun vs H Q E h => ?_) (fun f cdv A outer s H vs Q E hr h => ?_)
  · obtain ⟨r, i, rfl, _⟩ := h
    rfl
  · obtain ⟨r, i, rfl, hi, k⟩ := h
    refine ⟨_, (pss_one (ps_ret (pe_op op_mod (pe_op op_fdiv (pv 0) (pe_ix ix_tup (pe_glob (v := .ref T.aTWOS) rfl T.c_TWOS rfl) (pv 1) (fun _ _ => rfl))) pe_int))), ?_⟩
    have hp : 1 ≤ 2 ^ i := Nat.one_le_two_pow
    have hq : 2 ^ i ≤ 2 ^ 8 := Nat.pow_le_pow_right (by decide) hi
    refine ⟨_, rfl, _, rfl, _, _, _, _, rfl, rfl, T.sqTWOS H, twos_at hi, _, _, rfl, rfl, ⟨by omega, by omega⟩, _, _, rfl, rfl, (by show (0 : Int) < 2; decide), ?_⟩
    have e : ((r : Int) / ((2 ^ i : Nat) : Int)) % 2 = ((bitN r i : Nat) : Int) := by
      unfold bitN
      omega
    have k' := k H (exr H)
    rw [← e] at k'
    exact k'
def spAsk : Sp := fun vs H Q _ => ∃ v, vs = [v] ∧ ((∃ i, v = .int i ∧ Ret (.bl false) H Q) ∨ ∃ a x y z, v = .ref a ∧ H a = some (.tup [.str "ask", x, y, z]) ∧ Ret (.bl true) H Q)
theorem ok_is_ask (T : Txt K mg) : Has P w K mg base "is_ask" ["value"] 1 spAsk := by
  refine T.d_is_ask.ok sc_is_ask (fun vs H Q E h => ?_) (fun f cdv A outer s H vs Q E hr h => ?_)
  · obtain ⟨v, rfl, _⟩ := h
    rfl
  · obtain ⟨v, rfl, h⟩ := h
    refine ⟨_, (pss_one (ps_ret (pe_and (pe_callB call_isi (by rfl) T.b_isinstance (by decide +kernel) (pa_cons (pv 0) (pa_cons (pe_bltn (v := .ty "tuple") (by rfl) T.b_tuple (by decide +kernel) rfl) pa_nil))) (pe_and (pe_cmpR op_eq (pe_callB call_len_seq (by rfl) T.b_len PySem.boot_len (pa_cons (pv 0) pa_nil)) pe_int (nomark _)) (pe_and (pe_callB call_isi (by rfl) T.b_isinstance (by decide +kernel) (pa_cons (pe_ix ix_tup (pv 0) pe_int (fun _ _ => rfl)) (pa_cons (pe_bltn (v := .ty "str") (by rfl) T.b_str (by decide +kernel) rfl) pa_nil))) (pe_one (pe_cmpR op_eq (pe_ix ix_tup (pv 0) pe_int (fun _ _ => rfl)) pe_str (nomark _)))))))), ?_⟩
    rcases h with ⟨i, rfl, k⟩ | ⟨a, x, y, z, rfl, ha, k⟩
    · exact ⟨_, rfl, _, _, _, _, false, rfl, .ty _, .base (.int _), kit_ty (by decide +kernel), false, rfl, iteF (k H (exr H))⟩
    · refine ⟨_, rfl, _, _, _, _, true, rfl, .ty _, .base (.tup ha), kit_ty (by decide +kernel), true, rfl, iteT ?_⟩
      refine ⟨_, rfl, a, _, rfl, .inr (SqT.of ha), rfl, true, rfl, iteT ?_⟩
      refine ⟨_, rfl, a, _, _, _, rfl, rfl, SqT.of ha, rfl, _, _, _, _, true, rfl, .ty _, .base (.str _), kit_ty (by decide +kernel), true, rfl, iteT ?_⟩
      exact ⟨_, rfl, a, _, _, _, rfl, rfl, SqT.of ha, rfl, rfl, k H (exr H)⟩
def spFree : Sp := fun vs H Q _ => ∃ (c : Addr) (cs : List Int), vs = [.ref c] ∧ H c = some (.tup (cs.map V.int)) ∧ cs.length ≤ 8 ∧ RetL ((free cs).map fun i => V.int (i : Nat)) H Q
theorem ok_free_bits (T : Txt K mg) : Has P w K mg base "free_bits" ["cube"] 1 spFree := by
  refine T.d_free_bits.ok sc_free_bits (fun vs H Q E h => ?_) (fun f cdv A outer s H vs Q E hr h => ?_)
  · obtain ⟨c, cs, rfl, _⟩ := h
    rfl
  · obtain ⟨c, cs, rfl, hc, hl, k⟩ := h
    refine ⟨_, (pss_one (ps_ret (pe_lc (own := [("place", 1), ("thing", 2)]) (g := gTup K 2 (gCons (gName 1) (gCons (gName 2) (gNil)))) (by rfl) sc_free_bits.nd (pi_enT T.b_enumerate (pa_cons (pv 0) pa_nil)) (blkOk_by (own := [("place", 1), ("thing", 2)]) (N := n_free_bits) (sc := defScope s_free_bits) (by decide +kernel)) (fun _ _ _ _ _ => (pg_tup (by rfl) (pgs_cons (pg_name (i := 1) sc_free_bits.nd rfl (Or.inl rfl)) (pgs_cons (pg_name (i := 2) sc_free_bits.nd rfl (Or.inl rfl)) pgs_nil)))) (fun _ _ _ _ _ => (pts_one (pt_cmpR op_eq (pv 2) (pe_glob (v := .int 2) rfl T.c_FREE.choose_spec ⟨_, rfl⟩) (nomark _)))) (fun _ _ _ _ _ => (pv 1))))), ?_⟩
    refine ⟨_, rfl, c, _, rfl, SqT.of hc, fun D hD => ?_⟩
    refine lc_pairs (walk_enT (xs := cs.map V.int)) hD (by rw [List.length_map]; omega) (fun H' e => SqT.of (e _ _ hc)) (fun _ _ => rfl) (fun i => cs.getD i 0 == 2) (fun i => V.int (i : Nat)) ?_ ?_ fun H' e h => ?_
    · intro i x y H2 hi e2 q1 q2
      obtain ⟨z, hz, rfl⟩ := at_ints q2
      refine et_is (et_test (ev_op (ev_var rfl) ev_c (rv_eq rfl))) ?_
      rw [get_ints hz]
      by_cases h : z = 2
      · subst h; rfl
      · have h2 : V.int z ≠ V.int 2 := fun q => h (V.int.inj q)
        rw [decide_eq_false h2]
        exact (beq_eq_false_iff_ne.mpr h).symm
    · intro i x y H2 hi e2 q1 q2 _
      cases q1
      exact ev_var rfl
    · rw [List.length_map] at h
      exact k D H' e h
end
end Fa

set_option Elab.async false
set_option linter.all false
set_option maxRecDepth 100000
set_option maxHeartbeats 4000000
namespace Fa
open PySem PySem.Spec PyProof.Rows L2 Evl
theorem cut_take {xs : List V} {i : Nat} (h : i ≤ xs.length) : cutV xs none (some (i : Int)) = xs.take i := by
  unfold cutV
  rw [HT.sIx_nat, HT.sIx_none, Nat.min_eq_left h]
  simp
theorem cut_drop {xs : List V} {i : Nat} (h : i ≤ xs.length) : cutV xs (some (i : Int)) none = xs.drop i := by
  unfold cutV
  rw [HT.sIx_nat, HT.sIx_none, Nat.min_eq_left h]
  rw [List.take_of_length_le (by rw [List.length_drop]; omega)]
section
variable {P : Program} {w : World} {K : PySem.W.Frag} {mg : Str → Option Value} {base : Heap}
def spHalf : Sp := fun vs H Q _ => ∃ (c : Addr) (cs : List Int) (i : Nat) (b : Int), vs = [.ref c, .int i, .int b] ∧ H c = some (.tup (cs.map V.int)) ∧ cs.length ≤ 8 ∧ i < cs.length ∧ RetT ((cs.set i b).map V.int) H Q
theorem half_reads {H : Hp} {Q : VK} {c : Addr} {cs : List Int} {i : Nat} {b : Int} (hc : H c = some (.tup (cs.map V.int))) (hl : cs.length ≤ 8) (hi : i < cs.length) (k : RetT ((cs.set i b).map V.int) H Q) (σ : L2.St) (h0 : σ[0]? = some (some (.ref c))) (h1 : σ[1]? = some (some (.int i))) (h2 : σ[2]? = some (some (.int b))) :
    tOp (rCatA K) (tOp (rCatA K) (tSl (rSlA K) (tVar 0) tNoPart (tPart (tVar 1))) (tTup (tCons (tVar 2) tNil))) (tSl (rSlA K) (tVar 0) (tPart (tOp (rI0 fun i j => .int (i + j)) (tVar 1) (tC (.int 1)))) tNoPart) σ H Q := by
  have hlen : (cs.map V.int).length = cs.length := List.length_map _
  have e1 : ((i : Int) + 1) = ((i + 1 : Nat) : Int) := by omega
  refine ⟨_, h0, _, h1, _, rfl, c, _, rfl, SqT.of hc, fun wh => ?_, fun _ p1 hp1 => ?_⟩
  · exfalso
    have := wh.2
    rw [HT.sIx_nat] at this
    omega
  rw [cut_take (by omega), ← List.map_take]
  have x1 : Ex H (upd H p1 (.tup ((cs.take i).map V.int))) := exn hp1
  refine ⟨_, h2, (by show 1 ≤ sizeLine; decide), fun p2 hp2 => ?_⟩
  have x2 := x1.trans (exn (o := .tup [.int b]) hp2)
  have n12 : p1 ≠ p2 := ne_of_none (upd_same (H := H)) hp2
  -- the second half of the sum
  have rest : ∀ q H', Ex H H' → H' q = some (.tup ((cs.take i ++ [b]).map V.int)) →
      tSl (rSlA K) (tVar 0) (tPart (tOp (rI0 fun i j => .int (i + j)) (tVar 1) (tC (.int 1)))) tNoPart σ H' fun y H2 => rCatA K (.ref q) y H2 Q := by
    intro q H' e hq
    refine ⟨_, h0, _, h1, _, _, rfl, rfl, _, rfl, c, _, rfl, SqT.of (e _ _ hc), fun wh => ?_, fun _ p3 hp3 => ?_⟩
    · exfalso
      have := wh.1
      rw [e1, HT.sIx_nat] at this
      omega
    rw [e1, cut_drop (by omega), ← List.map_drop]
    have x3 := e.trans (exn (o := .tup ((cs.drop (i + 1)).map V.int)) hp3)
    have nq : q ≠ p3 := ne_of_none hq hp3
    have es : cs.set i b = (cs.take i ++ [b]) ++ cs.drop (i + 1) := by
      rw [List.set_eq_take_append_cons_drop, if_pos hi, List.append_assoc]
      rfl
    refine ⟨q, p3, _, _, rfl, rfl, SqT.of (by rw [upd_ne nq]; exact hq), SqT.of upd_same, ?_, fun z => ?_, fun _ z => ?_, fun _ _ p4 hp4 => ?_⟩
    · simp only [List.length_map, List.length_append, List.length_take, List.length_drop, List.length_singleton]
      rw [sizeLine_eq]
      omega
    · simp at z
    · have z' : cs.drop (i + 1) = [] := List.map_eq_nil_iff.mp z
      refine k q _ x3 ?_
      rw [upd_ne nq, hq, es, z', List.append_nil]
    · refine k p4 _ (x3.trans (exn hp4)) ?_
      rw [upd_same, es, List.map_append (l₁ := cs.take i ++ [b])]
  refine ⟨p1, p2, _, _, rfl, rfl, SqT.of (by rw [upd_ne n12]; exact upd_same), SqT.of upd_same, ?_, fun z => ?_, fun _ z => (by cases z), fun _ _ p3 hp3 => ?_⟩
  · simp only [List.length_map, List.length_take, List.length_singleton]
    rw [sizeLine_eq]
    omega
  · have z' : cs.take i = [] := List.map_eq_nil_iff.mp z
    refine rest p2 _ x2 ?_
    rw [upd_same, z']
    rfl
  · refine rest p3 _ (x2.trans (exn hp3)) ?_
    rw [upd_same, List.map_append]
    rfl
theorem ok_half_so (T : Txt K mg) : Has P w K mg base "half_so" ["cube", "place", "bit"] 1 spHalf := by
  refine T.d_half_so.ok sc_half_so (fun vs H Q E h => ?_) (fun f cdv A outer s H vs Q E hr h => ?_)
  · obtain ⟨c, cs, i, b, rfl, _⟩ := h
    rfl
  · obtain ⟨c, cs, i, b, rfl, hc, hl, hi, k⟩ := h
    exact ⟨_, (pss_one (ps_ret (pe_op op_catA (pe_op op_catA (pe_slice sl_tupA (pv 0) po_none (po_some (pv 1))) (pe_tup (pa_cons (pv 2) pa_nil))) (pe_slice sl_tupA (pv 0) (po_some (pe_op op_add (pv 1) pe_int)) po_none)))), half_reads hc hl hi k _ rfl rfl rfl⟩
theorem ok_law_half (T : Txt K mg) : Has P w K mg base "_law_half" ["_law_cube", "_law_place", "_law_bit"] 1 spHalf := by
  refine T.d_law_half.ok sc_law_half (fun vs H Q E h => ?_) (fun f cdv A outer s H vs Q E hr h => ?_)
  · obtain ⟨c, cs, i, b, rfl, _⟩ := h
    rfl
  · obtain ⟨c, cs, i, b, rfl, hc, hl, hi, k⟩ := h
    exact ⟨_, (pss_one (ps_ret (pe_op op_catA (pe_op op_catA (pe_slice sl_tupA (pv 0) po_none (po_some (pv 1))) (pe_tup (pa_cons (pv 2) pa_nil))) (pe_slice sl_tupA (pv 0) (po_some (pe_op op_add (pv 1) pe_int)) po_none)))), half_reads hc hl hi k _ rfl rfl rfl⟩
def spHalves : Sp := fun vs H Q _ => ∃ (c : Addr) (cs : List Int) (i : Nat), vs = [.ref c, .int i] ∧ H c = some (.tup (cs.map V.int)) ∧ cs.length ≤ 8 ∧ i < cs.length ∧
  ∀ (p a b : Addr) H', Ex H H' → H' p = some (.tup [.ref a, .ref b]) → H' a = some (.tup ((cs.set i 1).map V.int)) → H' b = some (.tup ((cs.set i 0).map V.int)) → Q (.ref p) H'
theorem ok_halves_of (T : Txt K mg) : Has P w K mg base "halves_of" ["cube", "place"] 2 spHalves := by
  refine T.d_halves_of.ok sc_halves_of (fun vs H Q E h => ?_) (fun f cdv A outer s H vs Q E hr h => ?_)
  · obtain ⟨c, cs, i, rfl, _⟩ := h
    rfl
  · obtain ⟨c, cs, i, rfl, hc, hl, hi, k⟩ := h
    have G_half_so := ok_half_so (P := P) (w := w) (base := base) T
    refine ⟨_, (pss_one (ps_ret (pe_tup (pa_cons (pe_has G_half_so (hr.mono (by decide)) (pa_cons (pv 0) (pa_cons (pv 1) (pa_cons pe_int pa_nil)))) (pa_cons (pe_has G_half_so (hr.mono (by decide)) (pa_cons (pv 0) (pa_cons (pv 1) (pa_cons pe_int pa_nil)))) pa_nil))))), ?_⟩
    refine ⟨_, rfl, _, rfl, c, cs, i, 1, rfl, hc, hl, hi, fun a H1 e1 ha => ?_⟩
    refine ⟨_, rfl, _, rfl, c, cs, i, 0, rfl, e1 _ _ hc, hl, hi, fun b H2 e2 hb => ?_⟩
    refine ⟨(by show 2 ≤ sizeLine; decide), fun p hp => ?_⟩
    have x := exn (o := HO.tup [V.ref a, V.ref b]) hp
    exact k p a b _ ((e1.trans e2).trans x) upd_same (x _ _ (e2 _ _ ha)) (x _ _ hb)
def spCube : Sp := fun vs H Q _ => ∃ n : Nat, vs = [.int n] ∧ 1 ≤ n ∧ n ≤ 8 ∧ RetT ((root n).map V.int) H Q
theorem ok_cube_so (T : Txt K mg) : Has P w K mg base "cube_so" ["many"] 1 spCube := by
  refine T.d_cube_so.ok sc_cube_so (fun vs H Q E h => ?_) (fun f cdv A outer s H vs Q E hr h => ?_)
  · obtain ⟨n, rfl, _⟩ := h
    rfl
  · obtain ⟨n, rfl, h1, h8, k⟩ := h
    refine ⟨_, (pss_one (ps_ret (pe_op op_repN (pe_tup (pa_cons (pe_glob (v := .int 2) rfl T.c_FREE.choose_spec ⟨_, rfl⟩) pa_nil)) (pv 0)))), ?_⟩
    refine ⟨(by show 1 ≤ sizeLine; decide), fun p hp => ⟨_, rfl, p, n, .int 2, rfl, rfl, SqT.of upd_same, h1, by omega, fun e => ?_, fun _ q hq => ?_⟩⟩
    · subst e
      exact k p _ (exn hp) upd_same
    · refine k q _ ((exn hp).trans (exn hq)) ?_
      rw [upd_same]
      unfold root
      rw [List.map_replicate]
end
end Fa

set_option Elab.async false
set_option linter.all false
set_option maxRecDepth 100000
set_option maxHeartbeats 4000000
namespace Fa
open PySem PySem.Spec PyProof.Rows L2 Evl

/-! ### sizes -/
theorem pig {α : Type} [DecidableEq α] : ∀ (l M : List α), l.Nodup → (∀ x ∈ l, x ∈ M) → l.length ≤ M.length
  | [], _, _, _ => Nat.zero_le _
  | x :: l, M, hn, hs => by
    obtain ⟨h1, h2⟩ := List.nodup_cons.mp hn
    have hx : x ∈ M := hs x List.mem_cons_self
    have ih := pig l (M.erase x) h2 fun y hy => (List.mem_erase_of_ne (fun e => h1 (by rw [← e]; exact hy))).2 (hs y (List.mem_cons_of_mem _ hy))
    have e := List.length_erase_of_mem hx
    have hp : 0 < M.length := List.length_pos_of_mem hx
    rw [List.length_cons]
    omega
def allC : Nat → List (List Int)
  | 0 => [[]]
  | n + 1 => (allC n).flatMap fun c => [0 :: c, 1 :: c, 2 :: c]
theorem mem_allC : ∀ {n : Nat} {c : List Int}, OkC n c → c ∈ allC n
  | 0, c, h => by
    have : c = [] := List.eq_nil_of_length_eq_zero h.1
    rw [this]
    exact List.mem_cons_self
  | n + 1, [], h => by
    have := h.1
    simp at this
  | n + 1, x :: c, h => by
    have hc : OkC n c := ⟨by have := h.1; simp at this; exact this, fun y hy => h.2 y (List.mem_cons_of_mem _ hy)⟩
    refine List.mem_flatMap.mpr ⟨c, mem_allC hc, ?_⟩
    rcases h.2 x List.mem_cons_self with e | e | e <;> subst e <;> simp
theorem len_allC (n : Nat) : (allC n).length = 3 ^ n := by
  induction n with
  | zero => rfl
  | succ n ih =>
    have aux : ∀ l : List (List Int), (l.flatMap fun c => [0 :: c, 1 :: c, 2 :: c]).length = l.length * 3 := by
      intro l
      induction l with
      | nil => rfl
      | cons a l ih2 =>
        rw [List.flatMap_cons, List.length_append, ih2, List.length_cons]
        simp only [List.length_cons, List.length_nil]
        omega
    show ((allC n).flatMap fun c => [0 :: c, 1 :: c, 2 :: c]).length = _
    rw [aux, ih, Nat.pow_succ]

/-! ### dicts of what was worked out -/
theorem valV_mem {κ : Type} [DecidableEq κ] {kvs : List (κ × V)} {k : κ} {v : V} (h : valV kvs k = some v) : (k, v) ∈ kvs := by
  unfold valV at h
  obtain ⟨p, hp, rfl⟩ := Option.map_eq_some_iff.mp h
  have h1 := List.mem_of_find?_eq_some hp
  have h2 := List.find?_some hp
  have h3 : p.1 = k := of_decide_eq_true h2
  rw [← h3]
  exact h1
structure Memo (n : Nat) (f : List Int → V) (kvs : List (List Key × V)) : Prop where
  nd : (kvs.map (·.1)).Nodup
  ok : ∀ p ∈ kvs, ∃ cs, p.1 = ck cs ∧ OkC n cs ∧ p.2 = f cs
theorem Memo.nil (n : Nat) (f : List Int → V) : Memo n f [] := ⟨List.nodup_nil, fun p h => by cases h⟩
theorem Memo.val {n : Nat} {f : List Int → V} {kvs : List (List Key × V)} (m : Memo n f kvs) {cs : List Int} {v : V} (h : valV kvs (ck cs) = some v) : v = f cs := by
  obtain ⟨c, h1, _, h2⟩ := m.ok _ (valV_mem h)
  rw [ck_inj h1]
  exact h2
theorem Memo.put {n : Nat} {f : List Int → V} {kvs : List (List Key × V)} (m : Memo n f kvs) {cs : List Int} (hc : OkC n cs) : Memo n f (putK kvs (ck cs) (f cs)) := by
  cases e : valV kvs (ck cs) with
  | none =>
    refine ⟨nd_putK _ m.nd e, fun p hp => ?_⟩
    rw [putK_new _ e] at hp
    rcases List.mem_append.mp hp with h | h
    · exact m.ok p h
    · rw [List.mem_singleton.mp h]
      exact ⟨cs, rfl, hc, rfl⟩
  | some v =>
    have hany : (kvs.any fun kv => decide (kv.1 = ck cs)) = true := by rw [valV_any, e]; rfl
    unfold putK
    rw [if_pos hany]
    refine ⟨?_, fun p hp => ?_⟩
    · have e2 : (kvs.map fun kv => if kv.1 = ck cs then (kv.1, f cs) else kv).map (·.1) = kvs.map (·.1) := by
        rw [List.map_map]
        apply List.map_congr_left
        intro q _
        show (if q.1 = ck cs then (q.1, f cs) else q).1 = q.1
        split <;> rfl
      rw [e2]
      exact m.nd
    · obtain ⟨q, hq, rfl⟩ := List.mem_map.mp hp
      obtain ⟨c, h1, h2, h3⟩ := m.ok q hq
      by_cases hk : q.1 = ck cs
      · rw [if_pos hk]
        exact ⟨cs, hk, hc, rfl⟩
      · rw [if_neg hk]
        exact ⟨c, h1, h2, h3⟩
theorem Memo.len {n : Nat} {f : List Int → V} {kvs : List (List Key × V)} (m : Memo n f kvs) (hn : n ≤ 8) : kvs.length < sizeLine := by
  have h := pig (kvs.map (·.1)) ((allC n).map ck) m.nd fun k hk => by
    obtain ⟨p, hp, rfl⟩ := List.mem_map.mp hk
    obtain ⟨c, h1, h2, _⟩ := m.ok p hp
    rw [h1]
    exact List.mem_map.mpr ⟨c, mem_allC h2, rfl⟩
  rw [List.length_map, List.length_map, len_allC] at h
  have h3 : 3 ^ n ≤ 3 ^ 8 := Nat.pow_le_pow_right (by decide) hn
  have h4 : (3 : Nat) ^ 8 = 6561 := by decide
  rw [sizeLine_eq]
  omega
def hasK (kvs : List (List Key × V)) (cs : List Int) : Prop := (valV kvs (ck cs)).isSome = true
def Grow (kvs kvs' : List (List Key × V)) : Prop := ∀ cs, hasK kvs cs → hasK kvs' cs
theorem Grow.refl (kvs : List (List Key × V)) : Grow kvs kvs := fun _ h => h
theorem Grow.trans {a b c : List (List Key × V)} (h : Grow a b) (k : Grow b c) : Grow a c := fun x z => k x (h x z)
theorem grow_put (kvs : List (List Key × V)) (cs : List Int) (v : V) : Grow kvs (putK kvs (ck cs) v) := fun c h => by
  unfold hasK at *
  rw [valV_put]
  split
  · rfl
  · exact h
theorem has_put (kvs : List (List Key × V)) (cs : List Int) (v : V) : hasK (putK kvs (ck cs) v) cs := by
  unfold hasK
  rw [valV_put, if_pos rfl]
  rfl
theorem put_val (kvs : List (List Key × V)) (cs : List Int) (v : V) : valV (putK kvs (ck cs) v) (ck cs) = some v := by rw [valV_put, if_pos rfl]
theorem has_val {kvs : List (List Key × V)} {cs : List Int} (h : hasK kvs cs) : ∃ v, valV kvs (ck cs) = some v := Option.isSome_iff_exists.mp h

/-! ### heaps in which one object, or two, may turn -/
def But1 (d : Addr) (H H' : Hp) : Prop := ∀ c o, H c = some o → c ≠ d → H' c = some o
theorem But1.of_ex {d : Addr} {H H' : Hp} (e : Ex H H') : But1 d H H' := fun c o h _ => e c o h
theorem But1.trans {d : Addr} {H H1 H2 : Hp} (a : But1 d H H1) (b : But1 d H1 H2) : But1 d H H2 := fun c o h k => b c o (a c o h k) k
theorem But1.upd {d : Addr} {H H' : Hp} {o : HO} (a : But1 d H H') : But1 d H (upd H' d o) := fun c u h k => by rw [upd_ne k]; exact a c u h k
theorem kd_half {ns cs : List Int} {i : Nat} (hi : i ∈ free cs) : Builtin.bitOr (kd ns (cs.set i 1)) (kd ns (cs.set i 0)) = kd ns cs := by
  have hf := mem_free.mp hi
  unfold kd
  rw [hasV_half (b := 0) hf, hasV_half (b := 1) hf]
  cases hasV ns (cs.set i 1) 0 <;> cases hasV ns (cs.set i 1) 1 <;> cases hasV ns (cs.set i 0) 0 <;> cases hasV ns (cs.set i 0) 1 <;> decide +kernel
theorem sum_row : ∀ cs : List Int, ((List.range cs.length).map fun i => cs.getD i 0 * 2 ^ i).sum = rowOf cs
  | [] => rfl
  | x :: cs => by
    rw [List.length_cons, List.range_succ_eq_map, List.map_cons, List.map_map, List.sum_cons]
    have e : (List.range cs.length).map ((fun i => (x :: cs).getD i 0 * 2 ^ i) ∘ Nat.succ) = ((List.range cs.length).map fun i => cs.getD i 0 * 2 ^ i).map fun z => 2 * z := by
      rw [List.map_map]
      apply List.map_congr_left
      intro i _
      show (x :: cs).getD (i + 1) 0 * 2 ^ (i + 1) = 2 * (cs.getD i 0 * 2 ^ i)
      rw [List.getD_cons_succ, Int.pow_succ, ← Int.mul_assoc, Int.mul_comm]
    have e2 : ∀ l : List Int, (l.map fun z => 2 * z).sum = 2 * l.sum := by
      intro l
      induction l with
      | nil => rfl
      | cons a l ih => rw [List.map_cons, List.sum_cons, List.sum_cons, ih]; omega
    rw [e, e2, sum_row cs]
    simp [rowOf]
section
variable {P : Program} {w : World} {K : PySem.W.Frag} {mg : Str → Option Value} {base : Heap}
theorem DefAt.never {x : Str} {st : Stmt} {ps : List Str} {sp : Sp} (d : DefAt K mg x st ps) (k : Nat) (h : ∀ vs H Q E, ¬ sp vs H Q E) : Has P w K mg base x ps k sp := by
  obtain ⟨f, fd, F, m, b⟩ := d.ex
  exact ⟨f, fd, ⟨fun vs H Q E z => absurd z (h vs H Q E), fun A outer s H args us vs Q E _ _ _ _ z => absurd z (h vs H Q E)⟩, m, F.kp, b⟩
def kdV (ns : List Int) : List Int → V := fun cs => .int (kd ns cs)
def spKinds (m : Nat) : Sp := fun vs H Q _ => ∃ (a c d : Addr) (n : Nat) (ns cs : List Int) (kvs : List (List Key × V)), vs = [.ref a, .ref c, .ref d] ∧ n ≤ 8 ∧ OkV n ns ∧ OkC n cs ∧ cnt cs < m ∧ H a = some (.tup (ns.map V.int)) ∧ H c = some (.tup (cs.map V.int)) ∧
  H d = some (.dT kvs) ∧ Memo n (kdV ns) kvs ∧ ∀ H' kvs', But1 d H H' → H' d = some (.dT kvs') → Memo n (kdV ns) kvs' → Grow kvs kvs' → hasK kvs' cs → Q (.int (kd ns cs)) H'
theorem ok_kinds_so (T : Txt K mg) : ∀ m, Has P w K mg base "kinds_so" ["values", "cube", "known"] (4 + m) (spKinds m)
  | 0 => T.d_kinds_so.never _ fun vs H Q E ⟨_, _, _, _, _, _, _, _, _, _, _, h, _⟩ => absurd h (Nat.not_lt_zero _)
  | m + 1 => by
    have G_kinds_so := ok_kinds_so T m
    have G_free_bits := ok_free_bits (P := P) (w := w) (base := base) T
    have G_halves_of := ok_halves_of (P := P) (w := w) (base := base) T
    refine T.d_kinds_so.ok sc_kinds_so (fun vs H Q E h => ?_) (fun f cdv A outer s H vs Q E hr h => ?_)
    · obtain ⟨a, c, d, n, ns, cs, kvs, rfl, _⟩ := h
      rfl
    · obtain ⟨a, c, d, n, ns, cs, kvs, rfl, hn, hv, hc, hm, ha, hcu, hd, mm, k⟩ := h
      have hu := hu_of hr
      change Room (4 + m) _ at hr
      refine ⟨_, (pss_cons (ps_if (pt_cmp (pc_dnotin hu (pv 1) (pv 2)) rfl) (pss_cons (ps_set (i := 3) sc_kinds_so.nd rfl (Or.inl rfl) (pe_has G_free_bits (hr.mono (by omega)) (pa_cons (pv 1) pa_nil)))
      (pss_one (ps_if (pt_cmpR op_eq (pe_callB call_len_seq (by rfl) T.b_len PySem.boot_len (pa_cons (pv 3) pa_nil)) pe_int (nomark _)) (pss_cons (ps_set (i := 4) sc_kinds_so.nd rfl (Or.inl rfl) (pe_callB (cr_sum rfl) (by rfl) T.b_sum (by decide +kernel) (pa_cons (pe_lc (own := [("place", 7), ("bit", 8)]) (g := gTup K 2 (gCons (gName 7) (gCons (gName 8) (gNil)))) (by rfl) sc_kinds_so.nd (pi_enT T.b_enumerate (pa_cons (pv 1) pa_nil)) (blkOk_by (own := [("place", 7), ("bit", 8)]) (N := n_kinds_so) (sc := defScope s_kinds_so) (by decide +kernel)) (fun _ _ _ _ _ => (pg_tup (by rfl) (pgs_cons (pg_name (i := 7) sc_kinds_so.nd rfl (Or.inl rfl)) (pgs_cons (pg_name (i := 8) sc_kinds_so.nd rfl (Or.inl rfl)) pgs_nil)))) (fun _ _ _ _ _ => pts_nil) (fun _ _ _ _ _ => (pe_op op_shl (pv 8) (pv 7)))) pa_nil)))
      (pss_one (ps_dput hu (pv 2) (pv 1) (pe_op op_add pe_int (pe_ix ix_tup (pv 0) (pv 4) (fun _ _ => rfl))) rfl))) (pss_cons (ps_asg (pe_has G_halves_of (hr.mono (by omega)) (pa_cons (pv 1) (pa_cons (pe_ix ix_list (pv 3) pe_int (fun _ _ => rfl)) pa_nil))) (pg_tup (by rfl) (pgs_cons (pg_name (i := 5) sc_kinds_so.nd rfl (Or.inl rfl)) (pgs_cons (pg_name (i := 6) sc_kinds_so.nd rfl (Or.inl rfl)) pgs_nil))))
      (pss_one (ps_dput hu (pv 2) (pv 1) (pe_op op_or (pe_has G_kinds_so (hr.mono (by omega)) (pa_cons (pv 0) (pa_cons (pv 5) (pa_cons (pv 2) pa_nil)))) (pe_has G_kinds_so (hr.mono (by omega)) (pa_cons (pv 0) (pa_cons (pv 6) (pa_cons (pv 2) pa_nil))))) rfl)))))) pss_nil)
      (pss_one (ps_ret (pe_dget hu (pv 2) (pv 1) (fun _ _ => rfl))))), ?_⟩
      have hl : cs.length ≤ 8 := by rw [hc.1]; exact hn
      have ncd : c ≠ d := ne_of hcu hd (by intro z; cases z)
      have nad : a ≠ d := ne_of ha hd (by intro z; cases z)
      have key : ∀ {H' : Hp}, H' c = some (.tup (cs.map V.int)) → H' c = some (.tup ((ck cs).map kV)) := fun h => by rw [ck_kV]; exact h
      -- the end: what stands in the dict is handed back
      have fin : ∀ {σ : L2.St} {H' : Hp} {kvs' : List (List Key × V)}, σ[1]? = some (some (.ref c)) → σ[2]? = some (some (.ref d)) → But1 d H H' → H' d = some (.dT kvs') → Memo n (kdV ns) kvs' → Grow kvs kvs' → hasK kvs' cs →
          tRet (tDGet (tVar 2) (tVar 1)) { nx := fun _ H' => Q .non H', rt := Q } σ H' := by
        intro σ H' kvs' h1 h2 bt hd' mm' gr hk
        obtain ⟨v, ev⟩ := has_val hk
        refine ⟨_, h2, _, h1, d, v, rfl, ?_, ?_⟩
        · have g := DGet.t (k := ck cs) hd' (key (bt c _ hcu ncd))
          rw [ev] at g
          exact g
        · rw [mm'.val ev]
          exact k H' kvs' bt hd' mm' gr hk
      refine ⟨_, rfl, _, rfl, d, _, rfl, DGet.t (k := ck cs) hd (key hcu), _, rfl, ?_⟩
      cases e : valV kvs (ck cs) with
      | some v => exact iteF (fin rfl rfl (But1.of_ex (exr H)) hd mm (Grow.refl _) (by unfold hasK; rw [e]; rfl))
      | none =>
        refine iteT ?_
        refine ⟨_, rfl, c, cs, rfl, hcu, hl, fun p H1 e1 hp => ?_⟩
        refine ⟨_, rfl, p, _, rfl, .inl (SqL.of hp), rfl, _, rfl, ?_⟩
        refine ite2 (fun z => ?_) (fun z => ?_)
        · -- no free bit
          have z1 : ((((free cs).map fun i => V.int (i : Nat)).length : Nat) : Int) = 0 := V.int.inj (of_decide_eq_true z)
          have fr : free cs = [] := by
            rw [List.length_map] at z1
            exact List.eq_nil_of_length_eq_zero (by omega)
          have c0 := free_cnt fr
          refine ⟨_, rfl, c, _, rfl, SqT.of (e1 _ _ hcu), fun L hL => ?_⟩
          refine lc_pairs (walk_enT (xs := cs.map V.int)) hL (by rw [List.length_map]; omega) (fun H' e2 => SqT.of (e2 _ _ (e1 _ _ hcu))) (fun _ _ => rfl) (fun _ => true) (fun i => V.int (cs.getD i 0 * 2 ^ i)) ?_ ?_ fun H2 e2 h2 => ?_
          · exact fun i x y H2 hi e2 q1 q2 => fun H3 e3 Q' q' => q' H3 (Evl.Ex.refl H3)
          · intro i x y H2 hi e2 q1 q2 _
            cases q1
            obtain ⟨b, hb, rfl⟩ := at_ints q2
            rw [List.length_map] at hi
            have hb2 := hc.2 b (List.mem_of_getElem? hb)
            have z2 : V.int (b * 2 ^ ((i : Int)).toNat) = V.int (cs.getD i 0 * 2 ^ i) := by rw [get_ints hb, Int.toNat_natCast]
            rw [← z2]
            exact ev_op (ev_var rfl) (ev_var rfl) (rv_I (C := CPow) (g := fun i j => V.int (i * 2 ^ j.toNat)) ⟨by omega, by omega, by rcases hb2 with q | q | q <;> subst q <;> decide⟩)
          · have el : given (cs.map V.int).length (fun _ => true) (fun i => V.int (cs.getD i 0 * 2 ^ i)) = ((List.range cs.length).map fun i => cs.getD i 0 * 2 ^ i).map V.int := by
              unfold given
              rw [List.length_map, List.filter_eq_self.mpr (fun _ _ => rfl), List.map_map]
              rfl
            rw [el] at h2
            refine ⟨L, _, rfl, SqL.of h2, ?_⟩
            rw [sum_row]
            have hrow := rowOf_lt hc.2 c0
            have eh : H2 d = some (.dT kvs) := e2 _ _ (e1 _ _ hd)
            have hlt : (rowOf cs).toNat < ns.length := by rw [hv.1, ← hc.1]; omega
            have hat : ns[(rowOf cs).toNat]? = some (ns.getD (rowOf cs).toNat 0) := by
              rw [List.getD_eq_getElem?_getD, List.getElem?_eq_getElem hlt]
              rfl
            have h01 := hv.2 _ (List.mem_of_getElem? hat)
            have eat : atI (ns.map V.int) (rowOf cs) = some (V.int (ns.getD (rowOf cs).toNat 0)) := by
              have q := atI_nat (ints_at hat)
              rw [show (((rowOf cs).toNat : Nat) : Int) = rowOf cs by omega] at q
              exact q
            refine ⟨_, rfl, _, rfl, _, _, _, _, rfl, rfl, SqT.of (e2 _ _ (e1 _ _ ha)), eat, _, _, rfl, rfl, ?_⟩
            have ev : V.int (1 + ns.getD (rowOf cs).toNat 0) = kdV ns cs := congrArg V.int (kd_one hc c0 h01).symm
            refine ⟨_, rfl, _, rfl, d, _, rfl, DPut.t eh (key (e2 _ _ (e1 _ _ hcu))) (mm.len hn), ?_⟩
            refine fin rfl rfl (But1.upd (But1.of_ex (e1.trans e2))) upd_same ?_ (grow_put _ _ _) (has_put _ _ _)
            show Memo n (kdV ns) (putK kvs (ck cs) (V.int (1 + ns.getD (rowOf cs).toNat 0)))
            rw [ev]
            exact mm.put hc
        · -- by its first free bit
          have z1 : ¬ ((((free cs).map fun i => V.int (i : Nat)).length : Nat) : Int) = 0 := fun q => z (decide_eq_true (congrArg V.int q))
          obtain ⟨i, r, fr⟩ : ∃ i r, free cs = i :: r := by
            cases q : free cs with
            | nil => rw [q] at z1; simp at z1
            | cons i r => exact ⟨i, r, rfl⟩
          have hi : i ∈ free cs := by rw [fr]; exact List.mem_cons_self
          have hf := mem_free.mp hi
          have hil : i < cs.length := (List.getElem?_eq_some_iff.mp hf).1
          have c1 := cnt_set (b := 1) hf (by decide)
          have c0 := cnt_set (b := 0) hf (by decide)
          refine ⟨_, rfl, _, rfl, _, _, _, _, rfl, rfl, SqL.of hp, (by rw [fr]; exact atI_nat (j := 0) rfl), c, cs, i, rfl, e1 _ _ hcu, hl, hil, fun p2 x y H2 e2 hp2 hx hy => ?_⟩
          refine ⟨p2, _, rfl, SqT.of hp2, rfl, _, _, rfl, _, _, rfl, rfl, ?_⟩
          have x2 := e1.trans e2
          refine ⟨_, rfl, _, rfl, _, rfl, a, x, d, n, ns, _, kvs, rfl, hn, hv, hc.set i (.inr rfl), by omega, x2 _ _ ha, hx, x2 _ _ hd, mm, fun H3 kv3 b3 hd3 m3 g3 _ => ?_⟩
          have t3 : But1 d H H3 := (But1.of_ex x2).trans b3
          have nyd : y ≠ d := ne_of hy (x2 _ _ hd) (by intro q; cases q)
          refine ⟨_, rfl, _, rfl, _, rfl, a, y, d, n, ns, _, kv3, rfl, hn, hv, hc.set i (.inl rfl), by omega, t3 _ _ ha nad, b3 _ _ hy nyd, hd3, m3, fun H4 kv4 b4 hd4 m4 g4 _ => ?_⟩
          have t4 := t3.trans b4
          refine ⟨_, _, rfl, rfl, _, rfl, _, rfl, d, _, rfl, DPut.t hd4 (key (t4 _ _ hcu ncd)) (m4.len hn), ?_⟩
          have ev : V.int (Builtin.bitOr (kd ns (cs.set i 1)) (kd ns (cs.set i 0))) = kdV ns cs := congrArg V.int (kd_half hi)
          refine fin rfl rfl (But1.upd t4) upd_same ?_ ((g3.trans g4).trans (grow_put _ _ _)) (has_put _ _ _)
          show Memo n (kdV ns) (putK kv4 (ck cs) (V.int (Builtin.bitOr (kd ns (cs.set i 1)) (kd ns (cs.set i 0)))))
          rw [ev]
          exact m4.put hc
end
end Fa

set_option Elab.async false
set_option linter.all false
set_option maxRecDepth 100000
set_option maxHeartbeats 4000000
namespace Fa
open PySem PySem.Spec PyProof.Rows L2 Evl

theorem But.of_ex {a b : Addr} {H H' : Hp} (e : Ex H H') : But a b H H' := fun c o h _ _ => e c o h
theorem But.trans {a b : Addr} {H H1 H2 : Hp} (x : But a b H H1) (y : But a b H1 H2) : But a b H H2 := fun c o h k1 k2 => y c o (x c o h k1 k2) k1 k2
theorem But.left {a b : Addr} {H H' : Hp} (x : But1 a H H') : But a b H H' := fun c o h k1 _ => x c o h k1
theorem But.upd2 {a b : Addr} {H H' : Hp} {o : HO} (x : But a b H H') : But a b H (upd H' b o) := fun c u h k1 k2 => by rw [upd_ne k2]; exact x c u h k1 k2
def dV (ns : List Int) : List Int → V := fun cs => .int (D ns cs : Nat)
/-- the dicts kinds and known, as far as they are worked out -/
structure Known (n : Nat) (ns : List Int) (kk kn : List (List Key × V)) : Prop where
  ki : Memo n (kdV ns) kk
  mn : Memo n (dV ns) kn
  cl : ∀ cs, hasK kn cs → bothB ns cs = true → ∀ i ∈ free cs, hasK kn (cs.set i 1) ∧ hasK kn (cs.set i 0)
  sub : ∀ cs, hasK kn cs → hasK kk cs
theorem Known.nil (n : Nat) (ns : List Int) : Known n ns [] [] := ⟨Memo.nil _ _, Memo.nil _ _, fun cs h => (by cases h), fun cs h => (by cases h)⟩
theorem Known.kinds {n : Nat} {ns : List Int} {kk kk' kn : List (List Key × V)} (x : Known n ns kk kn) (m : Memo n (kdV ns) kk') (g : Grow kk kk') : Known n ns kk' kn := ⟨m, x.mn, x.cl, fun cs h => g cs (x.sub cs h)⟩
theorem hasK_put {kvs : List (List Key × V)} {cs c : List Int} {v : V} (h : hasK (putK kvs (ck cs) v) c) : c = cs ∨ hasK kvs c := by
  unfold hasK at *
  rw [valV_put] at h
  by_cases e : ck c = ck cs
  · exact .inl (ck_inj e)
  · rw [if_neg e] at h
    exact .inr h
theorem Known.put {n : Nat} {ns : List Int} {kk kn : List (List Key × V)} (x : Known n ns kk kn) {cs : List Int} (hc : OkC n cs) (hk : hasK kk cs) (h : bothB ns cs = true → ∀ i ∈ free cs, hasK kn (cs.set i 1) ∧ hasK kn (cs.set i 0)) : Known n ns kk (putK kn (ck cs) (dV ns cs)) := by
  have g := grow_put kn cs (dV ns cs)
  refine ⟨x.ki, x.mn.put hc, fun c hh hb i hi => ?_, fun c hh => ?_⟩
  · rcases hasK_put hh with e | hh
    · subst e
      exact ⟨g _ (h hb i hi).1, g _ (h hb i hi).2⟩
    · exact ⟨g _ (x.cl c hh hb i hi).1, g _ (x.cl c hh hb i hi).2⟩
  · rcases hasK_put hh with e | hh
    · subst e; exact hk
    · exact x.sub c hh
def bestV : Option Nat → V
  | none => .non
  | some y => .int (y : Nat)
theorem max_nat (x y : Nat) : (if ((y : Nat) : Int) > ((x : Nat) : Int) then ((y : Nat) : Int) else ((x : Nat) : Int)) = ((max x y : Nat) : Int) := by
  by_cases h : x < y
  · rw [if_pos (by omega), Nat.max_eq_right (by omega)]
  · rw [if_neg (by omega), Nat.max_eq_left (by omega)]
section
variable {P : Program} {w : World} {K : PySem.W.Frag} {mg : Str → Option Value} {base : Heap}
def spFew (m : Nat) : Sp := fun vs H Q _ => ∃ (a c d e : Addr) (n : Nat) (ns cs : List Int) (kk kn : List (List Key × V)), vs = [.ref a, .ref c, .ref d, .ref e] ∧ d ≠ e ∧ n ≤ 8 ∧ OkV n ns ∧ OkC n cs ∧ cnt cs < m ∧ H a = some (.tup (ns.map V.int)) ∧ H c = some (.tup (cs.map V.int)) ∧
  H d = some (.dT kk) ∧ H e = some (.dT kn) ∧ Known n ns kk kn ∧ ∀ H' kk' kn', But d e H H' → H' d = some (.dT kk') → H' e = some (.dT kn') → Known n ns kk' kn' → Grow kk kk' → Grow kn kn' → hasK kn' cs → Q (.int (D ns cs : Nat)) H'
theorem ok_fewest_so (T : Txt K mg) : ∀ m, Has P w K mg base "fewest_so" ["values", "cube", "kinds", "known"] (14 + m) (spFew m)
  | 0 => T.d_fewest_so.never _ fun vs H Q E ⟨_, _, _, _, _, _, _, _, _, _, _, _, _, _, h, _⟩ => absurd h (Nat.not_lt_zero _)
  | m + 1 => by
    have G_fewest_so := ok_fewest_so T m
    have G_kinds_so := ok_kinds_so (P := P) (w := w) (base := base) T 9
    have G_free_bits := ok_free_bits (P := P) (w := w) (base := base) T
    have G_halves_of := ok_halves_of (P := P) (w := w) (base := base) T
    refine T.d_fewest_so.ok sc_fewest_so (fun vs H Q E h => ?_) (fun f cdv A outer s H vs Q E hr h => ?_)
    · obtain ⟨a, c, d, e, n, ns, cs, kk, kn, rfl, _⟩ := h
      rfl
    · obtain ⟨a, c, d, e, n, ns, cs, kk, kn, rfl, hde, hn, hv, hc, hm, ha, hcu, hd, he, hK, k⟩ := h
      have hu := hu_of hr
      change Room (14 + m) _ at hr
      refine ⟨_, (pss_cons (ps_if (pt_cmp (pc_dnotin hu (pv 1) (pv 3)) rfl) (pss_cons (ps_set (i := 4) sc_fewest_so.nd rfl (Or.inl rfl) pe_int)
      (pss_cons (ps_if (pt_cmpR op_eq (pe_has G_kinds_so (hr.mono (by omega)) (pa_cons (pv 0) (pa_cons (pv 1) (pa_cons (pv 2) pa_nil)))) pe_int (nomark _)) (pss_cons (ps_set (i := 4) sc_fewest_so.nd rfl (Or.inl rfl) pe_non)
      (pss_one (ps_for PassesOwn.never rfl (pi_list (pe_has G_free_bits (hr.mono (by omega)) (pa_cons (pv 1) pa_nil))) (pg_name (i := 5) sc_fewest_so.nd rfl (Or.inl rfl)) (pss_cons (ps_asg (pe_has G_halves_of (hr.mono (by omega)) (pa_cons (pv 1) (pa_cons (pv 5) pa_nil))) (pg_tup (by rfl) (pgs_cons (pg_name (i := 6) sc_fewest_so.nd rfl (Or.inl rfl)) (pgs_cons (pg_name (i := 7) sc_fewest_so.nd rfl (Or.inl rfl)) pgs_nil))))
      (pss_cons (ps_set (i := 8) sc_fewest_so.nd rfl (Or.inl rfl) (pe_op op_add pe_int (pe_callB (call_max2 rfl) (by rfl) T.b_max (by decide +kernel) (pa_cons (pe_has G_fewest_so (hr.mono (by omega)) (pa_cons (pv 0) (pa_cons (pv 6) (pa_cons (pv 2) (pa_cons (pv 3) pa_nil))))) (pa_cons (pe_has G_fewest_so (hr.mono (by omega)) (pa_cons (pv 0) (pa_cons (pv 7) (pa_cons (pv 2) (pa_cons (pv 3) pa_nil))))) pa_nil)))))
      (pss_one (ps_set (i := 4) sc_fewest_so.nd rfl (Or.inl rfl) (pe_ifExp (PW.pt (pw_or (pt_cmp (pc_isN (pv 4)) rfl) (pw_or1 (pt_cmpR op_lt (pv 8) (pv 4) (nomark _))))) (pv 8) (pv 4))))))))) pss_nil)
      (pss_one (ps_dput hu (pv 3) (pv 1) (pv 4) rfl)))) pss_nil)
      (pss_one (ps_ret (pe_dget hu (pv 3) (pv 1) (fun _ _ => rfl))))), ?_⟩
      have hl : cs.length ≤ 8 := by rw [hc.1]; exact hn
      have ncd : c ≠ d := ne_of hcu hd (by intro z; cases z)
      have nce : c ≠ e := ne_of hcu he (by intro z; cases z)
      have nad : a ≠ d := ne_of ha hd (by intro z; cases z)
      have nae : a ≠ e := ne_of ha he (by intro z; cases z)
      have key : ∀ {H' : Hp}, H' c = some (.tup (cs.map V.int)) → H' c = some (.tup ((ck cs).map kV)) := fun h => by rw [ck_kV]; exact h
      have fin : ∀ {σ : L2.St} {H' : Hp} {kk' kn' : List (List Key × V)}, σ[1]? = some (some (.ref c)) → σ[3]? = some (some (.ref e)) → But d e H H' → H' d = some (.dT kk') → H' e = some (.dT kn') → Known n ns kk' kn' → Grow kk kk' → Grow kn kn' → hasK kn' cs →
          tRet (tDGet (tVar 3) (tVar 1)) { nx := fun _ H' => Q .non H', rt := Q } σ H' := by
        intro σ H' kk' kn' h1 h2 bt hd' he' hK' g1 g2 hk
        obtain ⟨v, ev⟩ := has_val hk
        refine ⟨_, h2, _, h1, e, v, rfl, ?_, ?_⟩
        · have g := DGet.t (k := ck cs) he' (key (bt c _ hcu ncd nce))
          rw [ev] at g
          exact g
        · rw [hK'.mn.val ev]
          exact k H' kk' kn' bt hd' he' hK' g1 g2 hk
      -- the store, then the end
      have behind : ∀ {σ : L2.St} {H' : Hp} {kk' kn' : List (List Key × V)}, σ[1]? = some (some (.ref c)) → σ[3]? = some (some (.ref e)) → σ[4]? = some (some (dV ns cs)) → But d e H H' → H' d = some (.dT kk') → H' e = some (.dT kn') → Known n ns kk' kn' → Grow kk kk' → Grow kn kn' →
          hasK kk' cs → (bothB ns cs = true → ∀ i ∈ free cs, hasK kn' (cs.set i 1) ∧ hasK kn' (cs.set i 0)) → sDPut (tVar 3) (tVar 1) (tVar 4) { nx := tRet (tDGet (tVar 3) (tVar 1)) { nx := fun _ H' => Q .non H', rt := Q }, rt := Q } σ H' := by
        intro σ H' kk' kn' h1 h2 h4 bt hd' he' hK' g1 g2 hk hb
        refine ⟨_, h4, _, h2, _, h1, e, _, rfl, DPut.t he' (key (bt c _ hcu ncd nce)) (hK'.mn.len hn), ?_⟩
        exact fin h1 h2 bt.upd2 (by rw [upd_ne hde]; exact hd') upd_same (hK'.put hc hk hb) g1 (g2.trans (grow_put _ _ _)) (has_put _ _ _)
      refine ⟨_, rfl, _, rfl, e, _, rfl, DGet.t (k := ck cs) he (key hcu), _, rfl, ?_⟩
      cases ee : valV kn (ck cs) with
      | some v => exact iteF (fin rfl rfl (But.of_ex (exr H)) hd he hK (Grow.refl _) (Grow.refl _) (by unfold hasK; rw [ee]; rfl))
      | none =>
        refine iteT ?_
        have hcnt : cnt cs < 9 := by have := cnt_le cs; omega
        refine ⟨_, rfl, _, rfl, _, rfl, a, c, d, n, ns, cs, kk, rfl, hn, hv, hc, hcnt, ha, hcu, hd, hK.ki, fun H1 kk1 b1 hd1 m1 g1 hk1 => ?_⟩
        have t1 : But d e H H1 := But.left b1
        have he1 : H1 e = some (.dT kn) := b1 _ _ he (Ne.symm hde)
        have K1 := hK.kinds m1 g1
        refine ⟨rfl, _, rfl, ?_⟩
        refine ite2 (fun z => ?_) (fun z => ?_)
        · have hb : bothB ns cs = true := kd_three.mp (V.int.inj (of_decide_eq_true z))
          refine ⟨_, rfl, c, cs, rfl, t1 _ _ hcu ncd nce, hl, fun p H2 e2 hp => ⟨p, rfl, ⟨_, SqL.of hp⟩, ?_⟩⟩
          have npd : p ≠ d := ne_of hp (e2 _ _ hd1) (by intro q; cases q)
          have npe : p ≠ e := ne_of hp (e2 _ _ he1) (by intro q; cases q)
          refine for_list (K := K) (a := p) (xs := (free cs).map fun i => V.int (i : Nat)) (fun i σ H' => ∃ y5 y6 y7 y8 kk' kn', σ = [some (.ref a), some (.ref c), some (.ref d), some (.ref e), some (bestV (best (((free cs).take i).map (here ns cs)))), y5, y6, y7, y8] ∧
            But d e H2 H' ∧ H' d = some (.dT kk') ∧ H' e = some (.dT kn') ∧ Known n ns kk' kn' ∧ Grow kk1 kk' ∧ Grow kn kn' ∧ ∀ j ∈ (free cs).take i, hasK kn' (cs.set j 1) ∧ hasK kn' (cs.set j 0)) ?_ ?_ ?_ ?_
          · exact ⟨none, none, none, none, kk1, kn, rfl, But.of_ex (exr _), e2 _ _ hd1, e2 _ _ he1, K1, Grow.refl _, Grow.refl _, fun j hj => by cases hj⟩
          · rintro i σ H' _ ⟨_, _, _, _, _, _, _, b, _⟩
            exact SqL.of (b _ _ hp npd npe)
          · rintro i x σ H' hx ⟨y5, y6, y7, y8, kk', kn', rfl, b, hd', he', K', g1', g2', hj'⟩
            have tt : But d e H H' := (t1.trans (But.of_ex e2)).trans b
            obtain ⟨j, hj, rfl⟩ : ∃ j, (free cs)[i]? = some j ∧ x = V.int (j : Nat) := by
              rw [List.getElem?_map] at hx
              cases q : (free cs)[i]? with
              | none => rw [q] at hx; cases hx
              | some j => rw [q] at hx; exact ⟨j, rfl, (Option.some.inj hx).symm⟩
            have hjm : j ∈ free cs := List.mem_of_getElem? hj
            have hf := mem_free.mp hjm
            have hjl : j < cs.length := (List.getElem?_eq_some_iff.mp hf).1
            have c1 := cnt_set (b := 1) hf (by decide)
            have c0 := cnt_set (b := 0) hf (by decide)
            refine ⟨_, rfl, _, rfl, c, cs, j, rfl, tt _ _ hcu ncd nce, hl, hjl, fun p3 x3 y3 H3 e3 hp3 hx3 hy3 => ?_⟩
            refine ⟨p3, _, rfl, SqT.of hp3, rfl, _, _, rfl, _, _, rfl, rfl, ?_⟩
            have tt3 : But d e H H3 := tt.trans (But.of_ex e3)
            refine ⟨_, rfl, _, rfl, _, rfl, _, rfl, a, x3, d, e, n, ns, _, kk', kn', rfl, hde, hn, hv, hc.set j (.inr rfl), by omega, tt3 _ _ ha nad nae, hx3, e3 _ _ hd', e3 _ _ he', K', fun H4 kk4 kn4 b4 hd4 he4 K4 g4 g4' hk4 => ?_⟩
            have nyd : y3 ≠ d := ne_of hy3 (e3 _ _ hd') (by intro q; cases q)
            have nye : y3 ≠ e := ne_of hy3 (e3 _ _ he') (by intro q; cases q)
            have tt4 := tt3.trans b4
            refine ⟨_, rfl, _, rfl, _, rfl, _, rfl, a, y3, d, e, n, ns, _, kk4, kn4, rfl, hde, hn, hv, hc.set j (.inl rfl), by omega, tt4 _ _ ha nad nae, b4 _ _ hy3 nyd nye, hd4, he4, K4, fun H5 kk5 kn5 b5 hd5 he5 K5 g5 g5' hk5 => ?_⟩
            refine ⟨_, _, rfl, _, _, rfl, rfl, ?_⟩
            have b6 : But d e H2 H5 := ((b.trans (But.of_ex e3)).trans b4).trans b5
            have eh : V.int (1 + (if ((D ns (cs.set j 0) : Nat) : Int) > ((D ns (cs.set j 1) : Nat) : Int) then ((D ns (cs.set j 0) : Nat) : Int) else ((D ns (cs.set j 1) : Nat) : Int))) = V.int ((here ns cs j : Nat) : Int) := by
              rw [max_nat]
              unfold here
              exact congrArg V.int (by omega)
            have etk : (free cs).take (i + 1) = (free cs).take i ++ [j] := by
              rw [List.take_add_one, hj]
              rfl
            have done : ∀ σ5, σ5 = [some (.ref a), some (.ref c), some (.ref d), some (.ref e), some (bestV (best (((free cs).take (i + 1)).map (here ns cs)))), some (V.int (j : Nat)), some (V.ref x3), some (V.ref y3), some (V.int ((here ns cs j : Nat) : Int))] →
                ∃ y5 y6 y7 y8 kk' kn', σ5 = [some (.ref a), some (.ref c), some (.ref d), some (.ref e), some (bestV (best (((free cs).take (i + 1)).map (here ns cs)))), y5, y6, y7, y8] ∧
                But d e H2 H5 ∧ H5 d = some (.dT kk') ∧ H5 e = some (.dT kn') ∧ Known n ns kk' kn' ∧ Grow kk1 kk' ∧ Grow kn kn' ∧ ∀ j ∈ (free cs).take (i + 1), hasK kn' (cs.set j 1) ∧ hasK kn' (cs.set j 0) := by
              intro σ5 h5
              refine ⟨_, _, _, _, kk5, kn5, h5, b6, hd5, he5, K5, (g1'.trans g4).trans g5, (g2'.trans g4').trans g5', fun q hq => ?_⟩
              rw [etk] at hq
              rcases List.mem_append.mp hq with hq | hq
              · exact ⟨g5' _ (g4' _ (hj' q hq).1), g5' _ (g4' _ (hj' q hq).2)⟩
              · rw [List.mem_singleton.mp hq]
                exact ⟨g5' _ hk4, hk5⟩
            have ebest : best (((free cs).take (i + 1)).map (here ns cs)) = some (match best (((free cs).take i).map (here ns cs)) with | none => here ns cs j | some y => if here ns cs j < y then here ns cs j else y) := by
              rw [etk, List.map_append, List.map_cons, List.map_nil, best_snoc]
              all_goals (cases best (((free cs).take i).map (here ns cs)) <;> rfl)
            -- best = here if best is None or here < best else best
            refine ⟨_, rfl, _, rfl, ?_⟩
            cases hbst : best (((free cs).take i).map (here ns cs)) with
            | none =>
              rw [hbst] at ebest
              refine iteT (iteT ⟨_, rfl, done _ ?_⟩)
              rw [ebest]
              show _ = [some (.ref a), some (.ref c), some (.ref d), some (.ref e), some (V.int ((here ns cs j : Nat) : Int)), some (V.int (j : Nat)), some (V.ref x3), some (V.ref y3), some (V.int ((here ns cs j : Nat) : Int))]
              rw [← eh]
              rfl
            | some y =>
              rw [hbst] at ebest
              refine iteF ⟨_, rfl, _, rfl, _, _, rfl, rfl, _, rfl, ?_⟩
              by_cases hlt : here ns cs j < y
              · simp only [if_pos hlt] at ebest
                have hz : decide ((1 + (if ((D ns (cs.set j 0) : Nat) : Int) > ((D ns (cs.set j 1) : Nat) : Int) then ((D ns (cs.set j 0) : Nat) : Int) else ((D ns (cs.set j 1) : Nat) : Int))) < ((y : Nat) : Int)) = true := by
                  rw [V.int.inj eh]
                  exact decide_eq_true (by omega)
                refine (if_pos hz).mpr ⟨_, rfl, done _ ?_⟩
                rw [ebest]
                show _ = [some (.ref a), some (.ref c), some (.ref d), some (.ref e), some (V.int ((here ns cs j : Nat) : Int)), some (V.int (j : Nat)), some (V.ref x3), some (V.ref y3), some (V.int ((here ns cs j : Nat) : Int))]
                rw [← eh]
                rfl
              · simp only [if_neg hlt] at ebest
                have hz : ¬ decide ((1 + (if ((D ns (cs.set j 0) : Nat) : Int) > ((D ns (cs.set j 1) : Nat) : Int) then ((D ns (cs.set j 0) : Nat) : Int) else ((D ns (cs.set j 1) : Nat) : Int))) < ((y : Nat) : Int)) = true := by
                  rw [V.int.inj eh]
                  intro q
                  have := of_decide_eq_true q
                  omega
                refine (if_neg hz).mpr ⟨_, rfl, done _ ?_⟩
                rw [ebest]
                show _ = [some (.ref a), some (.ref c), some (.ref d), some (.ref e), some (V.int ((y : Nat) : Int)), some (V.int (j : Nat)), some (V.ref x3), some (V.ref y3), some (V.int ((here ns cs j : Nat) : Int))]
                rw [← eh]
                rfl
          · rintro σ H' ⟨y5, y6, y7, y8, kk', kn', rfl, b, hd', he', K', g1', g2', hj'⟩
            rw [List.length_map, List.take_length, D_best hc hb] at *
            refine behind rfl rfl rfl ((t1.trans (But.of_ex e2)).trans b) hd' he' K' (g1.trans g1') g2' (g1' _ hk1) fun _ => hj'
        · have hb : bothB ns cs = false := by
            cases q : bothB ns cs with
            | false => rfl
            | true => exact absurd (decide_eq_true (congrArg V.int (kd_three.mpr q))) z
          refine behind rfl rfl ?_ t1 hd1 he1 K1 g1 (Grow.refl _) hk1 fun q => by rw [hb] at q; cases q
          show some (some (V.int 0)) = some (some (V.int (D ns cs : Nat)))
          rw [D_zero hb]
          rfl
end
end Fa

set_option Elab.async false
set_option linter.all false
set_option maxRecDepth 100000
set_option maxHeartbeats 4000000
namespace Fa
open PySem PySem.Spec PyProof.Rows L2 Evl

def TreeAt (H : Hp) : Tree → V → Prop
  | .leaf b, v => v = .int b
  | .ask i t u, v => ∃ a x y, v = .ref a ∧ H a = some (.tup [.str "ask", .int (i : Nat), x, y]) ∧ TreeAt H t x ∧ TreeAt H u y
theorem TreeAt.ex {H H' : Hp} (e : Ex H H') : ∀ {t : Tree} {v : V}, TreeAt H t v → TreeAt H' t v
  | .leaf b, v, h => h
  | .ask i t u, v, ⟨a, x, y, h1, h2, h3, h4⟩ => ⟨a, x, y, h1, e _ _ h2, TreeAt.ex e h3, TreeAt.ex e h4⟩
theorem dgetK {n : Nat} {f : List Int → V} {kvs : List (List Key × V)} (m : Memo n f kvs) {H' : Hp} {e x : Addr} {cs : List Int} (he : H' e = some (.dT kvs)) (hx : H' x = some (.tup (cs.map V.int))) (hk : hasK kvs cs) : DGet H' e (.ref x) (some (f cs)) := by
  obtain ⟨v, ev⟩ := has_val hk
  have g := DGet.t (k := ck cs) he (by rw [ck_kV]; exact hx)
  rw [ev, m.val ev] at g
  exact g
section
variable {P : Program} {w : World} {K : PySem.W.Frag} {mg : Str → Option Value} {base : Heap}
def spTree (m : Nat) : Sp := fun vs H Q _ => ∃ (c d e : Addr) (n : Nat) (ns cs : List Int) (kk kn : List (List Key × V)), vs = [.ref c, .ref d, .ref e] ∧ n ≤ 8 ∧ OkV n ns ∧ OkC n cs ∧ D ns cs < m ∧ H c = some (.tup (cs.map V.int)) ∧ H d = some (.dT kk) ∧ H e = some (.dT kn) ∧ Known n ns kk kn ∧ hasK kn cs ∧
  ∀ v t H', Ex H H' → TreeAt H' t v → GoodT n ns cs t → Q v H'
theorem ok_tree_so (T : Txt K mg) : ∀ m, Has P w K mg base "tree_so" ["cube", "kinds", "known"] (3 + m) (spTree m)
  | 0 => T.d_tree_so.never _ fun vs H Q E ⟨_, _, _, _, _, _, _, _, _, _, _, _, h, _⟩ => absurd h (Nat.not_lt_zero _)
  | m + 1 => by
    have G_tree_so := ok_tree_so T m
    have G_free_bits := ok_free_bits (P := P) (w := w) (base := base) T
    have G_halves_of := ok_halves_of (P := P) (w := w) (base := base) T
    refine T.d_tree_so.ok sc_tree_so (fun vs H Q E h => ?_) (fun f cdv A outer s H vs Q E hr h => ?_)
    · obtain ⟨c, d, e, n, ns, cs, kk, kn, rfl, _⟩ := h
      rfl
    · obtain ⟨c, d, e, n, ns, cs, kk, kn, rfl, hn, hv, hc, hm, hcu, hd, he, hK, hk, k⟩ := h
      have hu := hu_of hr
      change Room (3 + m) _ at hr
      refine ⟨_, (pss_cons (ps_if (pt_cmpR op_eq (pe_dget hu (pv 2) (pv 0) (fun _ _ => rfl)) pe_int (nomark _)) (pss_one (ps_ret (pe_op op_sub (pe_dget hu (pv 1) (pv 0) (fun _ _ => rfl)) pe_int))) pss_nil)
      (pss_cons (ps_for PassesOwn.never rfl (pi_list (pe_has G_free_bits (hr.mono (by omega)) (pa_cons (pv 0) pa_nil))) (pg_name (i := 3) sc_tree_so.nd rfl (Or.inl rfl)) (pss_cons (ps_asg (pe_has G_halves_of (hr.mono (by omega)) (pa_cons (pv 0) (pa_cons (pv 3) pa_nil))) (pg_tup (by rfl) (pgs_cons (pg_name (i := 4) sc_tree_so.nd rfl (Or.inl rfl)) (pgs_cons (pg_name (i := 5) sc_tree_so.nd rfl (Or.inl rfl)) pgs_nil))))
      (pss_one (ps_if (pt_cmpR op_eq (pe_op op_add pe_int (pe_callB (call_max2 rfl) (by rfl) T.b_max (by decide +kernel) (pa_cons (pe_dget hu (pv 2) (pv 4) (fun _ _ => rfl)) (pa_cons (pe_dget hu (pv 2) (pv 5) (fun _ _ => rfl)) pa_nil)))) (pe_dget hu (pv 2) (pv 0) (fun _ _ => rfl)) (nomark _)) (pss_one (ps_ret (pe_tup (pa_cons pe_str (pa_cons (pv 3) (pa_cons (pe_has G_tree_so (hr.mono (by omega)) (pa_cons (pv 4) (pa_cons (pv 1) (pa_cons (pv 2) pa_nil)))) (pa_cons (pe_has G_tree_so (hr.mono (by omega)) (pa_cons (pv 5) (pa_cons (pv 1) (pa_cons (pv 2) pa_nil)))) pa_nil))))))) pss_nil))))
      (pss_one (ps_ret pe_non)))), ?_⟩
      have hl : cs.length ≤ 8 := by rw [hc.1]; exact hn
      refine ⟨_, rfl, _, rfl, e, _, rfl, dgetK hK.mn he hcu hk, rfl, _, rfl, ?_⟩
      refine ite2 (fun z => ?_) (fun z => ?_)
      · have z1 : D ns cs = 0 := by have := V.int.inj (of_decide_eq_true z); omega
        exact ⟨_, rfl, _, rfl, d, _, rfl, dgetK hK.ki hd hcu (hK.sub _ hk), _, _, rfl, rfl, k _ (.leaf (kd ns cs - 1)) H (exr H) rfl (GoodT.leaf hv hc z1)⟩
      · have z1 : 0 < D ns cs := by
          apply Nat.pos_of_ne_zero
          intro q
          refine z (decide_eq_true ?_)
          show V.int ((D ns cs : Nat) : Int) = V.int 0
          rw [q]
          rfl
        have hb := D_both z1
        refine ⟨_, rfl, c, cs, rfl, hcu, hl, fun p H1 e1 hp => ⟨p, rfl, ⟨_, SqL.of hp⟩, ?_⟩⟩
        refine for_list (K := K) (a := p) (xs := (free cs).map fun i => V.int (i : Nat)) (fun i σ H' => ∃ y3 y4 y5, σ = [some (.ref c), some (.ref d), some (.ref e), y3, y4, y5] ∧ Ex H1 H' ∧ ∀ j ∈ (free cs).take i, here ns cs j ≠ D ns cs) ?_ ?_ ?_ ?_
        · exact ⟨none, none, none, rfl, exr _, fun j hj => by cases hj⟩
        · rintro i σ H' _ ⟨_, _, _, _, e2, _⟩
          exact SqL.of (e2 _ _ hp)
        · rintro i x σ H' hx ⟨y3, y4, y5, rfl, e2, hj'⟩
          obtain ⟨j, hj, rfl⟩ : ∃ j, (free cs)[i]? = some j ∧ x = V.int (j : Nat) := by
            rw [List.getElem?_map] at hx
            cases q : (free cs)[i]? with
            | none => rw [q] at hx; cases hx
            | some j => rw [q] at hx; exact ⟨j, rfl, (Option.some.inj hx).symm⟩
          have hjm : j ∈ free cs := List.mem_of_getElem? hj
          have hf := mem_free.mp hjm
          have hjl : j < cs.length := (List.getElem?_eq_some_iff.mp hf).1
          have tt := e1.trans e2
          obtain ⟨k1, k0⟩ := hK.cl cs hk hb j hjm
          refine ⟨_, rfl, _, rfl, c, cs, j, rfl, tt _ _ hcu, hl, hjl, fun p3 x3 y3 H3 e3 hp3 hx3 hy3 => ?_⟩
          have t3 := tt.trans e3
          refine ⟨p3, _, rfl, SqT.of hp3, rfl, _, _, rfl, _, _, rfl, rfl, ?_⟩
          refine ⟨_, rfl, _, rfl, e, _, rfl, dgetK hK.mn (t3 _ _ he) hx3 k1, _, rfl, _, rfl, e, _, rfl, dgetK hK.mn (t3 _ _ he) hy3 k0, _, _, rfl, _, _, rfl, rfl, ?_⟩
          refine ⟨_, rfl, _, rfl, e, _, rfl, dgetK hK.mn (t3 _ _ he) (t3 _ _ hcu) hk, rfl, _, rfl, ?_⟩
          have eh : V.int (1 + (if ((D ns (cs.set j 0) : Nat) : Int) > ((D ns (cs.set j 1) : Nat) : Int) then ((D ns (cs.set j 0) : Nat) : Int) else ((D ns (cs.set j 1) : Nat) : Int))) = V.int ((here ns cs j : Nat) : Int) := by
            rw [max_nat]
            unfold here
            exact congrArg V.int (by omega)
          refine ite2 (fun z => ?_) (fun z => ?_)
          · have z2 : here ns cs j = D ns cs := by
              have := of_decide_eq_true z
              have := V.int.inj (eh.symm.trans this)
              omega
            have d1 : D ns (cs.set j 1) < m := by unfold here at z2; omega
            have d0 : D ns (cs.set j 0) < m := by unfold here at z2; omega
            refine ⟨_, rfl, _, rfl, _, rfl, _, rfl, x3, d, e, n, ns, _, kk, kn, rfl, hn, hv, hc.set j (.inr rfl), d1, hx3, t3 _ _ hd, t3 _ _ he, hK, k1, fun v4 t4 H4 e4 a4 g4 => ?_⟩
            have q4 := t3.trans e4
            refine ⟨_, rfl, _, rfl, _, rfl, y3, d, e, n, ns, _, kk, kn, rfl, hn, hv, hc.set j (.inl rfl), d0, e4 _ _ hy3, q4 _ _ hd, q4 _ _ he, hK, k0, fun v5 t5 H5 e5 a5 g5 => ?_⟩
            refine ⟨(by show 4 ≤ sizeLine; decide), fun q hq => ?_⟩
            have e6 := exn (o := HO.tup [V.str "ask", V.int (j : Nat), v4, v5]) hq
            exact k _ (.ask j t4 t5) _ ((q4.trans e5).trans e6) ⟨q, v4, v5, rfl, upd_same, (a4.ex e5).ex e6, a5.ex e6⟩ (GoodT.ask hc hjm z2 g4 g5)
          · refine ⟨_, _, _, rfl, e2.trans e3, fun q hq => ?_⟩
            have etk : (free cs).take (i + 1) = (free cs).take i ++ [j] := by
              rw [List.take_add_one, hj]
              rfl
            rw [etk] at hq
            rcases List.mem_append.mp hq with hq | hq
            · exact hj' q hq
            · rw [List.mem_singleton.mp hq]
              intro z2
              refine z (decide_eq_true (eh.trans ?_))
              rw [z2]
              rfl
        · rintro σ H' ⟨y3, y4, y5, rfl, e2, hj'⟩
          rw [List.length_map, List.take_length] at hj'
          obtain ⟨i, hi, ei⟩ := D_place hc hb
          exact absurd ei (hj' i hi)
/-! ### a tree is looked through -/
theorem cat1 {H : Hp} {Q : VK} {p : Addr} {xs : List V} {z : V} (hp : H p = some (.tup xs)) (hl : xs.length + 1 ≤ 1000) (k : ∀ q H', Ex H H' → H' q = some (.tup (xs ++ [z])) → Q (.ref q) H') {p2 : Addr} (hp2 : H p2 = none) :
    rCatA K (.ref p) (.ref p2) (upd H p2 (.tup [z])) Q := by
  have n12 : p ≠ p2 := ne_of_none hp hp2
  have x2 := exn (o := HO.tup [z]) hp2
  refine ⟨p, p2, _, _, rfl, rfl, SqT.of (by rw [upd_ne n12]; exact hp), SqT.of upd_same, ?_, fun e => ?_, fun _ e => (by cases e), fun _ _ p3 hp3 => ?_⟩
  · rw [sizeLine_eq]
    simp only [List.length_singleton]
    omega
  · refine k p2 _ x2 ?_
    rw [upd_same, e]
    rfl
  · exact k p3 _ (x2.trans (exn hp3)) upd_same
def spWalked (m : Nat) : Sp := fun vs H Q _ => ∃ (n : Nat) (v : V) (p : Addr) (xs : List V) (t : Tree) (j : Nat), vs = [.int n, v, .ref p, .int j] ∧ TreeAt H t v ∧ OkT n t ∧ ht t < m ∧ H p = some (.tup xs) ∧ xs.length + ht t ≤ 50 ∧ j + nodes t ≤ 600 ∧ Ret (.int (j + nodes t : Nat)) H Q
theorem ok_walked_tree (T : Txt K mg) : ∀ m, Has P w K mg base "walked_tree" ["many", "value", "path", "met"] (2 + m) (spWalked m)
  | 0 => T.d_walked_tree.never _ fun vs H Q E ⟨_, _, _, _, _, _, _, _, _, h, _⟩ => absurd h (Nat.not_lt_zero _)
  | m + 1 => by
    have G_walked_tree := ok_walked_tree T m
    have G_is_from := ok_is_from (P := P) (w := w) (base := base) T
    have G_is_ask := ok_is_ask (P := P) (w := w) (base := base) T
    refine T.d_walked_tree.ok sc_walked_tree (fun vs H Q E h => ?_) (fun f cdv A outer s H vs Q E hr h => ?_)
    · obtain ⟨n, v, p, xs, t, j, rfl, _⟩ := h
      rfl
    · obtain ⟨n, v, p, xs, t, j, rfl, ht, ho, hm, hp, hl, hj, k⟩ := h
      change Room (2 + m) _ at hr
      refine ⟨_, (pss_cons (ps_if (pt_cmpR op_ge (pv 3) (pe_glob (v := .int 600) rfl T.c_MOST_TREES.choose_spec ⟨_, rfl⟩) (nomark _)) (pss_one ps_never) pss_nil)
      (pss_cons (ps_if (pt_val (pe_has G_is_from (hr.mono (by omega)) (pa_cons (pv 1) (pa_cons pe_int (pa_cons pe_int pa_nil))))) (pss_one (ps_ret (pe_op op_add (pv 3) pe_int))) pss_nil)
      (pss_cons (ps_if (pt_not (pt_val (pe_has G_is_ask (hr.mono (by omega)) (pa_cons (pv 1) pa_nil)))) (pss_one ps_never) pss_nil)
      (pss_cons (ps_if (pt_cmpR op_ge (pe_callB call_len_seq (by rfl) T.b_len PySem.boot_len (pa_cons (pv 2) pa_nil)) (pe_glob (v := .int 60) rfl T.c_MOST_ASKS.choose_spec ⟨_, rfl⟩) (nomark _)) (pss_one ps_never) pss_nil)
      (pss_cons (ps_if (pt_not (pt_val (pe_has G_is_from (hr.mono (by omega)) (pa_cons (pe_ix ix_tup (pv 1) pe_int (fun _ _ => rfl)) (pa_cons pe_int (pa_cons (pe_op op_sub (pv 0) pe_int) pa_nil)))))) (pss_one ps_never) pss_nil)
      (pss_cons (ps_set (i := 4) sc_walked_tree.nd rfl (Or.inl rfl) (pe_has G_walked_tree (hr.mono (by omega)) (pa_cons (pv 0) (pa_cons (pe_ix ix_tup (pv 1) pe_int (fun _ _ => rfl)) (pa_cons (pe_op op_catA (pv 2) (pe_tup (pa_cons pe_int pa_nil))) (pa_cons (pe_op op_add (pv 3) pe_int) pa_nil))))))
      (pss_one (ps_ret (pe_has G_walked_tree (hr.mono (by omega)) (pa_cons (pv 0) (pa_cons (pe_ix ix_tup (pv 1) pe_int (fun _ _ => rfl)) (pa_cons (pe_op op_catA (pv 2) (pe_tup (pa_cons pe_int pa_nil))) (pa_cons (pv 4) pa_nil))))))))))))), ?_⟩
      have hpos := nodes_pos t
      refine ⟨_, rfl, _, _, rfl, rfl, _, rfl, ?_⟩
      refine ite2 (fun z => ?_) (fun z => ?_)
      · have := of_decide_eq_true z
        omega
      · cases t with
        | leaf b =>
          cases (ht : v = .int b)
          refine ⟨_, rfl, _, 0, 1, rfl, .inl ⟨_, rfl, fun H1 e1 => ?_⟩⟩
          have hb : b = 0 ∨ b = 1 := ho
          rw [decide_eq_true (by omega : (0 : Int) ≤ b ∧ b ≤ 1)]
          refine ⟨true, rfl, iteT ⟨_, rfl, _, _, rfl, rfl, ?_⟩⟩
          exact k H1 e1
        | ask i t u =>
          obtain ⟨a, x, y, rfl, ha, hx, hy⟩ := ht
          obtain ⟨o1, o2, o3⟩ := ho
          have eN : nodes (.ask i t u) = 1 + nodes t + nodes u := rfl
          have eH : Fa.ht (.ask i t u) = 1 + max (Fa.ht t) (Fa.ht u) := rfl
          rw [eN] at hj k
          rw [eH] at hl hm
          refine ⟨_, rfl, _, 0, 1, rfl, .inr ⟨_, _, rfl, ha, fun H1 e1 => ?_⟩⟩
          refine ⟨false, rfl, iteF ?_⟩
          refine ⟨_, rfl, _, rfl, .inr ⟨_, _, _, _, rfl, e1 _ _ ha, fun H2 e2 => ?_⟩⟩
          have t2 := e1.trans e2
          refine ⟨true, rfl, iteF ?_⟩
          refine ⟨_, rfl, p, _, rfl, .inr (SqT.of (t2 _ _ hp)), _, _, rfl, rfl, _, rfl, ?_⟩
          refine ite2 (fun z => ?_) (fun z => ?_)
          · have := of_decide_eq_true z
            omega
          · refine ⟨_, rfl, _, _, _, _, rfl, rfl, SqT.of (t2 _ _ ha), rfl, _, rfl, _, _, rfl, rfl, _, _, _, rfl, .inl ⟨_, rfl, fun H3 e3 => ?_⟩⟩
            have t3 := t2.trans e3
            rw [decide_eq_true (by omega : (0 : Int) ≤ (i : Int) ∧ (i : Int) ≤ (n : Int) - 1)]
            refine ⟨true, rfl, iteF ?_⟩
            refine ⟨_, rfl, _, rfl, _, _, _, _, rfl, rfl, SqT.of (t3 _ _ ha), rfl, _, rfl, (by show 1 ≤ sizeLine; decide), fun p4 hp4 => ?_⟩
            refine cat1 (t3 _ _ hp) (by omega) (fun q4 H4 e4 hq4 => ?_) hp4
            have t4 := t3.trans e4
            refine ⟨_, rfl, _, _, rfl, rfl, n, x, q4, _, t, j + 1, rfl, hx.ex t4, o2, by omega, hq4, ?_, by omega, fun H5 e5 => ?_⟩
            · rw [List.length_append, List.length_singleton]
              omega
            have t5 := t4.trans e5
            refine ⟨_, rfl, _, rfl, _, _, _, _, rfl, rfl, SqT.of (t5 _ _ ha), rfl, _, rfl, (by show 1 ≤ sizeLine; decide), fun p6 hp6 => ?_⟩
            refine cat1 (t5 _ _ hp) (by omega) (fun q6 H6 e6 hq6 => ?_) hp6
            have t6 := t5.trans e6
            refine ⟨_, rfl, n, y, q6, _, u, j + 1 + nodes t, rfl, hy.ex t6, o3, by omega, hq6, ?_, by omega, fun H7 e7 => ?_⟩
            · rw [List.length_append, List.length_singleton]
              omega
            rw [show j + 1 + nodes t + nodes u = j + (1 + nodes t + nodes u) by omega]
            exact k H7 (t6.trans e7)
def spCheckTree : Sp := fun vs H Q _ => ∃ (n : Nat) (v : V) (t : Tree), vs = [.int n, v] ∧ TreeAt H t v ∧ OkT n t ∧ ht t ≤ 8 ∧ Ret v H Q
theorem ok_check_tree (T : Txt K mg) : Has P w K mg base "check_tree" ["many", "value"] 12 spCheckTree := by
  have G_walked_tree := ok_walked_tree (P := P) (w := w) (base := base) T 9
  refine T.d_check_tree.ok sc_check_tree (fun vs H Q E h => ?_) (fun f cdv A outer s H vs Q E hr h => ?_)
  · obtain ⟨n, v, t, rfl, _⟩ := h
    rfl
  · obtain ⟨n, v, t, rfl, ht, ho, hh, k⟩ := h
    refine ⟨_, (pss_cons (ps_expr (pe_has G_walked_tree (hr.mono (by omega)) (pa_cons (pv 0) (pa_cons (pv 1) (pa_cons (pe_tup pa_nil) (pa_cons pe_int pa_nil))))))
      (pss_one (ps_ret (pv 1)))), ?_⟩
    have hN := nodes_le t
    have h2 : 2 ^ (Fa.ht t + 1) ≤ 2 ^ 9 := Nat.pow_le_pow_right (by decide) (by omega)
    refine ⟨_, rfl, _, rfl, (by show 0 ≤ sizeLine; decide), fun p hp => ?_⟩
    have x1 := exn (o := HO.tup []) hp
    refine ⟨n, v, p, [], t, 0, rfl, ht.ex x1, ho, by omega, upd_same, by simp; omega, by omega, fun H1 e1 => ?_⟩
    exact ⟨_, rfl, k H1 (x1.trans e1)⟩
end
end Fa

set_option Elab.async false
set_option linter.all false
set_option maxRecDepth 100000
set_option maxHeartbeats 4000000
namespace Fa
open PySem PySem.Spec PyProof.Rows L2 Evl
theorem ex_upd {H H' : Hp} {L : Addr} {o : HO} (e : Ex H H') (hL : H L = none) : Ex H (upd H' L o) := fun c u h => by
  rw [upd_ne (fun z => by rw [z, hL] at h; cases h)]
  exact e _ _ h
theorem ix_tupK {X : Cx} {K : PySem.W.Frag} (h : X.K = K) : IxR X (rIxT K) := h ▸ ix_tup
theorem ix_listK {X : Cx} {K : PySem.W.Frag} (h : X.K = K) : IxR X (rIxL K) := h ▸ ix_list
section
variable {P : Program} {w : World} {K : PySem.W.Frag} {mg : Str → Option Value} {base : Heap}
def spAsked : Sp := fun vs H Q _ => ∃ (v : V) (r n : Nat) (t : Tree), vs = [v, .int r] ∧ TreeAt H t v ∧ OkT n t ∧ n ≤ 8 ∧ ht t ≤ 50 ∧ ∀ p l H', Ex H H' → H' p = some (.tup [.ref l, .int (ev t r)]) → Q (.ref p) H'
theorem ok_asked_so (T : Txt K mg) : Has P w K mg base "asked_so" ["tree", "row"] 2 spAsked := by
  have G_is_ask := ok_is_ask (P := P) (w := w) (base := base) T
  have G_bit_so := ok_bit_so (P := P) (w := w) (base := base) T
  refine T.d_asked_so.ok sc_asked_so (fun vs H Q E h => ?_) (fun f cdv A outer s H vs Q E hr h => ?_)
  · obtain ⟨v, r, n, t, rfl, _⟩ := h
    rfl
  · obtain ⟨v, r, n, t, rfl, ht, ho, hn, hh, k⟩ := h
    refine ⟨_, (pss_cons (ps_par (i := 2) (j := 3) (by rfl) sc_asked_so.nd rfl rfl (by decide) rfl rfl (pa_cons (pe_lst pa_nil) (pa_cons (pv 0) pa_nil)) (by rfl))
      (pss_cons (ps_while PassesOwn.never (pt_val (pe_has G_is_ask (hr.mono (by omega)) (pa_cons (pv 3) pa_nil))) (pss_cons (ps_set (i := 4) sc_asked_so.nd rfl (Or.inl rfl) (pe_has G_bit_so (hr.mono (by omega)) (pa_cons (pv 1) (pa_cons (pe_ix ix_tup (pv 3) pe_int (fun _ _ => rfl)) pa_nil))))
      (pss_cons (ps_expr (pe_bm PySem.F.plainAttrs_list PySem.F.slot_list_append PySem.F.type_list_append mt_append (pv 2) (pa_cons (pe_tup (pa_cons (pe_ix ix_tup (pv 3) pe_int (fun _ _ => rfl)) (pa_cons (pv 4) pa_nil))) pa_nil)))
      (pss_one (ps_set (i := 3) sc_asked_so.nd rfl (Or.inl rfl) (pe_ix ix_tup (pv 3) (pe_op op_sub pe_int (pv 4)) (fun _ _ => rfl)))))))
      (pss_one (ps_ret (pe_tup (pa_cons (pv 2) (pa_cons (pv 3) pa_nil))))))), ?_⟩
    refine ⟨(by show 0 ≤ sizeLine; decide), fun L hL => ⟨_, rfl, _, _, rfl, ?_⟩⟩
    have hH := exn (o := HO.lst []) hL
    refine ⟨fun m σ H' => ∃ v4 t' x acc, σ = [some v, some (.int r), some (.ref L), some x, v4] ∧ Ex H H' ∧ H' L = some (.lst acc) ∧ acc.length + Fa.ht t' ≤ 50 ∧ TreeAt H t' x ∧ OkT n t' ∧ ev t' r = ev t r ∧ m = Fa.ht t', ⟨_, none, t, v, [], rfl, hH, upd_same, by simpa using hh, ht, ho, rfl, rfl⟩, ?_⟩
    rintro m σ H1 ⟨v4, t', x, acc, rfl, e1, hacc, hlen, hx, ho', he, rfl⟩
    cases t' with
    | leaf b =>
      cases (hx : x = .int b)
      refine ⟨_, rfl, _, rfl, .inl ⟨_, rfl, fun H2 e2 => ⟨false, rfl, iteF ?_⟩⟩⟩
      refine ⟨_, rfl, _, rfl, (by show 2 ≤ sizeLine; decide), fun p hp => ?_⟩
      refine k p L _ ((e1.trans e2).trans (exn hp)) ?_
      rw [upd_same, ← he]
      rfl
    | ask i t1 t2 =>
      obtain ⟨a, y1, y2, rfl, ha, hy1, hy2⟩ := hx
      obtain ⟨o1, o2, o3⟩ := ho'
      have eH : Fa.ht (.ask i t1 t2) = 1 + max (Fa.ht t1) (Fa.ht t2) := rfl
      rw [eH] at hlen ⊢
      refine ⟨_, rfl, _, rfl, .inr ⟨_, _, _, _, rfl, e1 _ _ ha, fun H2 e2 => ⟨true, rfl, iteT ⟨_, fun _ _ h => h, ?_⟩⟩⟩⟩
      have t2' := e1.trans e2
      refine ⟨_, rfl, _, rfl, _, _, _, _, rfl, rfl, SqT.of (t2' _ _ ha), rfl, r, i, rfl, by omega, fun H3 e3 => ?_⟩
      have t3 := t2'.trans e3
      refine ⟨_, rfl, .inl ⟨rfl, _, SqL.of (e3 _ _ (e2 _ _ hacc))⟩, _, rfl, _, _, _, _, rfl, rfl, SqT.of (t3 _ _ ha), rfl, _, rfl, (by show 2 ≤ sizeLine; decide), fun q hq => ?_⟩
      have x4 := exn (o := HO.tup [V.int (i : Nat), V.int (bitN r i : Nat)]) hq
      have t4 := t3.trans x4
      refine ⟨L, acc, _, rfl, rfl, x4 _ _ (e3 _ _ (e2 _ _ hacc)), by rw [sizeLine_eq]; omega, ?_⟩
      have t5 : Ex H (upd (upd H3 q (.tup [V.int (i : Nat), V.int (bitN r i : Nat)])) L (.lst (acc ++ [.ref q]))) := ex_upd t4 hL
      have hb : bitN r i = 1 ∨ bitN r i = 0 := by unfold bitN; omega
      have he' : (if bitN r i = 1 then ev t1 r else ev t2 r) = ev t r := he
      rcases hb with hb | hb
      · refine ⟨_, rfl, _, rfl, _, _, rfl, rfl, _, _, _, y1, rfl, rfl, SqT.of (t5 _ _ ha), by rw [hb]; rfl, ?_⟩
        rw [if_pos hb] at he'
        refine ⟨Fa.ht t1, by omega, _, t1, y1, _, rfl, t5, upd_same, ?_, hy1, o2, he', rfl⟩
        rw [List.length_append, List.length_singleton]
        omega
      · refine ⟨_, rfl, _, rfl, _, _, rfl, rfl, _, _, _, y2, rfl, rfl, SqT.of (t5 _ _ ha), by rw [hb]; rfl, ?_⟩
        rw [if_neg (by omega)] at he'
        refine ⟨Fa.ht t2, by omega, _, t2, y2, _, rfl, t5, upd_same, ?_, hy2, o3, he', rfl⟩
        rw [List.length_append, List.length_singleton]
        omega
def spTells : Sp := fun vs H Q _ => ∃ (a : Addr) (v : V) (n : Nat) (ns : List Int) (t : Tree), vs = [.ref a, v] ∧ H a = some (.tup (ns.map V.int)) ∧ ns.length ≤ 300 ∧ TreeAt H t v ∧ OkT n t ∧ n ≤ 8 ∧ ht t ≤ 50 ∧ (∀ r, r < ns.length → ev t r = ns.getD r 0) ∧ Ret (.bl true) H Q
theorem ok_tells_values (T : Txt K mg) : Has P w K mg base "tells_values" ["values", "tree"] 3 spTells := by
  have G_asked_so := ok_asked_so (P := P) (w := w) (base := base) T
  refine T.d_tells_values.ok sc_tells_values (fun vs H Q E h => ?_) (fun f cdv A outer s H vs Q E hr h => ?_)
  · obtain ⟨a, v, n, ns, t, rfl, _⟩ := h
    rfl
  · obtain ⟨a, v, n, ns, t, rfl, ha, hl, ht, ho, hn, hh, hev, k⟩ := h
    refine ⟨_, (pss_one (ps_ret (pe_cmpR op_eq (pe_callB call_len_seq (by rfl) T.b_len PySem.boot_len (pa_cons (pe_lc (own := [("row", 2), ("value", 3)]) (g := gTup K 2 (gCons (gName 2) (gCons (gName 3) (gNil)))) (by rfl) sc_tells_values.nd (pi_enT T.b_enumerate (pa_cons (pv 0) pa_nil)) (blkOk_by (own := [("row", 2), ("value", 3)]) (N := n_tells_values) (sc := defScope s_tells_values) (by decide +kernel)) (fun _ _ _ _ _ => (pg_tup (by rfl) (pgs_cons (pg_name (i := 2) sc_tells_values.nd rfl (Or.inl rfl)) (pgs_cons (pg_name (i := 3) sc_tells_values.nd rfl (Or.inl rfl)) pgs_nil)))) (fun _ _ _ _ _ => (pts_one (pt_cmpR op_ne (pe_ix (ix_tupK (K := K) rfl) (pe_has G_asked_so (hr.mono (by omega)) (pa_cons (pv 1) (pa_cons (pv 2) pa_nil))) pe_int (fun _ _ => rfl)) (pv 3) (nomark _)))) (fun _ _ _ _ _ => pe_int)) pa_nil)) pe_int (nomark _)))), ?_⟩
    refine ⟨_, rfl, a, _, rfl, SqT.of ha, fun D hD => ?_⟩
    refine lc_pairs (walk_enT (xs := ns.map V.int)) hD (by rw [List.length_map]; omega) (fun H' e => SqT.of (e _ _ ha)) (fun _ _ => rfl) (fun _ => false) (fun _ => V.int 1) ?_ ?_ fun H' e h => ?_
    · intro i x y H2 hi e2 q1 q2 H3 e3 Q' q'
      cases q1
      obtain ⟨z, hz, rfl⟩ := at_ints q2
      have hil : i < ns.length := by rw [List.length_map] at hi; exact hi
      refine ⟨_, rfl, _, rfl, v, i, n, t, rfl, ht.ex (e2.trans e3), ho, hn, hh, fun p l H4 e4 hp => ?_⟩
      refine ⟨_, _, _, _, rfl, rfl, SqT.of hp, rfl, _, rfl, rfl, _, rfl, ?_⟩
      have e5 : ev t i = z := by rw [hev i hil, get_ints hz]
      have e6 : (!decide (V.int (ev t i) = V.int z)) = false := by rw [e5]; simp
      rw [e6]
      exact q' H4 e4
    · intro i x y H2 hi e2 q1 q2 hf
      cases hf
    · rw [given_nil (fun _ _ => rfl)] at h
      refine ⟨D, _, rfl, .inl (SqL.of h), rfl, ?_⟩
      exact k H' e
def spTreeSo : Sp := fun vs H Q _ => ∃ (a : Addr) (v : V) (n : Nat) (ns : List Int) (t : Tree), vs = [.int n, .ref a, v] ∧ H a = some (.tup (ns.map V.int)) ∧ ns.length ≤ 300 ∧ TreeAt H t v ∧ OkT n t ∧ n ≤ 8 ∧ ht t ≤ 8 ∧ (∀ r, r < ns.length → ev t r = ns.getD r 0) ∧ Ret (.bl true) H Q
theorem ok_is_tree_so (T : Txt K mg) : Has P w K mg base "is_tree_so" ["many", "values", "value"] 13 spTreeSo := by
  have G_check_tree := ok_check_tree (P := P) (w := w) (base := base) T
  have G_tells_values := ok_tells_values (P := P) (w := w) (base := base) T
  refine T.d_is_tree_so.ok sc_is_tree_so (fun vs H Q E h => ?_) (fun f cdv A outer s H vs Q E hr h => ?_)
  · obtain ⟨a, v, n, ns, t, rfl, _⟩ := h
    rfl
  · obtain ⟨a, v, n, ns, t, rfl, ha, hl, ht, ho, hn, hh, hev, k⟩ := h
    refine ⟨_, (pss_cons (ps_try_thru0 (pss_one (ps_expr (pe_has G_check_tree (hr.mono (by omega)) (pa_cons (pv 0) (pa_cons (pv 2) pa_nil))))))
      (pss_one (ps_ret (pe_has G_tells_values (hr.mono (by omega)) (pa_cons (pv 1) (pa_cons (pv 2) pa_nil)))))), ?_⟩
    refine ⟨_, rfl, _, rfl, n, v, t, rfl, ht, ho, hh, fun H1 e1 => ?_⟩
    refine ⟨_, rfl, _, rfl, a, v, n, ns, t, rfl, e1 _ _ ha, hl, ht.ex e1, ho, hn, by omega, hev, fun H2 e2 => ?_⟩
    exact k H2 (e1.trans e2)
def spTreeFor : Sp := fun vs H Q _ => ∃ (a : Addr) (v : V) (n : Nat) (ns : List Int) (t : Tree), vs = [.int n, .ref a, v] ∧ H a = some (.tup (ns.map V.int)) ∧ OkV n ns ∧ TreeAt H t v ∧ OkT n t ∧ 1 ≤ n ∧ n ≤ 8 ∧ ht t ≤ 8 ∧ (∀ r, r < ns.length → ev t r = ns.getD r 0) ∧ Ret (.bl true) H Q
theorem ok_is_tree_for (T : Txt K mg) : Has P w K mg base "is_tree_for" ["many", "values", "value"] 14 spTreeFor := by
  have G_is_tree_so := ok_is_tree_so (P := P) (w := w) (base := base) T
  have G_check_many := ok_check_many (P := P) (w := w) (base := base) T
  have G_check_values := ok_check_values (P := P) (w := w) (base := base) T
  refine T.d_is_tree_for.ok sc_is_tree_for (fun vs H Q E h => ?_) (fun f cdv A outer s H vs Q E hr h => ?_)
  · obtain ⟨a, v, n, ns, t, rfl, _⟩ := h
    rfl
  · obtain ⟨a, v, n, ns, t, rfl, ha, hv, ht, ho, h1, hn, hh, hev, k⟩ := h
    refine ⟨_, (pss_one (ps_ret (pe_has G_is_tree_so (hr.mono (by omega)) (pa_cons (pv 0) (pa_cons (pe_has G_check_values (hr.mono (by omega)) (pa_cons (pe_has G_check_many (hr.mono (by omega)) (pa_cons (pv 0) pa_nil)) (pa_cons (pv 1) pa_nil))) (pa_cons (pv 2) pa_nil)))))), ?_⟩
    have hl : ns.length ≤ 300 := by
      have : 2 ^ n ≤ 2 ^ 8 := Nat.pow_le_pow_right (by decide) hn
      rw [hv.1]
      omega
    refine ⟨_, rfl, _, rfl, n, rfl, h1, hn, fun H1 e1 => ?_⟩
    refine ⟨_, rfl, n, a, ns, rfl, h1, hn, hv, e1 _ _ ha, fun H2 e2 => ?_⟩
    have t2 := e1.trans e2
    refine ⟨_, rfl, a, v, n, ns, t, rfl, t2 _ _ ha, hl, ht.ex t2, ho, hn, hh, hev, fun H3 e3 => ?_⟩
    exact k H3 (t2.trans e3)
end
end Fa

set_option Elab.async false
set_option linter.all false
set_option maxRecDepth 100000
set_option maxHeartbeats 4000000
namespace Fa
open PySem PySem.Spec PyProof.Rows L2 Evl

/-! ### the entries: which are found, which are left -/
def ItE (n : Nat) (ns : List Int) (e : Ent) : Prop := 0 ≤ e.1 ∧ OkC n e.2 ∧ e.1 + 1 ≤ ((D ns e.2 : Nat) : Int) ∧ e.1 + 1 ≤ ((D ns (root n) : Nat) : Int)
def LfE (n : Nat) (ns : List Int) (kn : List (List Key × V)) (e : Ent) : Prop := OkC n e.2 ∧ e.1 + 1 ≤ ((D ns e.2 : Nat) : Int) ∧ e.1 + 1 ≤ ((D ns (root n) : Nat) : Int) ∧ hasK kn e.2
def nxt (ns : List Int) (e : Ent) (j : Nat) : Ent := (e.1 - 1, if ((D ns (e.2.set j 1) : Nat) : Int) ≥ e.1 then e.2.set j 1 else e.2.set j 0)
def pushed (ns : List Int) (e : Ent) : List Ent := if 0 < e.1 then (free e.2).map (nxt ns e) else []
structure Bk (n : Nat) (ns : List Int) (kn : List (List Key × V)) (done left : List Ent) : Prop where
  nd : done.Nodup
  it : ∀ e ∈ done, ItE n ns e
  lf : ∀ e ∈ left, LfE n ns kn e
  cl : ∀ e ∈ done, 0 < e.1 → ∀ i ∈ free e.2, ((e.1 - 1, e.2.set i 1) ∈ done ∨ (e.1 - 1, e.2.set i 1) ∈ left) ∨ ((e.1 - 1, e.2.set i 0) ∈ done ∨ (e.1 - 1, e.2.set i 0) ∈ left)
  rt : 0 < D ns (root n) → ((((D ns (root n) : Nat) : Int) - 1, root n) ∈ done ∨ (((D ns (root n) : Nat) : Int) - 1, root n) ∈ left)
theorem Bk.drop {n : Nat} {ns : List Int} {kn : List (List Key × V)} {done l : List Ent} {e : Ent} (b : Bk n ns kn done (l ++ [e])) (h : e ∈ done ∨ e.1 < 0) : Bk n ns kn done l := by
  have go : ∀ x : Ent, 0 ≤ x.1 → (x ∈ done ∨ x ∈ l ++ [e]) → x ∈ done ∨ x ∈ l := by
    intro x hx hm
    rcases hm with hm | hm
    · exact .inl hm
    · rcases List.mem_append.mp hm with hm | hm
      · exact .inr hm
      · have := List.mem_singleton.mp hm
        subst this
        rcases h with h | h
        · exact .inl h
        · omega
  refine ⟨b.nd, b.it, fun x hx => b.lf x (List.mem_append.mpr (.inl hx)), fun x hx hp i hi => ?_, fun hp => ?_⟩
  · rcases b.cl x hx hp i hi with q | q
    · exact .inl (go _ (by show (0 : Int) ≤ x.1 - 1; omega) q)
    · exact .inr (go _ (by show (0 : Int) ≤ x.1 - 1; omega) q)
  · exact go _ (by show (0 : Int) ≤ ((D ns (root n) : Nat) : Int) - 1; omega) (b.rt hp)
theorem Bk.add {n : Nat} {ns : List Int} {kk kn : List (List Key × V)} (K : Known n ns kk kn) {done l : List Ent} {e : Ent} (b : Bk n ns kn done (l ++ [e])) (hn : e ∉ done) (h0 : 0 ≤ e.1) : Bk n ns kn (done ++ [e]) (l ++ pushed ns e) := by
  have ein : e ∈ l ++ [e] := List.mem_append.mpr (.inr List.mem_cons_self)
  obtain ⟨hc, hd, hr, hk⟩ := b.lf e ein
  have go : ∀ x : Ent, (x ∈ done ∨ x ∈ l ++ [e]) → x ∈ done ++ [e] ∨ x ∈ l ++ pushed ns e := by
    intro x hm
    rcases hm with hm | hm
    · exact .inl (List.mem_append.mpr (.inl hm))
    · rcases List.mem_append.mp hm with hm | hm
      · exact .inr (List.mem_append.mpr (.inl hm))
      · exact .inl (List.mem_append.mpr (.inr hm))
  refine ⟨?_, fun x hx => ?_, fun x hx => ?_, fun x hx hp i hi => ?_, fun hp => go _ (b.rt hp)⟩
  · refine List.nodup_append.mpr ⟨b.nd, List.nodup_cons.mpr ⟨(by simp), List.nodup_nil⟩, fun x hx y hy z => ?_⟩
    have := List.mem_singleton.mp hy
    subst z
    subst this
    exact hn hx
  · rcases List.mem_append.mp hx with hx | hx
    · exact b.it x hx
    · have := List.mem_singleton.mp hx
      subst this
      exact ⟨h0, hc, hd, hr⟩
  · rcases List.mem_append.mp hx with hx | hx
    · exact b.lf x (List.mem_append.mpr (.inl hx))
    · unfold pushed at hx
      split at hx
      · rename_i hp
        obtain ⟨j, hj, rfl⟩ := List.mem_map.mp hx
        have hb : bothB ns e.2 = true := D_both (by omega)
        obtain ⟨k1, k0⟩ := K.cl e.2 hk hb j hj
        have hh := D_half (vs := ns) hc hj (k := e.1.toNat) (by omega)
        unfold nxt LfE
        dsimp only
        split
        · exact ⟨hc.set j (.inr rfl), by omega, by omega, k1⟩
        · exact ⟨hc.set j (.inl rfl), by omega, by omega, k0⟩
      · cases hx
  · rcases List.mem_append.mp hx with hx | hx
    · rcases b.cl x hx hp i hi with q | q
      · exact .inl (go _ q)
      · exact .inr (go _ q)
    · have := List.mem_singleton.mp hx
      subst this
      have hm : nxt ns x i ∈ l ++ pushed ns x := by
        refine List.mem_append.mpr (.inr ?_)
        unfold pushed
        rw [if_pos hp]
        exact List.mem_map.mpr ⟨i, hi, rfl⟩
      unfold nxt at hm
      split at hm
      · exact .inl (.inr hm)
      · exact .inr (.inr hm)
def allE (n : Nat) : List Ent := (allC n).map (fun c => ((0 : Int), c)) ++ ((allC n).map (fun c => ((1 : Int), c)) ++ ((allC n).map (fun c => ((2 : Int), c)) ++ (allC n).map (fun c => ((3 : Int), c))))
theorem ents_len {n : Nat} {ns : List Int} {es : List Ent} (hn : n ≤ 4) (nd : es.Nodup) (it : ∀ e ∈ es, ItE n ns e) : es.length ≤ 324 := by
  have h := pig es (allE n) nd fun e he => by
    obtain ⟨h0, hc, hd, hr⟩ := it e he
    have hl := D_len (vs := ns) hc
    have hm := mem_allC hc
    obtain ⟨k, c⟩ := e
    have : k = 0 ∨ k = 1 ∨ k = 2 ∨ k = 3 := by
      dsimp only at *
      omega
    unfold allE
    simp only [List.mem_append, List.mem_map]
    rcases this with q | q | q | q <;> subst q
    · exact .inl ⟨c, hm, rfl⟩
    · exact .inr (.inl ⟨c, hm, rfl⟩)
    · exact .inr (.inr (.inl ⟨c, hm, rfl⟩))
    · exact .inr (.inr (.inr ⟨c, hm, rfl⟩))
  have h3 : 3 ^ n ≤ 3 ^ 4 := Nat.pow_le_pow_right (by decide) hn
  have e : (allE n).length = 4 * 3 ^ n := by
    unfold allE
    simp only [List.length_append, List.length_map, len_allC]
    omega
  omega
theorem pushed_len {n : Nat} {ns : List Int} {e : Ent} (hc : OkC n e.2) : (pushed ns e).length ≤ n := by
  unfold pushed
  split
  · rw [List.length_map, free_len, ← hc.1]
    exact cnt_le _
  · exact Nat.zero_le _
/-- what the entries of a game are -/
structure GoodB (n : Nat) (ns : List Int) (es : List Ent) : Prop where
  srt : es.Pairwise ltE
  it : ∀ e ∈ es, ItE n ns e
  cl : ∀ e ∈ es, 0 < e.1 → ∀ i ∈ free e.2, (e.1 - 1, e.2.set i 1) ∈ es ∨ (e.1 - 1, e.2.set i 0) ∈ es
  rt : 0 < D ns (root n) → (((D ns (root n) : Nat) : Int) - 1, root n) ∈ es
  len : es.length ≤ 324
theorem GoodB.of {n : Nat} {ns : List Int} {kn : List (List Key × V)} {done es : List Ent} (hn : n ≤ 4) (b : Bk n ns kn done []) (p : es.Perm done) (s : es.Pairwise ltE) : GoodB n ns es := by
  have go : ∀ x : Ent, (x ∈ done ∨ x ∈ ([] : List Ent)) → x ∈ es := fun x h => by
    rcases h with h | h
    · exact p.mem_iff.mpr h
    · cases h
  refine ⟨s, fun e he => b.it e (p.mem_iff.mp he), fun e he hp i hi => ?_, fun hp => go _ (b.rt hp), ?_⟩
  · rcases b.cl e (p.mem_iff.mp he) hp i hi with q | q
    · exact .inl (go _ q)
    · exact .inr (go _ q)
  · rw [p.length_eq]
    exact ents_len hn b.nd b.it
theorem paired_two {α β : Type} {R : α → β → Prop} : ∀ {as : List α} {bs : List β}, Paired R as bs → ∃ ls : List (α × β), as = ls.map (·.1) ∧ bs = ls.map (·.2) ∧ ∀ p ∈ ls, R p.1 p.2
  | _, _, .nil => ⟨[], rfl, rfl, fun p h => by cases h⟩
  | _, _, .cons (a := a) (b := b) h t => by
    obtain ⟨ls, h1, h2, h3⟩ := paired_two t
    refine ⟨(a, b) :: ls, by rw [h1]; rfl, by rw [h2]; rfl, fun p hp => ?_⟩
    rcases List.mem_cons.mp hp with e | hp
    · rw [e]; exact h
    · exact h3 p hp
def BookAt (H : Hp) (q : Addr) (ls : List (Addr × Ent)) : Prop := H q = some (.tup (ls.map fun p => V.ref p.1)) ∧ ∀ p ∈ ls, EntA H p.1 p.2
theorem EntA.ex {H H' : Hp} {a : Addr} {e : Ent} (x : EntA H a e) (h : Ex H H') : EntA H' a e := x.keep fun b ys z => h b _ z
theorem BookAt.ex {H H' : Hp} {q : Addr} {ls : List (Addr × Ent)} (b : BookAt H q ls) (e : Ex H H') : BookAt H' q ls := ⟨e _ _ b.1, fun p hp => (b.2 p hp).ex e⟩
section
variable {P : Program} {w : World} {K : PySem.W.Frag} {mg : Str → Option Value} {base : Heap}
def spEntries : Sp := fun vs H Q _ => ∃ (c e : Addr) (n : Nat) (ns : List Int) (kk kn : List (List Key × V)), vs = [.ref c, .ref e] ∧ n ≤ 4 ∧ OkV n ns ∧ H c = some (.tup ((root n).map V.int)) ∧ H e = some (.dT kn) ∧ Known n ns kk kn ∧ hasK kn (root n) ∧
  ∀ q ls H', Ex H H' → BookAt H' q ls → GoodB n ns (ls.map (·.2)) → Q (.ref q) H'
def EnSt (P : Program) (w : World) (H : Hp) (c d L F : Addr) (n : Nat) (ns : List Int) (kn : List (List Key × V)) (m : Nat) (σ : L2.St) (H' : Hp) : Prop :=
  ∃ (y4 y5 y6 y7 y8 : Option V) (ls : List (Addr × Ent)) (kvs : List (Ent × V)), σ = [some (.ref c), some (.ref d), some (.ref L), some (.ref F), y4, y5, y6, y7, y8] ∧ Ex H H' ∧ H' L = some (.lst (ls.map fun p : Addr × Ent => V.ref p.1)) ∧ (∀ p ∈ ls, EntA H' p.1 p.2) ∧ DictN P w H' F kvs ∧ Bk n ns kn (kvs.map (·.1)) (ls.map (·.2)) ∧ ls.length ≤ 1 + 4 * kvs.length ∧ m = (324 - kvs.length) * 10 + ls.length
theorem ok_entries_so (T : Txt K mg) : Has P w K mg base "entries_so" ["cube", "known"] 3 spEntries := by
  have G_free_bits := ok_free_bits (P := P) (w := w) (base := base) T
  have G_halves_of := ok_halves_of (P := P) (w := w) (base := base) T
  refine T.d_entries_so.ok sc_entries_so (fun vs H Q E h => ?_) (fun f cdv A outer s H vs Q E hr h => ?_)
  · obtain ⟨c, e, n, ns, kk, kn, rfl, _⟩ := h
    rfl
  · obtain ⟨c, d, n, ns, kk, kn, rfl, hn, hv, hcu, hd, hK, hk, k⟩ := h
    have hu := hu_of hr
    have hu9 := r9 hr
    have hu10 := r10 hr
    refine ⟨_, (pss_cons (ps_par (i := 2) (j := 3) (by rfl) sc_entries_so.nd rfl rfl (by decide) rfl rfl (pa_cons (pe_lst (pa_cons (pe_tup (pa_cons (pe_op op_sub (pe_dget hu (pv 1) (pv 0) (fun _ _ => rfl)) pe_int) (pa_cons (pv 0) pa_nil))) pa_nil)) (pa_cons pe_nnew pa_nil)) (by rfl))
      (pss_cons (ps_while PassesOwn.never (pt_cmpR op_gt (pe_callB call_len_seq (by rfl) T.b_len PySem.boot_len (pa_cons (pv 2) pa_nil)) pe_int (nomark _)) (pss_cons (ps_asg (pe_bm0 PySem.F.plainAttrs_list PySem.F.slot_list_pop PySem.F.type_list_pop mt_pop (pv 2)) (pg_tup (by rfl) (pgs_cons (pg_name (i := 4) sc_entries_so.nd rfl (Or.inl rfl)) (pgs_cons (pg_name (i := 5) sc_entries_so.nd rfl (Or.inl rfl)) pgs_nil))))
      (pss_cons (ps_if (PW.pt (pw_or (pt_cmpR op_lt (pv 4) pe_int (nomark _)) (pw_or1 (pt_cmp (pc_nin hu9 (pe_tup (pa_cons (pv 4) (pa_cons (pv 5) pa_nil))) (pv 3)) rfl)))) (pss_one ps_continue) pss_nil)
      (pss_cons (ps_nput hu9 (pv 3) (pe_tup (pa_cons (pv 4) (pa_cons (pv 5) pa_nil))) pe_bl)
      (pss_one (ps_if (pt_cmpR op_gt (pv 4) pe_int (nomark _)) (pss_one (ps_for PassesOwn.never rfl (pi_list (pe_has G_free_bits (hr.mono (by omega)) (pa_cons (pv 5) pa_nil))) (pg_name (i := 6) sc_entries_so.nd rfl (Or.inl rfl)) (pss_cons (ps_asg (pe_has G_halves_of (hr.mono (by omega)) (pa_cons (pv 5) (pa_cons (pv 6) pa_nil))) (pg_tup (by rfl) (pgs_cons (pg_name (i := 7) sc_entries_so.nd rfl (Or.inl rfl)) (pgs_cons (pg_name (i := 8) sc_entries_so.nd rfl (Or.inl rfl)) pgs_nil))))
      (pss_one (ps_expr (pe_bm PySem.F.plainAttrs_list PySem.F.slot_list_append PySem.F.type_list_append mt_append (pv 2) (pa_cons (pe_tup (pa_cons (pe_op op_sub (pv 4) pe_int) (pa_cons (pe_ifExp (pt_cmpR op_ge (pe_dget hu (pv 1) (pv 7) (fun _ _ => rfl)) (pv 4) (nomark _)) (pv 7) (pv 8)) pa_nil))) pa_nil))))))) pss_nil))))))
      (pss_one (ps_ret (pe_callTy call_tuple_of (by rfl) T.b_tuple (by decide +kernel) (pa_cons (pe_callB (call_sortN rfl hu10) (by rfl) T.b_sorted (by decide +kernel) (pa_cons (pv 3) pa_nil)) pa_nil)))))), ?_⟩
    refine ⟨_, rfl, _, rfl, d, _, rfl, dgetK hK.mn hd hcu hk, _, _, rfl, rfl, _, rfl, (by show 2 ≤ sizeLine; decide), fun q0 hq0 => ?_⟩
    have x0 := exn (o := HO.tup [V.int ((D ns (root n) : Nat) - 1 : Int), V.ref c]) hq0
    refine ⟨(by show 1 ≤ sizeLine; decide), fun L hL => ?_⟩
    have nLq : q0 ≠ L := ne_of_none upd_same hL
    have x1 := x0.trans (exn (o := HO.lst [V.ref q0]) hL)
    have hL0 : H L = none := by rw [upd_ne (Ne.symm nLq)] at hL; exact hL
    intro F HF hF dF sF
    have nLF : L ≠ F := ne_of_none upd_same hF
    have hF0 : H F = none := by
      cases q : H F with
      | none => rfl
      | some o => rw [x1 _ _ q] at hF; cases hF
    have xF : Ex H HF := fun b o h => by
      rw [sF b (fun z => by rw [z, hF0] at h; cases h)]
      exact x1 _ _ h
    refine ⟨_, _, rfl, ?_⟩
    have hq0F : HF q0 = some (.tup [.int ((D ns (root n) : Nat) - 1 : Int), .ref c]) := by
      have h1 := exn (o := HO.lst [V.ref q0]) hL _ _ (upd_same (H := H) (a := q0) (o := HO.tup [V.int ((D ns (root n) : Nat) - 1 : Int), V.ref c]))
      rw [sF q0 (fun z => by rw [← z, h1] at hF; cases hF)]
      exact h1
    have hLF : HF L = some (.lst [.ref q0]) := by rw [sF L nLF]; exact upd_same
    refine ⟨EnSt P w H c d L F n ns kn, ⟨_, none, none, none, none, none, [(q0, (((D ns (root n) : Nat) : Int) - 1, root n))], [], rfl, xF, hLF, ?_, dF, ?_, Nat.le_refl _, rfl⟩, ?_⟩
    · intro p hp
      rw [List.mem_singleton.mp hp]
      exact ⟨c, hq0F, xF _ _ hcu⟩
    · refine ⟨List.nodup_nil, fun e h => (by cases h), fun e h => ?_, fun e h => (by cases h), fun _ => .inr (List.mem_cons_self)⟩
      have := List.mem_singleton.mp h
      subst this
      exact ⟨root_ok n, by dsimp only; omega, by dsimp only; omega, hk⟩
    · rintro m σ H1 ⟨y4, y5, y6, y7, y8, ls, kvs, rfl, e1, hls, hent, hdict, hbk, hll, rfl⟩
      have hkl := ents_len hn hbk.nd hbk.it
      rw [List.length_map] at hkl
      refine ⟨_, rfl, L, _, rfl, .inl (SqL.of hls), _, _, rfl, rfl, _, rfl, ?_⟩
      refine ite2 (fun z => ?_) (fun z => ?_)
      · have z1 : 0 < ls.length := by
          have := of_decide_eq_true z
          rw [List.length_map] at this
          omega
        obtain ⟨l', e, el⟩ : ∃ l' e, ls = l' ++ [e] := by
          rcases List.eq_nil_or_concat ls with q | ⟨l', e, q⟩
          · rw [q] at z1; exact absurd z1 (Nat.lt_irrefl _)
          · exact ⟨l', e, by rw [q]; simp⟩
        subst el
        obtain ⟨r, en⟩ := e
        rw [List.map_append, List.map_cons, List.map_nil] at hls hbk
        obtain ⟨cc, hr1, hr2⟩ := hent (r, en) (List.mem_append.mpr (.inr List.mem_cons_self))
        have hlf := hbk.lf en (List.mem_append.mpr (.inr List.mem_cons_self))
        refine ⟨_, fun _ _ h => h, ?_⟩
        refine ⟨_, rfl, .inl ⟨rfl, _, SqL.of hls⟩, L, _, .ref r, rfl, rfl, hls, (by simp), ?_⟩
        rw [List.dropLast_concat]
        have nLr : r ≠ L := ne_of hr1 hls (by intro z; cases z)
        have nLc : cc ≠ L := ne_of hr2 hls (by intro z; cases z)
        have up : ∀ {b : Addr} {o : HO}, b ≠ L → H1 b = some o → upd H1 L (.lst (l'.map fun p => V.ref p.1)) b = some o := fun nb h => by rw [upd_ne nb]; exact h
        have hT : ∀ b ys, H1 b = some (.tup ys) → upd H1 L (.lst (l'.map fun p => V.ref p.1)) b = some (.tup ys) := fun b ys h => up (ne_of h hls (by intro z; cases z)) h
        have nFL : F ≠ L := Ne.symm nLF
        have hdict2 := hdict.keep (H' := upd H1 L (.lst (l'.map fun p => V.ref p.1))) (upd_ne nFL) hT
        have hent2 : ∀ p ∈ l', EntA (upd H1 L (.lst (l'.map fun p => V.ref p.1))) p.1 p.2 := fun p hp => (hent p (List.mem_append.mpr (.inl hp))).keep hT
        have e2 : Ex H (upd H1 L (.lst (l'.map fun p => V.ref p.1))) := ex_upd e1 hL0
        have hL2 : upd H1 L (.lst (l'.map fun p => V.ref p.1)) L = some (.lst (l'.map fun p => V.ref p.1)) := upd_same
        have hr1' := hT _ _ hr1
        have hr2' := hT _ _ hr2
        generalize upd H1 L (.lst (l'.map fun p => V.ref p.1)) = H2 at hdict2 hent2 e2 hL2 hr1' hr2' ⊢
        refine ⟨r, _, rfl, SqT.of hr1', rfl, _, _, rfl, _, _, rfl, rfl, ?_⟩
        refine ⟨_, rfl, _, _, rfl, rfl, _, rfl, ?_⟩
        have hdrop : ∀ (H3 : Hp) (σ3 : L2.St) , Ex H2 H3 → (∃ y4 y5 y6 y7 y8, σ3 = [some (.ref c), some (.ref d), some (.ref L), some (.ref F), y4, y5, y6, y7, y8]) → (en ∈ kvs.map (·.1) ∨ en.1 < 0) →
            ∃ m', m' < (324 - kvs.length) * 10 + (l' ++ [(r, en)]).length ∧ EnSt P w H c d L F n ns kn m' σ3 H3 := by
          intro H3 σ3 e3 ⟨y4, y5, y6, y7, y8, es⟩ hcase
          rw [List.length_append, List.length_singleton] at hll ⊢
          exact ⟨_, by omega, y4, y5, y6, y7, y8, l', kvs, es, e2.trans e3, e3 _ _ hL2, fun p hp => (hent2 p hp).ex e3, hdict2.same e3, hbk.drop hcase, by omega, rfl⟩
        refine ite2 (fun z2 => ?_) (fun z2 => ?_)
        · exact hdrop H2 _ (exr _) ⟨_, _, _, _, _, rfl⟩ (.inr (of_decide_eq_true z2))
        · have h0 : 0 ≤ en.1 := by
            have : ¬ en.1 < 0 := fun q => z2 (decide_eq_true q)
            omega
          refine ⟨_, rfl, _, rfl, (by show 2 ≤ sizeLine; decide), fun q3 hq3 => ⟨_, rfl, F, q3, kvs, en, rfl, rfl, hdict2.same (exn hq3), ⟨cc, upd_same, exn hq3 _ _ hr2'⟩, _, rfl, ?_⟩⟩
          have e3 := exn (o := HO.tup [V.int en.1, V.ref cc]) hq3
          cases hval : valV kvs en with
          | some v =>
            refine iteT (hdrop _ _ e3 ⟨_, _, _, _, _, rfl⟩ (.inl ?_))
            exact List.mem_map.mpr ⟨_, valV_mem hval, rfl⟩
          | none =>
            refine iteF ?_
            have hnin : en ∉ kvs.map (·.1) := fun q => by
              obtain ⟨p, hp, rfl⟩ := List.mem_map.mp q
              have hany : (kvs.any fun kv => decide (kv.1 = p.1)) = true := List.any_eq_true.mpr ⟨p, hp, decide_eq_true rfl⟩
              rw [valV_any, hval] at hany
              cases hany
            have hbk' := hbk.add hK hnin h0
            -- found[asks, here] = True
            refine ⟨_, rfl, _, rfl, _, rfl, (by show 2 ≤ sizeLine; decide), fun q4 hq4 => ?_⟩
            have e4 := e3.trans (exn (o := HO.tup [V.int en.1, V.ref cc]) hq4)
            refine ⟨F, q4, kvs, en, rfl, rfl, hdict2.same e4, ⟨cc, upd_same, e4 _ _ hr2'⟩, by rw [sizeLine_eq]; omega, fun H5 put5 => ?_⟩
            have hF2 : ∀ {b : Addr} {o : HO}, b ≠ F → H2 b = some o → H5 b = some o := fun nb h => by rw [put5.2 _ nb]; exact e4 _ _ h
            obtain ⟨xs2, hF2', _⟩ := hdict2
            have hT5 : ∀ b ys, H2 b = some (.tup ys) → H5 b = some (.tup ys) := fun b ys h => hF2 (ne_of h hF2' (by intro z; cases z)) h
            have e5 : Ex H H5 := fun b o h => hF2 (fun z => by rw [z, hF0] at h; cases h) (e2 _ _ h)
            have hL5 := hF2 nLF hL2
            have hcc5 := hT5 _ _ hr2'
            have hent5 : ∀ p ∈ l', EntA H5 p.1 p.2 := fun p hp => (hent2 p hp).keep hT5
            have hd5 := put5.1
            have ekv : putK kvs en (V.bl true) = kvs ++ [(en, V.bl true)] := putK_new _ hval
            rw [ekv] at hd5
            have ekm : (kvs ++ [(en, V.bl true)]).map (·.1) = kvs.map (·.1) ++ [en] := by rw [List.map_append]; rfl
            have ekl : (kvs ++ [(en, V.bl true)]).length = kvs.length + 1 := by rw [List.length_append]; rfl
            have hpl := pushed_len (ns := ns) hlf.1
            have hk9 := ents_len hn hbk'.nd hbk'.it
            rw [List.length_append, List.length_map, List.length_singleton] at hk9
            rw [List.length_append, List.length_singleton] at hll ⊢
            have close : ∀ (H6 : Hp) (σ6 : L2.St) (ls : List (Addr × Ent)), Ex H H6 → (∃ y4 y5 y6 y7 y8, σ6 = [some (.ref c), some (.ref d), some (.ref L), some (.ref F), y4, y5, y6, y7, y8]) → H6 L = some (.lst (ls.map fun p : Addr × Ent => V.ref p.1)) → (∀ p ∈ ls, EntA H6 p.1 p.2) → DictN P w H6 F (kvs ++ [(en, V.bl true)]) → ls.map (·.2) = l'.map (·.2) ++ pushed ns en →
                ∃ m', m' < (324 - kvs.length) * 10 + (l'.length + 1) ∧ EnSt P w H c d L F n ns kn m' σ6 H6 := by
              intro H6 σ6 ls h1 ⟨y4, y5, y6, y7, y8, h2⟩ h3 h4 h5 h6
              have hlen : ls.length = l'.length + (pushed ns en).length := by
                have := congrArg List.length h6
                rw [List.length_map, List.length_append, List.length_map] at this
                exact this
              refine ⟨(324 - (kvs.length + 1)) * 10 + ls.length, by omega, y4, y5, y6, y7, y8, ls, _, h2, h1, h3, h4, h5, ?_, by rw [ekl]; omega, by rw [ekl]⟩
              rw [ekm, h6]
              exact hbk'
            refine ⟨_, rfl, _, _, rfl, rfl, _, rfl, ?_⟩
            refine ite2 (fun z3 => ?_) (fun z3 => ?_)
            · have hpos : 0 < en.1 := of_decide_eq_true z3
              have hb : bothB ns en.2 = true := D_both (by have := hlf.2.1; omega)
              have hl : en.2.length ≤ 8 := by rw [hlf.1.1]; omega
              refine ⟨_, rfl, cc, en.2, rfl, hcc5, hl, fun p H6 e6 hp => ⟨p, rfl, ⟨_, SqL.of hp⟩, ?_⟩⟩
              have npL : p ≠ L := fun z => by
                have q := e6 _ _ hL5
                rw [← z, hp] at q
                injection q with q
                injection q with q
                have fne := free_ne hlf.1 hb
                cases q1 : free en.2 with
                | nil => exact fne q1
                | cons x r =>
                  rw [q1] at q
                  cases l' with
                  | nil => cases q
                  | cons y l' =>
                    rw [List.map_cons, List.map_cons] at q
                    injection q with q _
                    cases q
              refine for_list (K := K) (a := p) (xs := (free en.2).map fun i => V.int (i : Nat)) (fun i σ H' => ∃ (y6 y7 y8 : Option V) (ls : List (Addr × Ent)), σ = [some (.ref c), some (.ref d), some (.ref L), some (.ref F), some (.int en.1), some (.ref cc), y6, y7, y8] ∧ Ex H H' ∧
                H' p = some (.lst ((free en.2).map fun i => V.int (i : Nat))) ∧ H' cc = some (.tup (en.2.map V.int)) ∧ H' L = some (.lst (ls.map fun p : Addr × Ent => V.ref p.1)) ∧ (∀ p ∈ ls, EntA H' p.1 p.2) ∧ DictN P w H' F (kvs ++ [(en, V.bl true)]) ∧ ls.map (·.2) = l'.map (·.2) ++ ((free en.2).take i).map (nxt ns en)) ?_ ?_ ?_ ?_
              · exact ⟨_, _, _, l', rfl, e5.trans e6, hp, e6 _ _ hcc5, e6 _ _ hL5, fun p hp => (hent5 p hp).ex e6, hd5.same e6, by simp⟩
              · rintro i σ H' _ ⟨_, _, _, _, _, _, hp', _⟩
                exact SqL.of hp'
              · rintro i x σ H' hx ⟨y6, y7, y8, ls, rfl, e', hp', hcc', hL', hent', hd', hls'⟩
                obtain ⟨j, hj, rfl⟩ : ∃ j, (free en.2)[i]? = some j ∧ x = V.int (j : Nat) := by
                  rw [List.getElem?_map] at hx
                  cases q : (free en.2)[i]? with
                  | none => rw [q] at hx; cases hx
                  | some j => rw [q] at hx; exact ⟨j, rfl, (Option.some.inj hx).symm⟩
                have hjm : j ∈ free en.2 := List.mem_of_getElem? hj
                have hf := mem_free.mp hjm
                have hjl : j < en.2.length := (List.getElem?_eq_some_iff.mp hf).1
                obtain ⟨k1, k0⟩ := hK.cl en.2 hlf.2.2.2 hb j hjm
                refine ⟨_, rfl, _, rfl, cc, en.2, j, rfl, hcc', hl, hjl, fun p3 x3 y3 H7 e7 hp3 hx3 hy3 => ?_⟩
                refine ⟨p3, _, rfl, SqT.of hp3, rfl, _, _, rfl, _, _, rfl, rfl, ?_⟩
                have hd7 : H7 d = some (.dT kn) := e7 _ _ (e' _ _ hd)
                have hlen : ls.length ≤ l'.length + 4 := by
                  have := congrArg List.length hls'
                  rw [List.length_map, List.length_append, List.length_map, List.length_map] at this
                  have h4 : ((free en.2).take i).length ≤ (free en.2).length := by rw [List.length_take]; omega
                  rw [free_len] at h4
                  have := cnt_le en.2
                  have := hlf.1.1
                  omega
                have app : ∀ (x : Addr), H7 x = some (.tup ((nxt ns en j).2.map V.int)) → ∀ q, H7 q = none → ∃ (y6 y7 y8 : Option V) (ls2 : List (Addr × Ent)), [some (V.ref c), some (.ref d), some (.ref L), some (.ref F), some (.int en.1), some (.ref cc), some (V.int (j : Nat)), some (V.ref x3), some (V.ref y3)] = [some (.ref c), some (.ref d), some (.ref L), some (.ref F), some (.int en.1), some (.ref cc), y6, y7, y8] ∧ Ex H (upd (upd H7 q (.tup [.int (en.1 - 1), .ref x])) L (.lst (ls.map (fun p : Addr × Ent => V.ref p.1) ++ [V.ref q]))) ∧
                    (upd (upd H7 q (.tup [.int (en.1 - 1), .ref x])) L (.lst (ls.map (fun p : Addr × Ent => V.ref p.1) ++ [V.ref q]))) p = some (.lst ((free en.2).map fun i => V.int (i : Nat))) ∧ (upd (upd H7 q (.tup [.int (en.1 - 1), .ref x])) L (.lst (ls.map (fun p : Addr × Ent => V.ref p.1) ++ [V.ref q]))) cc = some (.tup (en.2.map V.int)) ∧
                    (upd (upd H7 q (.tup [.int (en.1 - 1), .ref x])) L (.lst (ls.map (fun p : Addr × Ent => V.ref p.1) ++ [V.ref q]))) L = some (.lst (ls2.map fun p : Addr × Ent => V.ref p.1)) ∧ (∀ p ∈ ls2, EntA (upd (upd H7 q (.tup [.int (en.1 - 1), .ref x])) L (.lst (ls.map (fun p : Addr × Ent => V.ref p.1) ++ [V.ref q]))) p.1 p.2) ∧
                    DictN P w (upd (upd H7 q (.tup [.int (en.1 - 1), .ref x])) L (.lst (ls.map (fun p : Addr × Ent => V.ref p.1) ++ [V.ref q]))) F (kvs ++ [(en, V.bl true)]) ∧ ls2.map (·.2) = l'.map (·.2) ++ ((free en.2).take (i + 1)).map (nxt ns en) := by
                  intro x hx q hq
                  have e8 := e7.trans (exn (o := HO.tup [V.int (en.1 - 1), V.ref x]) hq)
                  have e8' := exn (o := HO.tup [V.int (en.1 - 1), V.ref x]) hq
                  have hq8 : upd H7 q (.tup [V.int (en.1 - 1), V.ref x]) q = some (.tup [V.int (en.1 - 1), V.ref x]) := upd_same
                  generalize upd H7 q (.tup [V.int (en.1 - 1), V.ref x]) = H8 at e8 e8' hq8 ⊢
                  have hL8 := e8 _ _ hL'
                  have kp : ∀ {b o}, b ≠ L → H8 b = some o → upd H8 L (.lst (ls.map (fun p : Addr × Ent => V.ref p.1) ++ [V.ref q])) b = some o := fun nb h => by rw [upd_ne nb]; exact h
                  have kt : ∀ b ys, H8 b = some (.tup ys) → upd H8 L (.lst (ls.map (fun p : Addr × Ent => V.ref p.1) ++ [V.ref q])) b = some (.tup ys) := fun b ys h => kp (ne_of h hL8 (by intro z; cases z)) h
                  refine ⟨_, _, _, ls ++ [(q, nxt ns en j)], rfl, ex_upd (e'.trans e8) hL0, kp npL (e8 _ _ hp'), kt _ _ (e8 _ _ hcc'), by rw [upd_same, List.map_append]; rfl, fun p hp => ?_, (hd'.same e8).keep (upd_ne nFL) kt, ?_⟩
                  · rcases List.mem_append.mp hp with h | h
                    · exact ((hent' p h).ex e8).keep kt
                    · rw [List.mem_singleton.mp h]
                      exact ⟨x, kt _ _ hq8, kt _ _ (e8' _ _ hx)⟩
                  · rw [List.map_append, hls', List.take_add_one, hj, List.map_append, List.append_assoc]
                    rfl
                refine ⟨_, rfl, .inl ⟨rfl, _, SqL.of (e7 _ _ hL')⟩, _, rfl, _, _, rfl, rfl, ?_⟩
                refine ⟨_, rfl, _, rfl, d, _, rfl, dgetK hK.mn hd7 hx3 k1, _, rfl, _, _, rfl, rfl, _, rfl, ?_⟩
                have big : ∀ q : Addr, H7 q = none → (ls.map fun p : Addr × Ent => V.ref p.1).length < sizeLine := fun q hq => by
                  rw [List.length_map, sizeLine_eq]
                  omega
                have hLq : ∀ {q o}, H7 q = none → upd H7 q o L = some (.lst (ls.map fun p : Addr × Ent => V.ref p.1)) := fun hq => exn hq _ _ (e7 _ _ hL')
                refine ite2 (fun z4 => ?_) (fun z4 => ?_)
                · have z5 : ((D ns (en.2.set j 1) : Nat) : Int) ≥ en.1 := of_decide_eq_true z4
                  have en2 : (nxt ns en j).2 = en.2.set j 1 := by unfold nxt; rw [if_pos z5]
                  exact ⟨_, rfl, (by show 2 ≤ sizeLine; decide), fun q hq => ⟨L, _, _, rfl, rfl, hLq hq, big q hq, app x3 (by rw [en2]; exact hx3) q hq⟩⟩
                · have z5 : ¬ ((D ns (en.2.set j 1) : Nat) : Int) ≥ en.1 := fun q => z4 (decide_eq_true q)
                  have en2 : (nxt ns en j).2 = en.2.set j 0 := by unfold nxt; rw [if_neg z5]
                  exact ⟨_, rfl, (by show 2 ≤ sizeLine; decide), fun q hq => ⟨L, _, _, rfl, rfl, hLq hq, big q hq, app y3 (by rw [en2]; exact hy3) q hq⟩⟩
              · rintro σ H' ⟨y6, y7, y8, ls, rfl, e', hp', hcc', hL', hent', hd', hls'⟩
                rw [List.length_map, List.take_length] at hls'
                refine close _ _ ls e' ⟨_, _, _, _, _, rfl⟩ hL' hent' hd' ?_
                rw [hls']
                unfold pushed
                rw [if_pos hpos]
            · have hnp : ¬ 0 < en.1 := fun q => z3 (decide_eq_true q)
              refine close _ _ l' e5 ⟨_, _, _, _, _, rfl⟩ hL5 hent5 hd5 ?_
              unfold pushed
              rw [if_neg hnp, List.append_nil]
      · have z1 : ls = [] := by
          apply List.eq_nil_of_length_eq_zero
          have : ¬ ((((ls.map fun p : Addr × Ent => V.ref p.1).length : Nat) : Int) > 0) := fun q => z (decide_eq_true q)
          rw [List.length_map] at this
          omega
        subst z1
        refine ⟨_, rfl, F, kvs, rfl, hdict, hbk.nd, fun p es refs hp hperm hsrt hpr => ?_⟩
        have e2 := exn (o := HO.lst (refs.map V.ref)) hp
        refine ⟨p, _, rfl, .inl ⟨SqL.of upd_same, fun q hq => ?_⟩⟩
        have e3 := e2.trans (exn (o := HO.tup (refs.map V.ref)) hq)
        obtain ⟨ls, h1, h2, h3⟩ := paired_two hpr
        refine k q ls _ (e1.trans e3) ⟨?_, fun p hp => (h3 p hp).ex e3⟩ ?_
        · rw [upd_same, h1, List.map_map]
          rfl
        · rw [← h2]
          exact GoodB.of hn hbk hperm hsrt
end
end Fa

set_option Elab.async false
set_option linter.all false
set_option maxRecDepth 100000
set_option maxHeartbeats 4000000
namespace Fa
open PySem PySem.Spec PyProof.Rows L2 Evl
theorem But.ex_new {a b : Addr} {G H H' : Hp} (e : Ex G H) (ha : G a = none) (hb : G b = none) (x : But a b H H') : Ex G H' := fun c o h => x c o (e c o h) (fun z => by rw [z, ha] at h; cases h) (fun z => by rw [z, hb] at h; cases h)
section
variable {P : Program} {w : World} {K : PySem.W.Frag} {mg : Str → Option Value} {base : Heap}
def LeastAt (H : Hp) (n : Nat) (ns : List Int) (p : Addr) : Prop := ∃ v t q ls, H p = some (.tup [.int (D ns (root n) : Nat), v, .ref q]) ∧ TreeAt H t v ∧ GoodT n ns (root n) t ∧ BookAt H q ls ∧ GoodB n ns (ls.map (·.2))
def spLeast : Sp := fun vs H Q _ => ∃ (a : Addr) (n : Nat) (ns : List Int), vs = [.int n, .ref a] ∧ 1 ≤ n ∧ n ≤ 4 ∧ OkV n ns ∧ H a = some (.tup (ns.map V.int)) ∧ ∀ p H', Ex H H' → LeastAt H' n ns p → Q (.ref p) H'
theorem ok_least_so (T : Txt K mg) : Has P w K mg base "least_so" ["many", "values"] 20 spLeast := by
  have G_cube_so := ok_cube_so (P := P) (w := w) (base := base) T
  have G_fewest_so := ok_fewest_so (P := P) (w := w) (base := base) T 5
  have G_tree_so := ok_tree_so (P := P) (w := w) (base := base) T 5
  have G_entries_so := ok_entries_so (P := P) (w := w) (base := base) T
  refine T.d_least_so.ok sc_least_so (fun vs H Q E h => ?_) (fun f cdv A outer s H vs Q E hr h => ?_)
  · obtain ⟨a, n, ns, rfl, _⟩ := h
    rfl
  · obtain ⟨a, n, ns, rfl, h1, h4, hv, ha, k⟩ := h
    refine ⟨_, (pss_cons (ps_par3 (i := 2) (j := 3) (l := 4) (by rfl) sc_least_so.nd rfl rfl rfl (by decide) (by decide) (by decide) rfl rfl rfl (pa_cons pe_dnewT (pa_cons pe_dnewT (pa_cons (pe_has G_cube_so (hr.mono (by omega)) (pa_cons (pv 0) pa_nil)) pa_nil))) (by rfl))
      (pss_cons (ps_set (i := 5) sc_least_so.nd rfl (Or.inl rfl) (pe_has G_fewest_so (hr.mono (by omega)) (pa_cons (pv 1) (pa_cons (pv 4) (pa_cons (pv 2) (pa_cons (pv 3) pa_nil))))))
      (pss_one (ps_ret (pe_tup (pa_cons (pv 5) (pa_cons (pe_has G_tree_so (hr.mono (by omega)) (pa_cons (pv 4) (pa_cons (pv 2) (pa_cons (pv 3) pa_nil)))) (pa_cons (pe_has G_entries_so (hr.mono (by omega)) (pa_cons (pv 4) (pa_cons (pv 3) pa_nil))) pa_nil)))))))), ?_⟩
    intro d hd e he
    have x1 := (exn (o := HO.dT []) hd).trans (exn (o := HO.dT []) he)
    have hd2 : upd (upd H d (.dT [])) e (.dT []) d = some (.dT []) := exn he _ _ upd_same
    have he2 : upd (upd H d (.dT [])) e (.dT []) e = some (.dT []) := upd_same
    have nde : d ≠ e := ne_of_none upd_same he
    have he0 : H e = none := by rw [upd_ne (Ne.symm nde)] at he; exact he
    generalize upd (upd H d (.dT [])) e (.dT []) = H1 at x1 hd2 he2 ⊢
    refine ⟨_, rfl, n, rfl, h1, by omega, fun c H2 e2 hc => ?_⟩
    refine ⟨_, _, _, rfl, ?_⟩
    have x2 := x1.trans e2
    have hcn := root_cnt n
    refine ⟨_, rfl, _, rfl, _, rfl, _, rfl, a, c, d, e, n, ns, root n, [], [], rfl, nde, by omega, hv, root_ok n, by omega, x2 _ _ ha, hc, e2 _ _ hd2, e2 _ _ he2, Known.nil n ns, fun H3 kk kn b3 hd3 he3 hK g1 g2 hk => ?_⟩
    have x3 := But.ex_new x2 hd he0 b3
    have hc3 := b3 _ _ hc (ne_of hc (e2 _ _ hd2) (by intro z; cases z)) (ne_of hc (e2 _ _ he2) (by intro z; cases z))
    have hD : D ns (root n) ≤ n := D_len (root_ok n)
    refine ⟨_, rfl, _, rfl, _, rfl, _, rfl, c, d, e, n, ns, root n, kk, kn, rfl, by omega, hv, root_ok n, by omega, hc3, hd3, he3, hK, hk, fun v t H4 e4 hvt gt => ?_⟩
    refine ⟨_, rfl, _, rfl, c, e, n, ns, kk, kn, rfl, h4, hv, e4 _ _ hc3, e4 _ _ he3, hK, hk, fun q ls H5 e5 hq gb => ?_⟩
    refine ⟨(by show 3 ≤ sizeLine; decide), fun p hp => ?_⟩
    have e6 := exn (o := HO.tup [V.int (D ns (root n) : Nat), v, V.ref q]) hp
    exact k p _ (((x3.trans e4).trans e5).trans e6) ⟨v, t, q, ls, upd_same, (hvt.ex e5).ex e6, gt, hq.ex e6, gb⟩
def spFewC : Sp := fun vs H Q _ => ∃ (a : Addr) (n : Nat) (ns : List Int), vs = [.int n, .ref a] ∧ 1 ≤ n ∧ n ≤ 6 ∧ OkV n ns ∧ H a = some (.tup (ns.map V.int)) ∧ Ret .non H Q
theorem ok_check_few (T : Txt K mg) : Has P w K mg base "check_few" ["many", "values"] 3 spFewC := by
  have G_check_many := ok_check_many (P := P) (w := w) (base := base) T
  have G_check_values := ok_check_values (P := P) (w := w) (base := base) T
  refine T.d_check_few.ok sc_check_few (fun vs H Q E h => ?_) (fun f cdv A outer s H vs Q E hr h => ?_)
  · obtain ⟨a, n, ns, rfl, _⟩ := h
    rfl
  · obtain ⟨a, n, ns, rfl, h1, h6, hv, ha, k⟩ := h
    refine ⟨_, (pss_cons (ps_expr (pe_has G_check_many (hr.mono (by omega)) (pa_cons (pv 0) pa_nil)))
      (pss_cons (ps_expr (pe_has G_check_values (hr.mono (by omega)) (pa_cons (pv 0) (pa_cons (pv 1) pa_nil))))
      (pss_one (ps_if (pt_cmpR op_gt (pv 0) (pe_glob (v := .int 6) rfl T.c_MOST_MANY_asks.choose_spec ⟨_, rfl⟩) (nomark _)) (pss_one ps_never) pss_nil)))), ?_⟩
    refine ⟨_, rfl, n, rfl, h1, by omega, fun H1 e1 => ?_⟩
    refine ⟨_, rfl, _, rfl, n, a, ns, rfl, h1, by omega, hv, e1 _ _ ha, fun H2 e2 => ?_⟩
    refine ⟨_, rfl, _, _, rfl, rfl, _, rfl, ?_⟩
    refine ite2 (fun z => ?_) (fun z => ?_)
    · have := of_decide_eq_true z
      omega
    · exact k H2 (e1.trans e2)
theorem ok_least_asks (T : Txt K mg) : Has P w K mg base "least_asks" ["many", "values"] 21 spLeast := by
  have G_check_few := ok_check_few (P := P) (w := w) (base := base) T
  have G_least_so := ok_least_so (P := P) (w := w) (base := base) T
  refine T.d_least_asks.ok sc_least_asks (fun vs H Q E h => ?_) (fun f cdv A outer s H vs Q E hr h => ?_)
  · obtain ⟨a, n, ns, rfl, _⟩ := h
    rfl
  · obtain ⟨a, n, ns, rfl, h1, h4, hv, ha, k⟩ := h
    refine ⟨_, (pss_cons (ps_expr (pe_has G_check_few (hr.mono (by omega)) (pa_cons (pv 0) (pa_cons (pv 1) pa_nil))))
      (pss_one (ps_ret (pe_has G_least_so (hr.mono (by omega)) (pa_cons (pv 0) (pa_cons (pv 1) pa_nil)))))), ?_⟩
    refine ⟨_, rfl, _, rfl, a, n, ns, rfl, h1, by omega, hv, ha, fun H1 e1 => ?_⟩
    refine ⟨_, rfl, _, rfl, a, n, ns, rfl, h1, h4, hv, e1 _ _ ha, fun p H2 e2 hp => ?_⟩
    exact k p H2 (e1.trans e2) hp
end
end Fa

set_option Elab.async false
set_option linter.all false
set_option maxRecDepth 100000
set_option maxHeartbeats 4000000
namespace Fa
open PySem PySem.Spec PyProof.Rows L2 Evl
theorem at_refs {ls : List (Addr × Ent)} {i : Nat} {x : V} (h : (ls.map fun p => V.ref p.1)[i]? = some x) : ∃ p, ls[i]? = some p ∧ x = V.ref p.1 := by
  rw [List.getElem?_map] at h
  cases e : ls[i]? with
  | none => rw [e] at h; cases h
  | some z => rw [e] at h; exact ⟨z, rfl, (Option.some.inj h).symm⟩
theorem ltE_next {ls : List (Addr × Ent)} (h : (ls.map (·.2)).Pairwise ltE) {i : Nat} {p q : Addr × Ent} (hp : ls[i]? = some p) (hq : ls[i + 1]? = some q) : ltE p.2 q.2 := by
  obtain ⟨i1, e1⟩ := List.getElem?_eq_some_iff.mp hp
  obtain ⟨i2, e2⟩ := List.getElem?_eq_some_iff.mp hq
  have := List.pairwise_iff_getElem.mp h i (i + 1) (by rw [List.length_map]; exact i1) (by rw [List.length_map]; exact i2) (Nat.lt_succ_self i)
  rw [List.getElem_map, List.getElem_map, e1, e2] at this
  exact this
theorem sl_tail {K : PySem.W.Frag} {H : Hp} {Q : VK} {q : Addr} {xs : List V} (hq : H q = some (.tup xs)) (k : ∀ r H2, Ex H H2 → H2 r = some (.tup (xs.drop 1)) → Q (.ref r) H2) : rSlA K (.ref q) (some 1) none H Q := by
  have e1 : (1 : Int) = ((1 : Nat) : Int) := rfl
  refine ⟨q, xs, rfl, SqT.of hq, fun wh => ?_, fun nwh p hp => ?_⟩
  · have h1 := wh.1
    rw [e1, HT.sIx_nat] at h1
    have : xs = [] := List.eq_nil_of_length_eq_zero (by omega)
    subst this
    exact k q H (exr H) hq
  · have hl : 1 ≤ xs.length := by
      apply Nat.pos_of_ne_zero
      intro z
      refine nwh ⟨?_, ?_⟩
      · rw [e1, HT.sIx_nat]; omega
      · rw [HT.sIx_none]
    rw [e1, cut_drop hl]
    exact k p _ (exn hp) upd_same
section
variable {P : Program} {w : World} {K : PySem.W.Frag} {mg : Str → Option Value} {base : Heap}
def spIsEntry : Sp := fun vs H Q _ => ∃ (r : Addr) (n : Nat) (e : Ent), vs = [.int n, .ref r] ∧ n ≤ 8 ∧ EntA H r e ∧ 0 ≤ e.1 ∧ e.1 ≤ ((2 ^ n : Nat) : Int) ∧ OkC n e.2 ∧ Ret (.bl true) H Q
theorem ok_is_entry (T : Txt K mg) : Has P w K mg base "is_entry" ["many", "value"] 2 spIsEntry := by
  have G_is_from := ok_is_from (P := P) (w := w) (base := base) T
  refine T.d_is_entry.ok sc_is_entry (fun vs H Q E h => ?_) (fun f cdv A outer s H vs Q E hr h => ?_)
  · obtain ⟨r, n, e, rfl, _⟩ := h
    rfl
  · obtain ⟨r, n, e, rfl, hn, ⟨cc, hr1, hr2⟩, h0, h1, hc, k⟩ := h
    refine ⟨_, (pss_cons (ps_if (PW.pt (pw_or (pt_not (pt_val (pe_callB call_isi (by rfl) T.b_isinstance (by decide +kernel) (pa_cons (pv 1) (pa_cons (pe_bltn (v := .ty "tuple") (by rfl) T.b_tuple (by decide +kernel) rfl) pa_nil))))) (pw_or (pt_cmpR op_ne (pe_callB call_len_seq (by rfl) T.b_len PySem.boot_len (pa_cons (pv 1) pa_nil)) pe_int (nomark _)) (pw_or1 (pt_not (pt_val (pe_has G_is_from (hr.mono (by omega)) (pa_cons (pe_ix ix_tup (pv 1) pe_int (fun _ _ => rfl)) (pa_cons pe_int (pa_cons (pe_ix ix_tup (pe_glob (v := .ref T.aTWOS) rfl T.c_TWOS rfl) (pv 0) (fun _ _ => rfl)) pa_nil)))))))))) (pss_one (ps_ret pe_bl)) pss_nil)
      (pss_cons (ps_if (PW.pt (pw_or (pt_not (pt_val (pe_callB call_isi (by rfl) T.b_isinstance (by decide +kernel) (pa_cons (pe_ix ix_tup (pv 1) pe_int (fun _ _ => rfl)) (pa_cons (pe_bltn (v := .ty "tuple") (by rfl) T.b_tuple (by decide +kernel) rfl) pa_nil))))) (pw_or1 (pt_cmpR op_ne (pe_callB call_len_seq (by rfl) T.b_len PySem.boot_len (pa_cons (pe_ix ix_tup (pv 1) pe_int (fun _ _ => rfl)) pa_nil)) (pv 0) (nomark _))))) (pss_one (ps_ret pe_bl)) pss_nil)
      (pss_one (ps_ret (pe_cmpR op_eq (pe_callB call_len_seq (by rfl) T.b_len PySem.boot_len (pa_cons (pe_lc (own := [("thing", 2)]) (g := gName 2) (by rfl) sc_is_entry.nd (pi_tup (pe_ix ix_tup (pv 1) pe_int (fun _ _ => rfl))) (blkOk_by (own := [("thing", 2)]) (N := n_is_entry) (sc := defScope s_is_entry) (by decide +kernel)) (fun _ _ _ _ _ => (pg_name (i := 2) sc_is_entry.nd rfl (Or.inl rfl))) (fun _ _ _ _ _ => (pts_one (pt_not (pt_val (pe_has G_is_from (hr.mono (by omega)) (pa_cons (pv 2) (pa_cons pe_int (pa_cons (pe_glob (v := .int 2) rfl T.c_FREE.choose_spec ⟨_, rfl⟩) pa_nil)))))))) (fun _ _ _ _ _ => pe_int)) pa_nil)) pe_int (nomark _)))))), ?_⟩
    refine ⟨_, rfl, _, _, _, _, true, rfl, .ty _, .base (.tup hr1), kit_ty (by decide +kernel), true, rfl, iteF ?_⟩
    refine ⟨_, rfl, r, _, rfl, .inr (SqT.of hr1), rfl, _, rfl, iteNS rfl ?_⟩
    refine ⟨_, rfl, _, _, _, _, rfl, rfl, SqT.of hr1, rfl, _, rfl, _, _, _, _, rfl, rfl, T.sqTWOS H, twos_at hn, _, _, _, rfl, .inl ⟨_, rfl, fun H1 e1 => ?_⟩⟩
    rw [decide_eq_true (show (0 : Int) ≤ e.1 ∧ e.1 ≤ ((2 ^ n : Nat) : Int) from ⟨h0, h1⟩)]
    refine ⟨true, rfl, iteF ?_⟩
    have hr1' := e1 _ _ hr1
    have hr2' := e1 _ _ hr2
    refine ⟨_, rfl, _, _, _, _, rfl, rfl, SqT.of hr1', rfl, _, _, _, _, true, rfl, .ty _, .base (.tup hr2'), kit_ty (by decide +kernel), true, rfl, iteF ?_⟩
    have el : V.int (((e.2.map V.int).length : Nat) : Int) = V.int ((n : Nat) : Int) := by rw [List.length_map, hc.1]
    refine ⟨_, rfl, _, _, _, _, rfl, rfl, SqT.of hr1', rfl, cc, _, rfl, .inr (SqT.of hr2'), _, rfl, rfl, _, rfl, iteNS el ?_⟩
    refine ⟨_, rfl, _, _, _, _, rfl, rfl, SqT.of hr1', rfl, cc, rfl, ⟨_, SqT.of hr2'⟩, fun D hD => ?_⟩
    refine lc_ones (walk_tup (xs := e.2.map V.int)) (fun _ _ _ _ y => y) hD (by rw [List.length_map, hc.1]; omega) (fun H' e2 => SqT.of (e2 _ _ hr2')) (fun _ => rfl) (fun _ => false) (fun _ => V.int 1) ?_ (fun i x hi hx hf => by cases hf) fun H' e2 h => ?_
    · intro i x hi hx H3 e3 Q' q'
      obtain ⟨z, hz, rfl⟩ := at_ints hx
      have hz2 := hc.2 z (List.mem_of_getElem? hz)
      refine ⟨_, rfl, _, _, _, rfl, .inl ⟨_, rfl, fun H4 e4 => ?_⟩⟩
      rw [decide_eq_true (by omega : (0 : Int) ≤ z ∧ z ≤ 2)]
      exact ⟨true, rfl, q' H4 e4⟩
    · rw [given_nil (fun _ _ => rfl)] at h
      exact ⟨D, _, rfl, .inl (SqL.of h), rfl, k H' (e1.trans e2)⟩
def spEntrySet : Sp := fun vs H Q _ => ∃ (q : Addr) (n : Nat) (ls : List (Addr × Ent)), vs = [.int n, .ref q] ∧ n ≤ 8 ∧ BookAt H q ls ∧ ls.length ≤ 324 ∧ (ls.map (·.2)).Pairwise ltE ∧ (∀ p ∈ ls, 0 ≤ p.2.1 ∧ p.2.1 ≤ ((2 ^ n : Nat) : Int) ∧ OkC n p.2.2) ∧ Ret (.bl true) H Q
theorem ok_is_entry_set (T : Txt K mg) : Has P w K mg base "is_entry_set" ["many", "value"] 3 spEntrySet := by
  have G_is_entry := ok_is_entry (P := P) (w := w) (base := base) T
  refine T.d_is_entry_set.ok sc_is_entry_set (fun vs H Q E h => ?_) (fun f cdv A outer s H vs Q E hr h => ?_)
  · obtain ⟨r, n, ls, rfl, _⟩ := h
    rfl
  · obtain ⟨q, n, ls, rfl, hn, hq, hl, hs, hit, k⟩ := h
    have hu5 := r5 hr
    refine ⟨_, (pss_cons (ps_if (PW.pt (pw_or (pt_not (pt_val (pe_callB call_isi (by rfl) T.b_isinstance (by decide +kernel) (pa_cons (pv 1) (pa_cons (pe_bltn (v := .ty "tuple") (by rfl) T.b_tuple (by decide +kernel) rfl) pa_nil))))) (pw_or1 (pt_cmpR op_gt (pe_callB call_len_seq (by rfl) T.b_len PySem.boot_len (pa_cons (pv 1) pa_nil)) (pe_glob (v := .int 20000) rfl T.c_MOST_ENTRIES.choose_spec ⟨_, rfl⟩) (nomark _))))) (pss_one (ps_ret pe_bl)) pss_nil)
      (pss_cons (ps_if (pt_cmpR op_gt (pe_callB call_len_seq (by rfl) T.b_len PySem.boot_len (pa_cons (pe_lc (own := [("item", 2)]) (g := gName 2) (by rfl) sc_is_entry_set.nd (pi_tup (pv 1)) (blkOk_by (own := [("item", 2)]) (N := n_is_entry_set) (sc := defScope s_is_entry_set) (by decide +kernel)) (fun _ _ _ _ _ => (pg_name (i := 2) sc_is_entry_set.nd rfl (Or.inl rfl))) (fun _ _ _ _ _ => (pts_one (pt_not (pt_val (pe_has G_is_entry (hr.mono (by omega)) (pa_cons (pv 0) (pa_cons (pv 2) pa_nil))))))) (fun _ _ _ _ _ => pe_int)) pa_nil)) pe_int (nomark _)) (pss_one (ps_ret pe_bl)) pss_nil)
      (pss_one (ps_ret (pe_cmpR op_eq (pe_callB call_len_seq (by rfl) T.b_len PySem.boot_len (pa_cons (pe_lc (own := [("near", 3), ("far", 4)]) (g := gTup K 2 (gCons (gName 3) (gCons (gName 4) (gNil)))) (by rfl) sc_is_entry_set.nd (RZ.pi_zipA (by rfl) T.b_zip (pa_cons (pv 1) (pa_cons (pe_slice sl_tupA (pv 1) (po_some pe_int) po_none) pa_nil))) (blkOk_by (own := [("near", 3), ("far", 4)]) (N := n_is_entry_set) (sc := defScope s_is_entry_set) (by decide +kernel)) (fun _ _ _ _ _ => (pg_tup (by rfl) (pgs_cons (pg_name (i := 3) sc_is_entry_set.nd rfl (Or.inl rfl)) (pgs_cons (pg_name (i := 4) sc_is_entry_set.nd rfl (Or.inl rfl)) pgs_nil)))) (fun _ _ _ _ _ => (pts_one (pt_cmpR (op_geE hu5) (pv 3) (pv 4) (nomark _)))) (fun _ _ _ _ _ => pe_int)) pa_nil)) pe_int (nomark _)))))), ?_⟩
    have hlen : (ls.map fun p : Addr × Ent => V.ref p.1).length = ls.length := List.length_map _
    refine ⟨_, rfl, _, _, _, _, true, rfl, .ty _, .base (.tup hq.1), kit_ty (by decide +kernel), true, rfl, iteF ?_⟩
    refine ⟨_, rfl, q, _, rfl, .inr (SqT.of hq.1), _, _, rfl, rfl, _, rfl, ?_⟩
    refine ite2 (fun z => ?_) (fun z => ?_)
    · have := of_decide_eq_true z
      rw [hlen] at this
      omega
    · refine ⟨_, rfl, q, rfl, ⟨_, SqT.of hq.1⟩, fun D hD => ?_⟩
      refine lc_ones (walk_tup (xs := ls.map fun p : Addr × Ent => V.ref p.1)) (fun _ _ _ _ y => y) hD (by rw [hlen]; omega) (fun H' e2 => SqT.of (e2 _ _ hq.1)) (fun _ => rfl) (fun _ => false) (fun _ => V.int 1) ?_ (fun i x hi hx hf => by cases hf) fun H1 e1 h1 => ?_
      · intro i x hi hx H3 e3 Q' q'
        obtain ⟨p, hp, rfl⟩ := at_refs hx
        have hm := List.mem_of_getElem? hp
        obtain ⟨i0, i1, i2⟩ := hit p hm
        exact ⟨_, rfl, _, rfl, p.1, n, p.2, rfl, hn, (hq.2 p hm).ex e3, i0, i1, i2, fun H4 e4 => ⟨true, rfl, q' H4 e4⟩⟩
      · rw [given_nil (fun _ _ => rfl)] at h1
        refine ⟨D, _, rfl, .inl (SqL.of h1), _, _, rfl, rfl, _, rfl, iteF ?_⟩
        have hq1 := hq.ex e1
        refine ⟨_, rfl, _, rfl, _, rfl, ?_⟩
        unfold tNoPart
        dsimp only
        refine sl_tail (K := K) hq1.1 fun r H2 e2 hr => ?_
        have t2 := e1.trans e2
        have hq2 := hq1.ex e2
        rw [← List.map_drop] at hr
        refine ⟨q, r, _, _, rfl, .inr ⟨SqT.of hq2.1, SqT.of hr, fun D2 hD2 => ?_⟩⟩
        refine lc_pairs (walk_zipT (n := ls.length - 1) (xs := ls.map fun p : Addr × Ent => V.ref p.1) (ys := (ls.drop 1).map fun p : Addr × Ent => V.ref p.1) (by rw [hlen, List.length_map, List.length_drop]; omega)) hD2 (by omega) (fun H' e => ⟨SqT.of (e _ _ hq2.1), SqT.of (e _ _ hr)⟩) (fun _ _ => rfl) (fun _ => false) (fun _ => V.int 1) ?_ (fun i x y H2 hi e2 q1 q2 hf => by cases hf) fun H' e3 h3 => ?_
        · intro i x y H5 hi e5 q1 q2 H6 e6 Q' q'
          obtain ⟨p1, hp1, rfl⟩ := at_refs q1
          obtain ⟨p2, hp2, rfl⟩ := at_refs q2
          rw [List.getElem?_drop, Nat.add_comm] at hp2
          have m1 := (hq2.2 p1 (List.mem_of_getElem? hp1)).ex (e5.trans e6)
          have m2 := (hq2.2 p2 (List.mem_of_getElem? hp2)).ex (e5.trans e6)
          have hlt := ltE_next hs hp1 hp2
          refine ⟨_, rfl, _, rfl, p1.1, p2.1, p1.2, p2.2, rfl, rfl, m1, m2, _, rfl, ?_⟩
          rw [decide_eq_true hlt]
          exact q' H6 (exr _)
        · rw [given_nil (fun _ _ => rfl)] at h3
          exact ⟨D2, _, rfl, .inl (SqL.of h3), rfl, k H' (t2.trans e3)⟩
end
end Fa

set_option Elab.async false
set_option linter.all false
set_option maxRecDepth 100000
set_option maxHeartbeats 4000000
namespace Fa
open PySem PySem.Spec PyProof.Rows L2 Evl
/-- a dict by entries: what it says of each -/
structure MemE (R : Ent → V → Prop) (kvs : List (Ent × V)) : Prop where
  nd : (kvs.map (·.1)).Nodup
  ok : ∀ p ∈ kvs, R p.1 p.2
theorem MemE.nil (R : Ent → V → Prop) : MemE R [] := ⟨List.nodup_nil, fun p h => by cases h⟩
theorem MemE.val {R : Ent → V → Prop} {kvs : List (Ent × V)} (m : MemE R kvs) {e : Ent} {v : V} (h : valV kvs e = some v) : R e v := m.ok _ (valV_mem h)
theorem MemE.put {R : Ent → V → Prop} {kvs : List (Ent × V)} (m : MemE R kvs) {e : Ent} {v : V} (h : R e v) : MemE R (putK kvs e v) := by
  cases q : valV kvs e with
  | none =>
    refine ⟨nd_putK _ m.nd q, fun p hp => ?_⟩
    rw [putK_new _ q] at hp
    rcases List.mem_append.mp hp with z | z
    · exact m.ok p z
    · rw [List.mem_singleton.mp z]
      exact h
  | some u =>
    have hany : (kvs.any fun kv => decide (kv.1 = e)) = true := by rw [valV_any, q]; rfl
    unfold putK
    rw [if_pos hany]
    refine ⟨?_, fun p hp => ?_⟩
    · have e2 : (kvs.map fun kv => if kv.1 = e then (kv.1, v) else kv).map (·.1) = kvs.map (·.1) := by
        rw [List.map_map]
        apply List.map_congr_left
        intro y _
        show (if y.1 = e then (y.1, v) else y).1 = y.1
        split <;> rfl
      rw [e2]
      exact m.nd
    · obtain ⟨y, hy, rfl⟩ := List.mem_map.mp hp
      by_cases hk : y.1 = e
      · rw [if_pos hk]
        rw [← hk] at h
        exact h
      · rw [if_neg hk]
        exact m.ok y hy
def OkE (n : Nat) (e : Ent) : Prop := 0 ≤ e.1 ∧ e.1 ≤ 3 ∧ OkC n e.2
theorem okE_len {n : Nat} (hn : n ≤ 4) {es : List Ent} (nd : es.Nodup) (it : ∀ e ∈ es, OkE n e) : es.length ≤ 324 := by
  have h := pig es (allE n) nd fun e he => by
    obtain ⟨h0, h3, hc⟩ := it e he
    have hm := mem_allC hc
    obtain ⟨k, c⟩ := e
    have : k = 0 ∨ k = 1 ∨ k = 2 ∨ k = 3 := by
      dsimp only at *
      omega
    unfold allE
    simp only [List.mem_append, List.mem_map]
    rcases this with q | q | q | q <;> subst q
    · exact .inl ⟨c, hm, rfl⟩
    · exact .inr (.inl ⟨c, hm, rfl⟩)
    · exact .inr (.inr (.inl ⟨c, hm, rfl⟩))
    · exact .inr (.inr (.inr ⟨c, hm, rfl⟩))
  have h3 : 3 ^ n ≤ 3 ^ 4 := Nat.pow_le_pow_right (by decide) hn
  have e : (allE n).length = 4 * 3 ^ n := by
    unfold allE
    simp only [List.length_append, List.length_map, len_allC]
    omega
  omega
def RL (n : Nat) (S : Ent → Prop) (e : Ent) (v : V) : Prop := OkE n e ∧ ∃ b, v = .bl b ∧ (S e → b = true)
def InD (ents : List (Ent × V)) (e : Ent) : Prop := (valV ents e).isSome = true
theorem MemE.len {n : Nat} {S : Ent → Prop} {kvs : List (Ent × V)} (m : MemE (RL n S) kvs) (hn : n ≤ 4) : kvs.length < sizeLine := by
  have := okE_len hn m.nd fun e he => by
    obtain ⟨p, hp, rfl⟩ := List.mem_map.mp he
    exact (m.ok p hp).1
  rw [List.length_map] at this
  rw [sizeLine_eq]
  omega
section
variable {P : Program} {w : World} {K : PySem.W.Frag} {mg : Str → Option Value} {base : Heap}
theorem dn_tup {H : Hp} {F b : Addr} {kvs : List (Ent × V)} {ys : List V} (hF : DictN P w H F kvs) (h : H b = some (.tup ys)) : b ≠ F := by
  obtain ⟨xs, h1, _⟩ := hF
  exact ne_of h h1 (by intro z; cases z)
theorem DictN.but1 {H H' : Hp} {F d : Addr} {kvs ents : List (Ent × V)} (hd : DictN P w H d ents) (hF : DictN P w H F kvs) (bt : But1 F H H') (ne : d ≠ F) : DictN P w H' d ents := by
  obtain ⟨xs, h1, r⟩ := hd
  exact ⟨xs, bt _ _ h1 ne, r.keep fun b ys z => bt _ _ z (dn_tup hF z)⟩
theorem EntA.but1 {H H' : Hp} {F a : Addr} {kvs : List (Ent × V)} {e : Ent} (x : EntA H a e) (hF : DictN P w H F kvs) (bt : But1 F H H') : EntA H' a e := x.keep fun b ys z => bt _ _ z (dn_tup hF z)
theorem PutN.but1 {H H' : Hp} {F : Addr} {kvs : List (Ent × V)} (p : PutN P w H F kvs H') : But1 F H H' := fun c o h ne => by rw [p.2 c ne]; exact h
def spLies (P : Program) (w : World) (m : Nat) : Sp := fun vs H Q _ => ∃ (c d F : Addr) (n : Nat) (cs : List Int) (k : Int) (ents kvs : List (Ent × V)), vs = [.int k, .ref c, .ref d, .ref F] ∧ d ≠ F ∧ n ≤ 4 ∧ OkE n (k, cs) ∧ cnt cs < m ∧ H c = some (.tup (cs.map V.int)) ∧ DictN P w H d ents ∧ DictN P w H F kvs ∧ MemE (RL n (InD ents)) kvs ∧
  ∀ H' kvs' b, But1 F H H' → DictN P w H' F kvs' → MemE (RL n (InD ents)) kvs' → (InD ents (k, cs) → b = true) → Q (.bl b) H'
theorem ok_lies_within (T : Txt K mg) : ∀ m, Has P w K mg base "lies_within" ["asks", "cube", "entries", "known"] (3 + m) (spLies P w m)
  | 0 => T.d_lies_within.never _ fun vs H Q E ⟨_, _, _, _, _, _, _, _, _, _, _, _, h, _⟩ => absurd h (Nat.not_lt_zero _)
  | m + 1 => by
    have G_lies_within := ok_lies_within T m
    have G_free_bits := ok_free_bits (P := P) (w := w) (base := base) T
    have G_halves_of := ok_halves_of (P := P) (w := w) (base := base) T
    refine T.d_lies_within.ok sc_lies_within (fun vs H Q E h => ?_) (fun f cdv A outer s H vs Q E hr h => ?_)
    · obtain ⟨c, d, F, n, cs, k, ents, kvs, rfl, _⟩ := h
      rfl
    · obtain ⟨c, d, F, n, cs, k, ents, kvs, rfl, hne, hn, hok, hm, hcu, hd, hF, hM, kk⟩ := h
      have hu9 := r9 hr
      change Room (3 + m) _ at hr
      refine ⟨_, (pss_cons (ps_if (pt_cmp (pc_nnotin hu9 (pe_tup (pa_cons (pv 0) (pa_cons (pv 1) pa_nil))) (pv 3)) rfl) (pss_cons (ps_set (i := 4) sc_lies_within.nd rfl (Or.inl rfl) (pe_cmp (pc_nin hu9 (pe_tup (pa_cons (pv 0) (pa_cons (pv 1) pa_nil))) (pv 2)) rfl))
      (pss_cons (ps_for PassesOwn.never rfl (pi_list (pe_has G_free_bits (hr.mono (by omega)) (pa_cons (pv 1) pa_nil))) (pg_name (i := 5) sc_lies_within.nd rfl (Or.inl rfl)) (pss_one (ps_if (pt_not (pt_val (pv 4))) (pss_cons (ps_asg (pe_has G_halves_of (hr.mono (by omega)) (pa_cons (pv 1) (pa_cons (pv 5) pa_nil))) (pg_tup (by rfl) (pgs_cons (pg_name (i := 6) sc_lies_within.nd rfl (Or.inl rfl)) (pgs_cons (pg_name (i := 7) sc_lies_within.nd rfl (Or.inl rfl)) pgs_nil))))
      (pss_one (ps_set (i := 4) sc_lies_within.nd rfl (Or.inl rfl) (pe_or (pe_has G_lies_within (hr.mono (by omega)) (pa_cons (pv 0) (pa_cons (pv 6) (pa_cons (pv 2) (pa_cons (pv 3) pa_nil))))) (pe_one (pe_has G_lies_within (hr.mono (by omega)) (pa_cons (pv 0) (pa_cons (pv 7) (pa_cons (pv 2) (pa_cons (pv 3) pa_nil)))))))))) pss_nil)))
      (pss_one (ps_nput hu9 (pv 3) (pe_tup (pa_cons (pv 0) (pa_cons (pv 1) pa_nil))) (pv 4))))) pss_nil)
      (pss_one (ps_ret (pe_nget hu9 (pv 3) (pe_tup (pa_cons (pv 0) (pa_cons (pv 1) pa_nil))))))), ?_⟩
      have hc : OkC n cs := hok.2.2
      have hl : cs.length ≤ 8 := by rw [hc.1]; omega
      -- the end
      have fin : ∀ {σ : L2.St} {H' : Hp} {kvs' : List (Ent × V)}, σ[0]? = some (some (.int k)) → σ[1]? = some (some (.ref c)) → σ[3]? = some (some (.ref F)) → But1 F H H' → DictN P w H' F kvs' → MemE (RL n (InD ents)) kvs' → (∃ v, valV kvs' (k, cs) = some v) →
          tRet (tNGet P w (tVar 3) (tTup (tCons (tVar 0) (tCons (tVar 1) tNil)))) { nx := fun _ H' => Q .non H', rt := Q } σ H' := by
        intro σ H' kvs' h0 h1 h3 bt hF' hM' ⟨v, hv⟩
        refine ⟨_, h3, _, h0, _, h1, (by show 2 ≤ sizeLine; decide), fun q hq => ?_⟩
        have x := exn (o := HO.tup [V.int k, V.ref c]) hq
        refine ⟨F, q, kvs', (k, cs), v, rfl, rfl, hF'.same x, ⟨c, upd_same, x _ _ (bt _ _ hcu (dn_tup hF hcu))⟩, hv, ?_⟩
        obtain ⟨_, b, rfl, hb⟩ := hM'.val hv
        exact kk _ kvs' b (bt.trans (But1.of_ex x)) (hF'.same x) hM' hb
      refine ⟨_, rfl, _, rfl, (by show 2 ≤ sizeLine; decide), fun q hq => ?_⟩
      have x1 := exn (o := HO.tup [V.int k, V.ref c]) hq
      refine ⟨_, rfl, F, q, kvs, (k, cs), rfl, rfl, hF.same x1, ⟨c, upd_same, x1 _ _ hcu⟩, _, rfl, ?_⟩
      generalize upd H q (.tup [V.int k, V.ref c]) = H1 at x1 ⊢
      cases hval : valV kvs (k, cs) with
      | some v => exact iteF (fin rfl rfl rfl (But1.of_ex x1) (hF.same x1) hM ⟨v, hval⟩)
      | none =>
        refine iteT ?_
        refine ⟨_, rfl, _, rfl, (by show 2 ≤ sizeLine; decide), fun q2 hq2 => ?_⟩
        have x2 := x1.trans (exn (o := HO.tup [V.int k, V.ref c]) hq2)
        refine ⟨_, rfl, d, q2, ents, (k, cs), rfl, rfl, hd.same x2, ⟨c, upd_same, x2 _ _ hcu⟩, ?_⟩
        generalize upd H1 q2 (.tup [V.int k, V.ref c]) = H2 at x2 ⊢
        refine ⟨_, rfl, c, cs, rfl, x2 _ _ hcu, hl, fun p H3 e3 hp => ⟨p, rfl, ⟨_, SqL.of hp⟩, ?_⟩⟩
        have x3 := x2.trans e3
        have hF3 := hF.same x3
        have npF : p ≠ F := by
          obtain ⟨xs, h1, _⟩ := hF3
          exact ne_of hp h1 (by intro z; cases z)
        refine for_list (K := K) (a := p) (xs := (free cs).map fun i => V.int (i : Nat)) (fun i σ H' => ∃ (b : Bool) (y5 y6 y7 : Option V) (kvs' : List (Ent × V)), σ = [some (.int k), some (.ref c), some (.ref d), some (.ref F), some (.bl b), y5, y6, y7] ∧ But1 F H3 H' ∧ DictN P w H' F kvs' ∧ MemE (RL n (InD ents)) kvs' ∧ (InD ents (k, cs) → b = true)) ?_ ?_ ?_ ?_
        · exact ⟨_, none, none, none, kvs, rfl, But1.of_ex (exr _), hF3, hM, fun h => h⟩
        · rintro i σ H' _ ⟨_, _, _, _, _, _, b, _⟩
          exact SqL.of (b _ _ hp npF)
        · rintro i x σ H' hx ⟨b, y5, y6, y7, kvs', rfl, bt, hF', hM', hb⟩
          obtain ⟨j, hj, rfl⟩ : ∃ j, (free cs)[i]? = some j ∧ x = V.int (j : Nat) := by
            rw [List.getElem?_map] at hx
            cases q : (free cs)[i]? with
            | none => rw [q] at hx; cases hx
            | some j => rw [q] at hx; exact ⟨j, rfl, (Option.some.inj hx).symm⟩
          have hjm : j ∈ free cs := List.mem_of_getElem? hj
          have hf := mem_free.mp hjm
          have hjl : j < cs.length := (List.getElem?_eq_some_iff.mp hf).1
          have c1 := cnt_set (b := 1) hf (by decide)
          have c0 := cnt_set (b := 0) hf (by decide)
          have hd' : DictN P w H' d ents := (hd.same x3).but1 hF3 bt hne
          have hcu' := bt _ _ (x3 _ _ hcu) (dn_tup hF hcu)
          refine ⟨_, rfl, b, rfl, ?_⟩
          cases b with
          | true => exact iteF ⟨true, _, _, _, kvs', rfl, bt, hF', hM', fun _ => rfl⟩
          | false =>
            refine iteT ?_
            have nS : ¬ InD ents (k, cs) := fun h => by have := hb h; cases this
            refine ⟨_, rfl, _, rfl, c, cs, j, rfl, hcu', hl, hjl, fun p3 x3' y3 H4 e4 hp3 hx3 hy3 => ?_⟩
            refine ⟨p3, _, rfl, SqT.of hp3, rfl, _, _, rfl, _, _, rfl, rfl, ?_⟩
            refine ⟨_, rfl, _, rfl, _, rfl, _, rfl, x3', d, F, n, cs.set j 1, k, ents, kvs', rfl, hne, hn, ⟨hok.1, hok.2.1, hc.set j (.inr rfl)⟩, by omega, hx3, hd'.same e4, hF'.same e4, hM', fun H5 kv5 b5 bt5 hF5 hM5 hb5 => ?_⟩
            have t5 := (bt.trans (But1.of_ex e4)).trans bt5
            refine ⟨b5, rfl, ?_⟩
            cases b5 with
            | true => exact iteT ⟨true, _, _, _, kv5, rfl, t5, hF5, hM5, fun _ => rfl⟩
            | false =>
              refine iteF ?_
              have hF4 := hF'.same e4
              refine ⟨_, rfl, _, rfl, _, rfl, _, rfl, y3, d, F, n, cs.set j 0, k, ents, kv5, rfl, hne, hn, ⟨hok.1, hok.2.1, hc.set j (.inl rfl)⟩, by omega, bt5 _ _ hy3 (dn_tup hF4 hy3), (hd'.same e4).but1 hF4 bt5 hne, hF5, hM5, fun H6 kv6 b6 bt6 hF6 hM6 hb6 => ?_⟩
              exact ⟨b6, _, _, _, kv6, rfl, t5.trans bt6, hF6, hM6, fun h => absurd h nS⟩
        · rintro σ H' ⟨b, y5, y6, y7, kvs', rfl, bt, hF', hM', hb⟩
          refine ⟨_, rfl, _, rfl, _, rfl, _, rfl, (by show 2 ≤ sizeLine; decide), fun q6 hq6 => ?_⟩
          have x6 := exn (o := HO.tup [V.int k, V.ref c]) hq6
          refine ⟨F, q6, kvs', (k, cs), rfl, rfl, hF'.same x6, ⟨c, upd_same, x6 _ _ (bt _ _ (x3 _ _ hcu) (dn_tup hF hcu))⟩, hM'.len hn, fun H7 put7 => ?_⟩
          have t7 : But1 F H H7 := (((But1.of_ex x3).trans bt).trans (But1.of_ex x6)).trans put7.but1
          exact fin rfl rfl rfl t7 put7.1 (hM'.put ⟨hok, b, rfl, hb⟩) ⟨.bl b, by rw [valV_put, if_pos rfl]⟩
def spStands (P : Program) (w : World) : Sp := fun vs H Q _ => ∃ (a r d g F : Addr) (n : Nat) (ns : List Int) (es : List Ent) (e : Ent) (ents kvs : List (Ent × V)) (kk : List (List Key × V)), vs = [.ref a, .ref r, .ref d, .ref g, .ref F] ∧ d ≠ F ∧ n ≤ 4 ∧ OkV n ns ∧ GoodB n ns es ∧ e ∈ es ∧ (∀ x ∈ es, InD ents x) ∧ H a = some (.tup (ns.map V.int)) ∧ EntA H r e ∧
  H g = some (.dT kk) ∧ Memo n (kdV ns) kk ∧ DictN P w H d ents ∧ DictN P w H F kvs ∧ MemE (RL n (InD ents)) kvs ∧
  ∀ H' kk' kvs', But g F H H' → H' g = some (.dT kk') → Memo n (kdV ns) kk' → DictN P w H' F kvs' → MemE (RL n (InD ents)) kvs' → Q (.bl true) H'
theorem ok_stands_so (T : Txt K mg) : Has P w K mg base "stands_so" ["values", "entry", "entries", "kinds", "known"] 14 (spStands P w) := by
  have G_lies_within := ok_lies_within (P := P) (w := w) (base := base) T 5
  have G_kinds_so := ok_kinds_so (P := P) (w := w) (base := base) T 9
  have G_free_bits := ok_free_bits (P := P) (w := w) (base := base) T
  have G_halves_of := ok_halves_of (P := P) (w := w) (base := base) T
  refine T.d_stands_so.ok sc_stands_so (fun vs H Q E h => ?_) (fun f cdv A outer s H vs Q E hr h => ?_)
  · obtain ⟨a, r, d, g, F, n, ns, es, e, ents, kvs, kk, rfl, _⟩ := h
    rfl
  · obtain ⟨a, r, d, g, F, n, ns, es, e, ents, kvs, kk, rfl, hne, hn, hv, hG, he, hes, ha, ⟨cc, hr1, hr2⟩, hg, hm, hd, hF, hM, k⟩ := h
    refine ⟨_, (pss_cons (ps_asg (pv 1) (pg_tup (by rfl) (pgs_cons (pg_name (i := 5) sc_stands_so.nd rfl (Or.inl rfl)) (pgs_cons (pg_name (i := 6) sc_stands_so.nd rfl (Or.inl rfl)) pgs_nil))))
      (pss_cons (ps_if (pt_cmpR op_eq (pv 5) pe_int (nomark _)) (pss_one (ps_ret (pe_cmpR op_eq (pe_has G_kinds_so (hr.mono (by omega)) (pa_cons (pv 0) (pa_cons (pv 6) (pa_cons (pv 3) pa_nil)))) pe_int (nomark _)))) pss_nil)
      (pss_cons (ps_for PassesOwn.never rfl (pi_list (pe_has G_free_bits (hr.mono (by omega)) (pa_cons (pv 6) pa_nil))) (pg_name (i := 7) sc_stands_so.nd rfl (Or.inl rfl)) (pss_cons (ps_asg (pe_has G_halves_of (hr.mono (by omega)) (pa_cons (pv 6) (pa_cons (pv 7) pa_nil))) (pg_tup (by rfl) (pgs_cons (pg_name (i := 8) sc_stands_so.nd rfl (Or.inl rfl)) (pgs_cons (pg_name (i := 9) sc_stands_so.nd rfl (Or.inl rfl)) pgs_nil))))
      (pss_one (ps_if (PW.pt (pw_and (pt_not (pt_val (pe_has G_lies_within (hr.mono (by omega)) (pa_cons (pe_op op_sub (pv 5) pe_int) (pa_cons (pv 8) (pa_cons (pv 2) (pa_cons (pv 4) pa_nil))))))) (pw_and1 (pt_not (pt_val (pe_has G_lies_within (hr.mono (by omega)) (pa_cons (pe_op op_sub (pv 5) pe_int) (pa_cons (pv 9) (pa_cons (pv 2) (pa_cons (pv 4) pa_nil)))))))))) (pss_one (ps_ret pe_bl)) pss_nil))))
      (pss_one (ps_ret (pe_cmpR op_gt (pe_callB call_len_seq (by rfl) T.b_len PySem.boot_len (pa_cons (pe_has G_free_bits (hr.mono (by omega)) (pa_cons (pv 6) pa_nil)) pa_nil)) pe_int (nomark _))))))), ?_⟩
    obtain ⟨i0, hc, iD, iR⟩ := hG.it e he
    have hcn := cnt_le e.2
    have hcl := hc.1
    have hb : bothB ns e.2 = true := D_both (by omega)
    have hDl : D ns e.2 ≤ n := D_len hc
    have hl : e.2.length ≤ 8 := by omega
    have ngF : g ≠ F := by
      obtain ⟨xs, h1, _⟩ := hF
      exact ne_of hg h1 (by intro z; cases z)
    refine ⟨_, rfl, r, _, rfl, SqT.of hr1, rfl, _, _, rfl, _, _, rfl, rfl, ?_⟩
    refine ⟨_, rfl, rfl, _, rfl, ?_⟩
    refine ite2 (fun z => ?_) (fun z => ?_)
    · refine ⟨_, rfl, _, rfl, _, rfl, a, cc, g, n, ns, e.2, kk, rfl, by omega, hv, hc, by omega, ha, hr2, hg, hm, fun H1 kk1 b1 hg1 m1 g1 hk1 => ?_⟩
      refine ⟨rfl, ?_⟩
      rw [kd_three.mpr hb]
      have hF1 : DictN P w H1 F kvs := by
        obtain ⟨xs, h1, rr⟩ := hF
        exact ⟨xs, b1 _ _ h1 (Ne.symm ngF), rr.keep fun b ys z => b1 _ _ z (ne_of z hg (by intro q; cases q))⟩
      exact k H1 kk1 kvs (fun c o h n1 n2 => b1 c o h n1) hg1 m1 hF1 hM
    · have hpos : 0 < e.1 := by
        have : ¬ e.1 = 0 := fun q => z (decide_eq_true (congrArg V.int q))
        omega
      refine ⟨_, rfl, cc, e.2, rfl, hr2, hl, fun p H1 e1 hp => ⟨p, rfl, ⟨_, SqL.of hp⟩, ?_⟩⟩
      have hF1 := hF.same e1
      have npF : p ≠ F := by
        obtain ⟨xs, h1, _⟩ := hF1
        exact ne_of hp h1 (by intro z; cases z)
      refine for_list (K := K) (a := p) (xs := (free e.2).map fun i => V.int (i : Nat)) (fun i σ H' => ∃ (y7 y8 y9 : Option V) (kvs' : List (Ent × V)), σ = [some (.ref a), some (.ref r), some (.ref d), some (.ref g), some (.ref F), some (.int e.1), some (.ref cc), y7, y8, y9] ∧ But1 F H1 H' ∧ DictN P w H' F kvs' ∧ MemE (RL n (InD ents)) kvs') ?_ ?_ ?_ ?_
      · exact ⟨none, none, none, kvs, rfl, But1.of_ex (exr _), hF1, hM⟩
      · rintro i σ H' _ ⟨_, _, _, _, _, b, _⟩
        exact SqL.of (b _ _ hp npF)
      · rintro i x σ H' hx ⟨y7, y8, y9, kvs', rfl, bt, hF', hM'⟩
        obtain ⟨j, hj, rfl⟩ : ∃ j, (free e.2)[i]? = some j ∧ x = V.int (j : Nat) := by
          rw [List.getElem?_map] at hx
          cases q : (free e.2)[i]? with
          | none => rw [q] at hx; cases hx
          | some j => rw [q] at hx; exact ⟨j, rfl, (Option.some.inj hx).symm⟩
        have hjm : j ∈ free e.2 := List.mem_of_getElem? hj
        have hf := mem_free.mp hjm
        have hjl : j < e.2.length := (List.getElem?_eq_some_iff.mp hf).1
        have c1 := cnt_set (b := 1) hf (by decide)
        have c0 := cnt_set (b := 0) hf (by decide)
        have hd' : DictN P w H' d ents := (hd.same e1).but1 hF1 bt hne
        have hcu' := bt _ _ (e1 _ _ hr2) (dn_tup hF hr2)
        refine ⟨_, rfl, _, rfl, cc, e.2, j, rfl, hcu', hl, hjl, fun p3 x3 y3 H4 e4 hp3 hx3 hy3 => ?_⟩
        refine ⟨p3, _, rfl, SqT.of hp3, rfl, _, _, rfl, _, _, rfl, rfl, ?_⟩
        refine ⟨_, rfl, _, _, rfl, rfl, _, rfl, _, rfl, _, rfl, x3, d, F, n, _, _, ents, kvs', rfl, hne, hn, ⟨by dsimp only; omega, by dsimp only; omega, hc.set j (.inr rfl)⟩, by omega, hx3, hd'.same e4, hF'.same e4, hM', fun H5 kv5 b5 bt5 hF5 hM5 hb5 => ?_⟩
        have t5 := (bt.trans (But1.of_ex e4)).trans bt5
        refine ⟨b5, rfl, ?_⟩
        cases b5 with
        | true => exact iteF ⟨_, _, _, kv5, rfl, t5, hF5, hM5⟩
        | false =>
          refine iteT ?_
          have hF4 := hF'.same e4
          refine ⟨_, rfl, _, _, rfl, rfl, _, rfl, _, rfl, _, rfl, y3, d, F, n, _, _, ents, kv5, rfl, hne, hn, ⟨by dsimp only; omega, by dsimp only; omega, hc.set j (.inl rfl)⟩, by omega, bt5 _ _ hy3 (dn_tup hF4 hy3), (hd'.same e4).but1 hF4 bt5 hne, hF5, hM5, fun H6 kv6 b6 bt6 hF6 hM6 hb6 => ?_⟩
          have hb6' : b6 = true := by
            rcases hG.cl e he hpos j hjm with q | q
            · have := hb5 (hes _ q)
              cases this
            · exact hb6 (hes _ q)
          subst hb6'
          exact ⟨true, rfl, iteF ⟨_, _, _, kv6, rfl, t5.trans bt6, hF6, hM6⟩⟩
      · rintro σ H' ⟨y7, y8, y9, kvs', rfl, bt, hF', hM'⟩
        have hcu' := bt _ _ (e1 _ _ hr2) (dn_tup hF hr2)
        refine ⟨_, rfl, cc, e.2, rfl, hcu', hl, fun p2 H2 e2 hp2 => ?_⟩
        refine ⟨p2, _, rfl, .inl (SqL.of hp2), _, _, rfl, rfl, ?_⟩
        have hfl : 0 < (free e.2).length := List.length_pos_iff.mpr (free_ne hc hb)
        show Q (.bl (decide ((0 : Int) < ((((free e.2).map fun i => V.int (i : Nat)).length : Nat) : Int)))) H2
        rw [decide_eq_true (by rw [List.length_map]; omega : (0 : Int) < ((((free e.2).map fun i => V.int (i : Nat)).length : Nat) : Int))]
        have t2 : But1 F H H2 := ((But1.of_ex e1).trans bt).trans (But1.of_ex e2)
        exact k H2 kk kvs' (fun c o h n1 n2 => t2 c o h n2) (t2 _ _ hg ngF) hm (hF'.same e2) hM'
end
end Fa

set_option Elab.async false
set_option linter.all false
set_option maxRecDepth 100000
set_option maxHeartbeats 4000000
namespace Fa
open PySem PySem.Spec PyProof.Rows L2 Evl
theorem putK_len {κ : Type} [DecidableEq κ] (kvs : List (κ × V)) (k : κ) (v : V) : (putK kvs k v).length ≤ kvs.length + 1 := by
  unfold putK
  split
  · rw [List.length_map]; omega
  · rw [List.length_append]; exact Nat.le_refl _
theorem inD_put {kvs : List (Ent × V)} {e c : Ent} {v : V} (h : InD kvs c) : InD (putK kvs e v) c := by
  unfold InD at *
  rw [valV_put]
  split
  · rfl
  · exact h
theorem inD_new (kvs : List (Ent × V)) (e : Ent) (v : V) : InD (putK kvs e v) e := by
  unfold InD
  rw [valV_put, if_pos rfl]
  rfl
theorem take_next {α : Type} {l : List α} {i : Nat} {x : α} (h : l[i]? = some x) : l.take (i + 1) = l.take i ++ [x] := by
  rw [List.take_add_one, h]
  rfl
section
variable {P : Program} {w : World} {K : PySem.W.Frag} {mg : Str → Option Value} {base : Heap}
def spBookSo : Sp := fun vs H Q _ => ∃ (a q : Addr) (n : Nat) (ns : List Int) (ls : List (Addr × Ent)), vs = [.int n, .ref a, .ref q] ∧ n ≤ 4 ∧ OkV n ns ∧ H a = some (.tup (ns.map V.int)) ∧ BookAt H q ls ∧ GoodB n ns (ls.map (·.2)) ∧ Ret (.bl true) H Q
theorem ok_is_book_so (T : Txt K mg) : Has P w K mg base "is_book_so" ["many", "values", "value"] 15 spBookSo := by
  have G_is_entry_set := ok_is_entry_set (P := P) (w := w) (base := base) T
  have G_stands_so := ok_stands_so (P := P) (w := w) (base := base) T
  refine T.d_is_book_so.ok sc_is_book_so (fun vs H Q E h => ?_) (fun f cdv A outer s H vs Q E hr h => ?_)
  · obtain ⟨a, q, n, ns, ls, rfl, _⟩ := h
    rfl
  · obtain ⟨a, q, n, ns, ls, rfl, hn, hv, ha, hq, hG, k⟩ := h
    have hu9 := r9 hr
    refine ⟨_, (pss_cons (ps_if (pt_not (pt_val (pe_has G_is_entry_set (hr.mono (by omega)) (pa_cons (pv 0) (pa_cons (pv 2) pa_nil))))) (pss_one (ps_ret pe_bl)) pss_nil)
      (pss_cons (ps_asg (pe_tup (pa_cons (pe_dcN (own := [("entry", 6)]) rfl hu9 sc_is_book_so.nd (pi_tup (pv 2)) (blkOk_by (own := [("entry", 6)]) (N := n_is_book_so) (sc := defScope s_is_book_so) (by decide +kernel)) (fun _ _ _ _ _ => (pg_name (i := 6) sc_is_book_so.nd rfl (Or.inl rfl))) (fun _ _ _ _ _ => (pv 6)) (fun _ _ _ _ _ => pe_bl)) (pa_cons pe_dnewT (pa_cons pe_nnew pa_nil)))) (pg_tup (by rfl) (pgs_cons (pg_name (i := 3) sc_is_book_so.nd rfl (Or.inr rfl)) (pgs_cons (pg_name (i := 4) sc_is_book_so.nd rfl (Or.inr rfl)) (pgs_cons (pg_name (i := 5) sc_is_book_so.nd rfl (Or.inr rfl)) pgs_nil)))))
      (pss_one (ps_ret (pe_cmpR op_eq (pe_callB call_len_seq (by rfl) T.b_len PySem.boot_len (pa_cons (pe_lc (own := [("entry", 6)]) (g := gName 6) (by rfl) sc_is_book_so.nd (pi_tup (pv 2)) (blkOk_by (own := [("entry", 6)]) (N := n_is_book_so) (sc := defScope s_is_book_so) (by decide +kernel)) (fun _ _ _ _ _ => (pg_name (i := 6) sc_is_book_so.nd rfl (Or.inl rfl))) (fun _ _ _ _ _ => (pts_one (pt_not (pt_val (pe_has G_stands_so (hr.mono (by omega)) (pa_cons (pv 1) (pa_cons (pv 6) (pa_cons (pv 3) (pa_cons (pv 4) (pa_cons (pv 5) pa_nil)))))))))) (fun _ _ _ _ _ => pe_int)) pa_nil)) pe_int (nomark _)))))), ?_⟩
    have hlen : (ls.map fun p : Addr × Ent => V.ref p.1).length = ls.length := List.length_map _
    have hll : ls.length ≤ 324 := by have := hG.len; rw [List.length_map] at this; exact this
    have hit : ∀ p ∈ ls, 0 ≤ p.2.1 ∧ p.2.1 ≤ ((2 ^ n : Nat) : Int) ∧ OkC n p.2.2 := fun p hp => by
      obtain ⟨i0, hc, iD, iR⟩ := hG.it p.2 (List.mem_map.mpr ⟨p, hp, rfl⟩)
      have hDl : D ns p.2.2 ≤ n := D_len hc
      have : n ≤ 2 ^ n := Nat.le_of_lt Nat.lt_two_pow_self
      exact ⟨i0, by omega, hc⟩
    refine ⟨_, rfl, _, rfl, q, n, ls, rfl, by omega, hq, hll, hG.srt, hit, fun H1 e1 => ⟨true, rfl, iteF ?_⟩⟩
    have hq1 := hq.ex e1
    refine ⟨_, rfl, q, rfl, ⟨_, SqT.of hq1.1⟩, fun d Hd hd0 hdd sd => ?_⟩
    have keepD : ∀ {H' : Hp}, Ex H1 H' → ∀ p ∈ ls, EntA H' p.1 p.2 := fun e p hp => (hq1.2 p hp).ex e
    have xd : Ex H1 Hd := fun b o h => by
      rw [sd b (fun z => by rw [z, hd0] at h; cases h)]
      exact h
    refine ⟨fun i H' => ∃ kvs, DictN P w H' d kvs ∧ Ex H1 H' ∧ i ≤ ls.length ∧ kvs.length ≤ i ∧ ∀ p ∈ ls.take i, InD kvs p.2, ls.length, ⟨[], hdd, xd, Nat.zero_le _, Nat.le_refl _, fun p h => by cases h⟩, ?_⟩
    rintro i H2 ⟨kvs, hk, e2, hi, hkl, hin⟩
    refine ⟨fun z => ?_, fun z => ⟨by omega, (walk_tup (K := K) (a := q) (xs := ls.map fun p : Addr × Ent => V.ref p.1)).goes i H2 (by rw [hlen]; omega) (SqT.of (e2 _ _ hq1.1)), fun x H3 y => ?_⟩⟩
    case refine_2 =>
      have hil : i < ls.length := by omega
      obtain ⟨rfl, hx⟩ := (walk_tup (K := K) (a := q) (xs := ls.map fun p : Addr × Ent => V.ref p.1)).yields i H2 x H3 (by rw [hlen]; exact hil) (SqT.of (e2 _ _ hq1.1)) y
      obtain ⟨p, hp, rfl⟩ := at_refs hx
      have hm := List.mem_of_getElem? hp
      refine ⟨rfl, _, rfl, p.1, kvs, p.2, rfl, hk, keepD e2 p hm, by rw [sizeLine_eq]; omega, fun H5 put5 => ?_⟩
      refine ⟨_, put5.1, fun b o h => ?_, by omega, Nat.le_trans (putK_len _ _ _) (by omega), fun p2 hp2 => ?_⟩
      · rw [put5.2 b (fun z => by rw [z, hd0] at h; cases h)]
        exact e2 _ _ h
      · rw [take_next hp] at hp2
        rcases List.mem_append.mp hp2 with h | h
        · exact inD_put (hin p2 h)
        · rw [List.mem_singleton.mp h]
          exact inD_new _ _ _
    case refine_1 =>
      subst z
      refine ⟨by rw [← hlen]; exact (walk_tup (K := K) (a := q) (xs := ls.map fun p : Addr × Ent => V.ref p.1)).stops H2 (SqT.of (e2 _ _ hq1.1)), ?_⟩
      rw [List.take_length] at hin
      have x2 := e1.trans e2
      intro g hg0 F HF hF0 hFF sF
      have xg := exn (o := HO.dT []) hg0
      have hF02 : H2 F = none := by
        cases q : H2 F with
        | none => rfl
        | some o => rw [xg _ _ q] at hF0; cases hF0
      have ngF : g ≠ F := ne_of_none upd_same hF0
      have xF : Ex H2 HF := fun b o h => by
        rw [sF b (fun z => by rw [z, hF02] at h; cases h)]
        exact xg _ _ h
      have hgF : HF g = some (.dT []) := by rw [sF g ngF]; exact upd_same
      have hdF := hk.same xF
      have ndF : d ≠ F := by
        obtain ⟨xs, h1, _⟩ := hk
        exact ne_of_none h1 hF02
      have hgH : H g = none := by
        cases q : H g with
        | none => rfl
        | some o => rw [x2 _ _ q] at hg0; cases hg0
      have hFH : H F = none := by
        cases q : H F with
        | none => rfl
        | some o => rw [x2 _ _ q] at hF02; cases hF02
      have xH := x2.trans xF
      generalize HF = H3 at hFF hgF hdF xH ⊢
      refine ⟨(by show 3 ≤ sizeLine; decide), fun t ht => ?_⟩
      have x4 := exn (o := HO.tup [V.ref d, V.ref g, V.ref F]) ht
      refine ⟨t, _, rfl, SqT.of upd_same, rfl, _, _, rfl, _, _, rfl, _, _, rfl, rfl, ?_⟩
      have hF4 := hFF.same x4
      have hg4 := x4 _ _ hgF
      have hd4 := hdF.same x4
      have xH4 := xH.trans x4
      generalize upd H3 t (.tup [V.ref d, V.ref g, V.ref F]) = H4 at hF4 hg4 hd4 xH4 ⊢
      refine ⟨_, rfl, q, rfl, ⟨_, SqT.of (xH4 _ _ hq.1)⟩, fun L hL => ?_⟩
      have xL := exn (o := HO.lst []) hL
      refine lc_it (walk_tup (xs := ls.map fun p : Addr × Ent => V.ref p.1)) (fun i H' => ∃ kk kvs, Ex H H' ∧ H' L = some (.lst []) ∧ DictN P w H' d kvs ∧ (∀ p ∈ ls, InD kvs p.2) ∧ H' g = some (.dT kk) ∧ Memo n (kdV ns) kk ∧ ∃ kvf, DictN P w H' F kvf ∧ MemE (RL n (InD kvs)) kvf) ?_ ?_ ?_ ?_
      · exact ⟨[], kvs, xH4.trans xL, upd_same, hd4.same xL, hin, xL _ _ hg4, Memo.nil _ _, [], hF4.same xL, MemE.nil _⟩
      · rintro i H' _ ⟨_, _, e, _⟩
        exact SqT.of (e _ _ hq.1)
      · rintro i x H5 H6 hi ⟨kk, kvs, e5, hL5, hd5, hin5, hg5, hm5, kvf, hF5, hM5⟩ ⟨rfl, hx⟩
        obtain ⟨p, hp, rfl⟩ := at_refs hx
        have hm := List.mem_of_getElem? hp
        refine ⟨rfl, ?_⟩
        refine ⟨_, rfl, _, rfl, _, rfl, _, rfl, _, rfl, a, p.1, d, g, F, n, ns, ls.map (·.2), p.2, kvs, kvf, kk, rfl, ndF, hn, hv, hG, List.mem_map.mpr ⟨p, hm, rfl⟩, fun x hx => ?_, e5 _ _ ha, (hq.2 p hm).ex e5, hg5, hm5, hd5, hF5, hM5, fun H7 kk7 kv7 b7 hg7 m7 hF7 hM7 => ⟨true, rfl, iteF ?_⟩⟩
        · obtain ⟨p', hp', rfl⟩ := List.mem_map.mp hx
          exact hin5 p' hp'
        · have nLg : L ≠ g := ne_of hL5 hg5 (by intro z; cases z)
          have nLF : L ≠ F := by
            obtain ⟨xs, h1, _⟩ := hF5
            exact ne_of hL5 h1 (by intro z; cases z)
          refine ⟨kk7, kvs, But.ex_new e5 hgH hFH b7, b7 _ _ hL5 nLg nLF, ?_, hin5, hg7, m7, kv7, hF7, hM7⟩
          obtain ⟨xs, h1, rr⟩ := hd5
          exact ⟨xs, b7 _ _ h1 (ne_of h1 hg5 (by intro z; cases z)) ndF, rr.keep fun b ys z => b7 _ _ z (ne_of z hg5 (by intro z; cases z)) (dn_tup hF5 z)⟩
      · rintro H' ⟨kk, kvs, e5, hL5, _⟩
        exact ⟨L, _, rfl, .inl (SqL.of hL5), rfl, k H' e5⟩
def spCubeBook : Sp := fun vs H Q _ => ∃ (a q : Addr) (n m : Nat) (ns : List Int) (ls : List (Addr × Ent)), vs = [.int n, .ref a, .int m, .ref q] ∧ 1 ≤ n ∧ n ≤ 4 ∧ OkV n ns ∧ H a = some (.tup (ns.map V.int)) ∧ BookAt H q ls ∧ GoodB n ns (ls.map (·.2)) ∧ (m = D ns (root n) ∨ m = D ns (root n) + 1) ∧ Ret (.bl (decide (m = D ns (root n)))) H Q
theorem ok_is_cube_book (T : Txt K mg) : Has P w K mg base "is_cube_book" ["many", "values", "asks", "value"] 16 spCubeBook := by
  have G_check_many := ok_check_many (P := P) (w := w) (base := base) T
  have G_check_values := ok_check_values (P := P) (w := w) (base := base) T
  have G_is_book_so := ok_is_book_so (P := P) (w := w) (base := base) T
  refine T.d_is_cube_book.ok sc_is_cube_book (fun vs H Q E h => ?_) (fun f cdv A outer s H vs Q E hr h => ?_)
  · obtain ⟨a, q, n, m, ns, ls, rfl, _⟩ := h
    rfl
  · obtain ⟨a, q, n, m, ns, ls, rfl, h1, hn, hv, ha, hq, hG, hm, k⟩ := h
    refine ⟨_, (pss_cons (ps_expr (pe_has G_check_values (hr.mono (by omega)) (pa_cons (pe_has G_check_many (hr.mono (by omega)) (pa_cons (pv 0) pa_nil)) (pa_cons (pv 1) pa_nil))))
      (pss_cons (ps_if (PW.pt (pw_or (pt_not (pt_val (pe_callB call_isi (by rfl) T.b_isinstance (by decide +kernel) (pa_cons (pv 2) (pa_cons (pe_bltn (v := .ty "int") (by rfl) T.b_int (by decide +kernel) rfl) pa_nil))))) (pw_or (pt_val (pe_callB call_isi (by rfl) T.b_isinstance (by decide +kernel) (pa_cons (pv 2) (pa_cons (pe_bltn (v := .ty "bool") (by rfl) T.b_bool (by decide +kernel) rfl) pa_nil)))) (pw_or1 (pt_cmpR op_lt (pv 2) pe_int (nomark _)))))) (pss_one ps_never) pss_nil)
      (pss_cons (ps_if (pt_cmpR op_eq (pv 2) pe_int (nomark _)) (pss_one (ps_ret (pe_and (pe_callB call_isi (by rfl) T.b_isinstance (by decide +kernel) (pa_cons (pv 3) (pa_cons (pe_bltn (v := .ty "tuple") (by rfl) T.b_tuple (by decide +kernel) rfl) pa_nil))) (pe_one (pe_cmpR op_eq (pe_callB call_len_seq (by rfl) T.b_len PySem.boot_len (pa_cons (pv 3) pa_nil)) pe_int (nomark _)))))) pss_nil)
      (pss_cons (ps_if (pt_not (pt_val (pe_has G_is_book_so (hr.mono (by omega)) (pa_cons (pv 0) (pa_cons (pv 1) (pa_cons (pv 3) pa_nil)))))) (pss_one (ps_ret pe_bl)) pss_nil)
      (pss_one (ps_ret (pe_cmpR op_gt (pe_callB call_len_seq (by rfl) T.b_len PySem.boot_len (pa_cons (pe_lc (own := [("entry", 4)]) (g := gName 4) (by rfl) sc_is_cube_book.nd (pi_tup (pv 3)) (blkOk_by (own := [("entry", 4)]) (N := n_is_cube_book) (sc := defScope s_is_cube_book) (by decide +kernel)) (fun _ _ _ _ _ => (pg_name (i := 4) sc_is_cube_book.nd rfl (Or.inl rfl))) (fun _ _ _ _ _ => (pts_one (pt_cmpR op_eq (pe_ix (ix_tupK (K := K) rfl) (pv 4) pe_int (fun _ _ => rfl)) (pe_op op_sub (pv 2) pe_int) (nomark _)))) (fun _ _ _ _ _ => pe_int)) pa_nil)) pe_int (nomark _)))))))), ?_⟩
    have hlen : (ls.map fun p : Addr × Ent => V.ref p.1).length = ls.length := List.length_map _
    have hll : ls.length ≤ 324 := by have := hG.len; rw [List.length_map] at this; exact this
    refine ⟨_, rfl, n, rfl, h1, by omega, fun H1 e1 => ?_⟩
    refine ⟨_, rfl, n, a, ns, rfl, h1, by omega, hv, e1 _ _ ha, fun H2 e2 => ?_⟩
    have x2 := e1.trans e2
    refine ⟨_, rfl, _, _, _, _, true, rfl, .ty _, .base (.int _), kit_ty (by decide +kernel), true, rfl, iteF ?_⟩
    refine ⟨_, rfl, _, _, _, _, false, rfl, .ty _, .base (.int _), kit_ty (by decide +kernel), false, rfl, iteF ?_⟩
    refine ⟨_, rfl, _, _, rfl, rfl, _, rfl, ?_⟩
    refine ite2 (fun z => ?_) (fun z => ?_)
    · have := of_decide_eq_true z
      omega
    refine ⟨_, rfl, rfl, _, rfl, ?_⟩
    refine ite2 (fun z => ?_) (fun z => ?_)
    · have m0 : m = 0 := by have := V.int.inj (of_decide_eq_true z); omega
      have d0 : D ns (root n) = 0 := by omega
      have l0 : ls = [] := by
        cases ls with
        | nil => rfl
        | cons p l =>
          obtain ⟨i0, _, _, iR⟩ := hG.it p.2 List.mem_cons_self
          omega
      subst l0
      rw [decide_eq_true (by omega : m = D ns (root n))] at k
      refine ⟨_, rfl, _, _, _, _, true, rfl, .ty _, .base (.tup (x2 _ _ hq.1)), kit_ty (by decide +kernel), true, rfl, iteT ?_⟩
      exact ⟨_, rfl, q, _, rfl, .inr (SqT.of (x2 _ _ hq.1)), rfl, k H2 x2⟩
    · have m0 : m ≠ 0 := fun q => by
        subst q
        exact z rfl
      refine ⟨_, rfl, _, rfl, _, rfl, a, q, n, ns, ls, rfl, hn, hv, x2 _ _ ha, hq.ex x2, hG, fun H3 e3 => ⟨true, rfl, iteF ?_⟩⟩
      have x3 := x2.trans e3
      have hq3 := hq.ex x3
      refine ⟨_, rfl, q, rfl, ⟨_, SqT.of hq3.1⟩, fun L hL => ?_⟩
      refine lc_ones (walk_tup (xs := ls.map fun p : Addr × Ent => V.ref p.1)) (fun _ _ _ _ y => y) hL (by rw [hlen]; omega) (fun H' e2 => SqT.of (e2 _ _ hq3.1)) (fun _ => rfl) (fun i => decide (((ls.getD i (0, (0, []))).2.1) = (m : Int) - 1)) (fun _ => V.int 1) ?_ (fun i x hi hx hf => ev_c) fun H' e2 h => ?_
      · intro i x hi hx H5 e5 Q' q'
        obtain ⟨p, hp, rfl⟩ := at_refs hx
        have hmm := List.mem_of_getElem? hp
        obtain ⟨cc, hr1, hr2⟩ := (hq3.2 p hmm).ex e5
        refine ⟨_, rfl, _, _, _, _, rfl, rfl, SqT.of hr1, rfl, _, rfl, _, _, rfl, rfl, rfl, _, rfl, ?_⟩
        have ep : (ls.getD i (0, (0, []))) = p := by rw [List.getD_eq_getElem?_getD, hp]; rfl
        rw [ep] at q'
        have ed : decide (V.int p.2.1 = V.int ((m : Int) - 1)) = decide (p.2.1 = (m : Int) - 1) := by simp
        rw [ed]
        exact q' H5 (exr _)
      · refine ⟨L, _, rfl, .inl (SqL.of h), _, _, rfl, rfl, ?_⟩
        have x9 := x3.trans e2
        rw [hlen]
        rcases hm with hm | hm
        · rw [decide_eq_true hm] at k
          have hpos : 0 < D ns (root n) := by omega
          obtain ⟨p, hp, ep⟩ := List.mem_map.mp (hG.rt hpos)
          obtain ⟨i, hi, ei⟩ := List.getElem_of_mem hp
          have hgd : (ls.getD i (0, (0, []))) = p := by rw [List.getD_eq_getElem?_getD, List.getElem?_eq_getElem hi, ei]; rfl
          have hne : given ls.length (fun i => decide (((ls.getD i (0, (0, []))).2.1) = (m : Int) - 1)) (fun _ => V.int 1) ≠ [] := given_ne hi (by rw [hgd, ep, hm]; exact decide_eq_true rfl)
          have hpl := List.length_pos_iff.mpr hne
          show Q (.bl (decide ((0 : Int) < ((_ : Nat) : Int)))) H'
          rw [decide_eq_true (by omega)]
          exact k H' x9
        · rw [decide_eq_false (by omega)] at k
          rw [given_nil (fun i hi => ?_)]
          · exact k H' x9
          · refine decide_eq_false fun q => ?_
            have hp : ls.getD i (0, (0, [])) ∈ ls := by
              rw [List.getD_eq_getElem?_getD, List.getElem?_eq_getElem hi]
              exact List.getElem_mem hi
            obtain ⟨i0, _, _, iR⟩ := hG.it _ (List.mem_map.mpr ⟨_, hp, rfl⟩)
            omega
end
end Fa

set_option Elab.async false
set_option linter.all false
set_option maxRecDepth 100000
set_option maxHeartbeats 4000000
namespace Fa
open PySem PySem.Spec PyProof.Rows L2 Evl

/-! ### lists against the empty list -/
def ones (n : Nat) (f : Nat → Bool) : List Int := ((List.range n).filter f).map fun _ => 1
theorem given_ones (n : Nat) (f : Nat → Bool) : given n f (fun _ => V.int 1) = (ones n f).map V.int := by
  unfold given ones
  rw [List.map_map]
  rfl
theorem ones_nil {n : Nat} {f : Nat → Bool} : ones n f = [] ↔ ∀ i, i < n → f i = false := by
  unfold ones
  rw [List.map_eq_nil_iff, List.filter_eq_nil_iff]
  constructor
  · intro h i hi
    have := h i (List.mem_range.mpr hi)
    cases q : f i with
    | false => rfl
    | true => exact absurd q this
  · intro h i hi q
    rw [h i (List.mem_range.mp hi)] at q
    cases q
theorem eqv_nilL (zs : List Int) : PyData.eqv (.list (zs.map .int)) (.list []) = decide (zs = []) := by
  cases zs with
  | nil => rfl
  | cons z zs => exact (decide_eq_false (by intro q; cases q)).symm
theorem nil_shaped : SeqAt.shaped (.list []) = true := PySem.W.shaped_ints []
theorem eq_nil {K : PySem.W.Frag} {H : Hp} {Q : VK} {L M : Addr} (zs : List Int) (hL : SqL K H L (zs.map V.int)) (hM : H M = some (.lst [])) (k : Q (.bl (decide (zs = []))) H) : rEqD K (.ref L) (.ref M) H Q :=
  ⟨.list (zs.map .int), .list [], .lst hL (ints_dp zs), .lst (SqL.of hM) .nil, PySem.W.shaped_ints zs, nil_shaped, by rw [eqv_nilL]; exact k⟩
theorem ne_nil {K : PySem.W.Frag} {H : Hp} {Q : VK} {L M : Addr} (zs : List Int) (hL : SqL K H L (zs.map V.int)) (hM : H M = some (.lst [])) (k : Q (.bl (!decide (zs = []))) H) : rNeD K (.ref L) (.ref M) H Q :=
  ⟨.list (zs.map .int), .list [], .lst hL (ints_dp zs), .lst (SqL.of hM) .nil, PySem.W.shaped_ints zs, nil_shaped, by rw [eqv_nilL]; exact k⟩
theorem fits_all : ∀ (cs : List Int) (r : Nat), fitsB cs r = true ↔ ∀ i, i < cs.length → cs.getD i 0 = 2 ∨ cs.getD i 0 = ((bitN r i : Nat) : Int)
  | [], r => ⟨fun _ i h => absurd h (Nat.not_lt_zero _), fun _ => rfl⟩
  | x :: cs, r => by
    simp only [fitsB, Bool.and_eq_true, Bool.or_eq_true, beq_iff_eq]
    rw [fits_all cs (r / 2)]
    have eb : ∀ i, bitN (r / 2) i = bitN r (i + 1) := fun i => by
      unfold bitN
      rw [Nat.div_div_eq_div_mul, Nat.pow_succ, Nat.mul_comm]
    constructor
    · rintro ⟨h, k⟩ i hi
      cases i with
      | zero => simpa [bitN] using h
      | succ i =>
        rw [List.getD_cons_succ, ← eb]
        exact k i (Nat.lt_of_succ_lt_succ hi)
    · intro h
      refine ⟨by simpa [bitN] using h 0 (Nat.succ_pos _), fun i hi => ?_⟩
      have := h (i + 1) (Nat.succ_lt_succ hi)
      rw [List.getD_cons_succ, ← eb] at this
      exact this
theorem met_two (val : Nat → Int) (h : ∀ i, val i = 0 ∨ val i = 1) : ∀ i, firstMet val i = [] ∨ firstMet val i = [0] ∨ firstMet val i = [1] ∨ firstMet val i = [0, 1] ∨ firstMet val i = [1, 0]
  | 0 => .inl rfl
  | i + 1 => by
    rw [firstMet_succ]
    rcases met_two val h i with e | e | e | e | e <;> rcases h i with q | q <;> rw [e, q] <;> decide
theorem met_len (val : Nat → Int) (h : ∀ i, val i = 0 ∨ val i = 1) (n : Nat) : ((firstMet val n).length = 2) ↔ ((∃ i, i < n ∧ val i = 0) ∧ ∃ i, i < n ∧ val i = 1) := by
  have a0 : (firstMet val n).any (· == 0) = true ↔ ∃ i, i < n ∧ val i = 0 := by
    rw [firstMet_any, List.any_eq_true]
    constructor
    · rintro ⟨x, hx, he⟩
      obtain ⟨i, hi, rfl⟩ := List.mem_map.mp hx
      exact ⟨i, List.mem_range.mp hi, by simpa using he⟩
    · rintro ⟨i, hi, e⟩
      exact ⟨val i, List.mem_map.mpr ⟨i, List.mem_range.mpr hi, rfl⟩, by simpa using e⟩
  have a1 : (firstMet val n).any (· == 1) = true ↔ ∃ i, i < n ∧ val i = 1 := by
    rw [firstMet_any, List.any_eq_true]
    constructor
    · rintro ⟨x, hx, he⟩
      obtain ⟨i, hi, rfl⟩ := List.mem_map.mp hx
      exact ⟨i, List.mem_range.mp hi, by simpa using he⟩
    · rintro ⟨i, hi, e⟩
      exact ⟨val i, List.mem_map.mpr ⟨i, List.mem_range.mpr hi, rfl⟩, by simpa using e⟩
  rw [← a0, ← a1]
  rcases met_two val h n with e | e | e | e | e <;> rw [e] <;> decide
theorem pow8 {n : Nat} (h : n ≤ 8) : 2 ^ n ≤ 256 := Nat.pow_le_pow_right (n := 2) (by decide) h
theorem rng0 {i : Nat} {x : V} (h : x = V.int (0 + (i : Int))) : x = V.int (i : Nat) := by rw [h, Int.zero_add]
section
variable {P : Program} {w : World} {K : PySem.W.Frag} {mg : Str → Option Value} {base : Heap}
def spMixed : Sp := fun vs H Q _ => ∃ c k : Int, vs = [.int c, .int k] ∧ 0 ≤ k ∧ k < 1000000 ∧ ∀ r H', 0 ≤ r → r < 2147483648 → Ex H H' → Q (.int r) H'
theorem ok_law_mixed (T : Txt K mg) : Has P w K mg base "_law_mixed" ["_law_cell", "_law_k"] 1 spMixed := by
  refine T.d_law_mixed.ok sc_law_mixed (fun vs H Q E h => ?_) (fun f cdv A outer s H vs Q E hr h => ?_)
  · obtain ⟨c, k, rfl, _⟩ := h
    rfl
  · obtain ⟨c, kk, rfl, h0, h1, k⟩ := h
    refine ⟨_, (pss_cons (ps_set (i := 0) sc_law_mixed.nd rfl (Or.inl rfl) (pe_op op_mod (pe_callTy call_int1 (by rfl) T.b_int (by decide +kernel) (pa_cons (pv 0) pa_nil)) pe_int))
      (pss_one (ps_ret (pe_op op_mod (pe_op op_mul (pe_op op_mod (pe_op op_add (pe_op op_add (pe_op op_mul (pv 0) (pe_op op_add pe_int (pe_op op_mul (pe_op op_mul pe_int (pv 1)) (pv 1)))) (pe_op op_mul pe_int (pv 1))) pe_int) pe_int) pe_int) pe_int)))), ?_⟩
    refine ⟨_, rfl, .inl ⟨_, rfl, _, _, rfl, rfl, (by show (0 : Int) < 2147483647; decide), ?_⟩⟩
    have m1 := Int.emod_nonneg c (b := 2147483647) (by decide)
    have m2 := Int.emod_lt_of_pos c (b := 2147483647) (by decide)
    generalize c % 2147483647 = d at m1 m2 ⊢
    refine ⟨_, rfl, _, rfl, _, _, rfl, rfl, .inl ⟨by decide, by decide⟩, _, rfl, _, _, rfl, rfl, .inr ⟨by omega, by omega⟩, _, _, rfl, rfl, _, _, rfl, rfl, .inl ⟨by omega, by omega⟩, _, rfl, _, _, rfl, rfl, .inl ⟨by decide, by decide⟩, _, _, rfl, rfl, _, _, rfl, rfl, _, _, rfl, rfl, (by show (0 : Int) < 2147483647; decide), ?_⟩
    refine ⟨_, _, rfl, rfl, .inr ⟨by decide, by decide⟩, _, _, rfl, rfl, (by show (0 : Int) < 2147483629; decide), ?_⟩
    refine k _ H (Int.emod_nonneg _ (by decide)) ?_ (exr H)
    exact Int.lt_trans (Int.emod_lt_of_pos _ (by decide)) (by decide)
def spPower : Sp := fun vs H Q _ => ∃ n : Nat, vs = [.int n] ∧ n ≤ 8 ∧ Ret (.int ((2 ^ n : Nat) : Int)) H Q
theorem ok_law_power (T : Txt K mg) : Has P w K mg base "_law_power" ["_law_count"] 1 spPower := by
  refine T.d_law_power.ok sc_law_power (fun vs H Q E h => ?_) (fun f cdv A outer s H vs Q E hr h => ?_)
  · obtain ⟨n, rfl, _⟩ := h
    rfl
  · obtain ⟨n, rfl, hn, k⟩ := h
    refine ⟨_, (pss_cons (ps_set (i := 1) sc_law_power.nd rfl (Or.inl rfl) pe_int)
      (pss_cons (ps_for PassesOwn.never rfl (pi_range1 (by rfl) T.b_range (pa_cons (pv 0) pa_nil)) (pg_name (i := 2) sc_law_power.nd rfl (Or.inl rfl)) (pss_one (ps_set (i := 1) sc_law_power.nd rfl (Or.inl rfl) (pe_op op_add (pv 1) (pv 1)))))
      (pss_one (ps_ret (pv 1))))), ?_⟩
    refine ⟨_, rfl, (n : Int), rfl, by omega, by omega, ?_⟩
    refine for_range (lo := 0) (n := ((n : Nat) : Int).toNat) (fun i σ H' => ∃ y, σ = [some (.int n), some (.int ((2 ^ i : Nat) : Int)), y] ∧ Ex H H') ⟨none, rfl, exr H⟩ ?_ ?_
    · rintro i σ H' hi ⟨y, rfl, e⟩
      refine ⟨_, rfl, _, rfl, _, _, rfl, rfl, some (.int (0 + (i : Int))), ?_, e⟩
      have e2 : (((2 ^ i : Nat) : Int) + ((2 ^ i : Nat) : Int)) = ((2 ^ (i + 1) : Nat) : Int) := by rw [Nat.pow_succ]; omega
      rw [← e2]
      rfl
    · rintro σ H' ⟨y, rfl, e⟩
      exact ⟨_, rfl, k H' e⟩
def spBits : Sp := fun vs H Q _ => ∃ r n : Nat, vs = [.int r, .int n] ∧ n ≤ 8 ∧ RetL ((List.range n).map fun i => V.int (bitN r i : Nat)) H Q
theorem ok_law_bits_of (T : Txt K mg) : Has P w K mg base "_law_bits_of" ["_law_line", "_law_count"] 1 spBits := by
  refine T.d_law_bits_of.ok sc_law_bits_of (fun vs H Q E h => ?_) (fun f cdv A outer s H vs Q E hr h => ?_)
  · obtain ⟨r, n, rfl, _⟩ := h
    rfl
  · obtain ⟨r, n, rfl, hn, k⟩ := h
    refine ⟨_, (pss_cons (ps_set (i := 2) sc_law_bits_of.nd rfl (Or.inl rfl) (pe_lst pa_nil))
      (pss_cons (ps_for PassesOwn.never rfl (pi_range1 (by rfl) T.b_range (pa_cons (pv 1) pa_nil)) (pg_name (i := 3) sc_law_bits_of.nd rfl (Or.inl rfl)) (pss_cons (ps_expr (pe_bm PySem.F.plainAttrs_list PySem.F.slot_list_append PySem.F.type_list_append mt_append (pv 2) (pa_cons (pe_op op_mod (pv 0) pe_int) pa_nil)))
      (pss_one (ps_set (i := 0) sc_law_bits_of.nd rfl (Or.inl rfl) (pe_op op_fdiv (pv 0) pe_int)))))
      (pss_one (ps_ret (pv 2))))), ?_⟩
    refine ⟨(by show 0 ≤ sizeLine; decide), fun L hL => ⟨_, rfl, (n : Int), rfl, by omega, by omega, ?_⟩⟩
    refine for_range (lo := 0) (n := ((n : Nat) : Int).toNat) (fun i σ H' => ∃ y, σ = [some (.int ((r / 2 ^ i : Nat) : Int)), some (.int n), some (.ref L), y] ∧ Ex H H' ∧ H' L = some (.lst ((List.range i).map fun j => V.int (bitN r j : Nat)))) ⟨none, ?_, exn hL, upd_same⟩ ?_ ?_
    · rw [Nat.pow_zero, Nat.div_one]
      rfl
    · rintro i σ H' hi ⟨y, rfl, e, hl⟩
      have hi' : i < n := hi
      refine ⟨_, rfl, .inl ⟨rfl, _, SqL.of hl⟩, _, rfl, _, _, rfl, rfl, (by show (0 : Int) < 2; decide), L, _, _, rfl, rfl, hl, (by rw [List.length_map, List.length_range, sizeLine_eq]; omega), ?_⟩
      refine ⟨_, rfl, _, _, rfl, rfl, ⟨by decide, by decide⟩, some (.int (0 + (i : Int))), ?_, ex_upd e hL, ?_⟩
      · have e2 : ((r / 2 ^ i : Nat) : Int) / 2 = ((r / 2 ^ (i + 1) : Nat) : Int) := by
          rw [Nat.pow_succ, ← Nat.div_div_eq_div_mul]
          omega
        rw [← e2]
        rfl
      · have e3 : ((r / 2 ^ i : Nat) : Int) % 2 = ((bitN r i : Nat) : Int) := by
          unfold bitN
          omega
        rw [upd_same, List.range_succ, List.map_append]
        show some (HO.lst (_ ++ [V.int (((r / 2 ^ i : Nat) : Int) % 2)])) = _
        rw [e3]
        rfl
    · rintro σ H' ⟨y, rfl, e, hl⟩
      exact ⟨_, rfl, k L H' e hl⟩
def spFits : Sp := fun vs H Q _ => ∃ (c : Addr) (cs : List Int) (r : Nat), vs = [.ref c, .int r] ∧ H c = some (.tup (cs.map V.int)) ∧ cs.length ≤ 8 ∧ Ret (.bl (fitsB cs r)) H Q
theorem ok_law_fits (T : Txt K mg) : Has P w K mg base "_law_fits" ["_law_cube", "_law_line"] 2 spFits := by
  have G_law_bits_of := ok_law_bits_of (P := P) (w := w) (base := base) T
  refine T.d_law_fits.ok sc_law_fits (fun vs H Q E h => ?_) (fun f cdv A outer s H vs Q E hr h => ?_)
  · obtain ⟨c, cs, r, rfl, _⟩ := h
    rfl
  · obtain ⟨c, cs, r, rfl, hc, hl, k⟩ := h
    have hu64 := r64 hr
    refine ⟨_, (pss_one (ps_ret (pe_cmpR (op_eqD hu64) (pe_lc (own := [("_law_told", 2), ("_law_bit", 3)]) (g := gTup K 2 (gCons (gName 2) (gCons (gName 3) (gNil)))) (by rfl) sc_law_fits.nd (pi_zipM T.b_zip (pa_cons (pv 0) (pa_cons (pe_has G_law_bits_of (hr.mono (by omega)) (pa_cons (pv 1) (pa_cons (pe_callB call_len_seq (by rfl) T.b_len PySem.boot_len (pa_cons (pv 0) pa_nil)) pa_nil))) pa_nil))) (blkOk_by (own := [("_law_told", 2), ("_law_bit", 3)]) (N := n_law_fits) (sc := defScope s_law_fits) (by decide +kernel)) (fun _ _ _ _ _ => (pg_tup (by rfl) (pgs_cons (pg_name (i := 2) sc_law_fits.nd rfl (Or.inl rfl)) (pgs_cons (pg_name (i := 3) sc_law_fits.nd rfl (Or.inl rfl)) pgs_nil)))) (fun _ _ _ _ _ => (pts_one (PW.pt (pw_and (pt_cmpR op_ne (pv 2) pe_int (nomark _)) (pw_and1 (pt_cmpR op_ne (pv 2) (pv 3) (nomark _))))))) (fun _ _ _ _ _ => pe_int)) (pe_lst pa_nil) (nomark _)))), ?_⟩
    have hlen : (cs.map V.int).length = cs.length := List.length_map _
    refine ⟨_, rfl, _, rfl, _, rfl, c, _, rfl, .inr (SqT.of hc), ?_⟩
    rw [hlen]
    refine ⟨r, cs.length, rfl, hl, fun p H1 e1 hp => ?_⟩
    refine ⟨c, p, _, _, rfl, SqT.of (e1 _ _ hc), SqL.of hp, fun D hD => ?_⟩
    refine lc_pairs (walk_zipM (by rw [hlen, List.length_map, List.length_range])) hD (by rw [hlen]; omega) (fun H' e => ⟨SqT.of (e _ _ (e1 _ _ hc)), SqL.of (e _ _ hp)⟩) (fun _ _ => rfl) (fun i => !decide (cs.getD i 0 = 2) && !decide (cs.getD i 0 = ((bitN r i : Nat) : Int))) (fun _ => V.int 1) ?_ (fun _ _ _ _ _ _ _ _ _ => ev_c) fun H' e2 h => ?_
    · intro i x y H2 hi e2 q1 q2 H3 e3 Q' q'
      obtain ⟨z, hz, rfl⟩ := at_ints q1
      rw [hlen] at hi
      have hy : y = V.int (bitN r i : Nat) := by
        rw [List.getElem?_map, List.getElem?_range hi] at q2
        exact (Option.some.inj q2).symm
      subst hy
      rw [get_ints hz] at q'
      refine ⟨_, rfl, rfl, _, rfl, ?_⟩
      by_cases z2 : z = 2
      · subst z2
        exact iteF (q' H3 (exr _))
      · have n2 : ¬ V.int z = V.int 2 := fun q => z2 (V.int.inj q)
        rw [decide_eq_false z2] at q'
        rw [decide_eq_false n2]
        refine iteT ⟨_, rfl, _, rfl, rfl, _, rfl, ?_⟩
        have ed : decide (V.int z = V.int (bitN r i : Nat)) = decide (z = ((bitN r i : Nat) : Int)) := by simp
        rw [ed]
        exact q' H3 (exr _)
    · rw [hlen, given_ones] at h
      refine ⟨(by show 0 ≤ sizeLine; decide), fun M hM => ?_⟩
      have xM := exn (o := HO.lst []) hM
      refine eq_nil (ones cs.length _) (SqL.of (xM _ _ h)) upd_same ?_
      have ef : decide (ones cs.length (fun i => !decide (cs.getD i 0 = 2) && !decide (cs.getD i 0 = ((bitN r i : Nat) : Int))) = []) = fitsB cs r := by
        cases q : fitsB cs r with
        | true =>
          refine decide_eq_true (ones_nil.mpr fun i hi => ?_)
          rcases (fits_all cs r).mp q i hi with z | z
          · rw [decide_eq_true z]; rfl
          · rw [decide_eq_true z]; simp
        | false =>
          refine decide_eq_false fun z => ?_
          have : fitsB cs r = true := (fits_all cs r).mpr fun i hi => by
            have := ones_nil.mp z i hi
            by_cases z2 : cs.getD i 0 = 2
            · exact .inl z2
            · rw [decide_eq_false z2] at this
              exact .inr (by simpa using this)
          rw [this] at q
          cases q
      rw [ef]
      exact k _ ((e1.trans e2).trans xM)
def linesOf (cs : List Int) : List Nat := (List.range (2 ^ cs.length)).filter fun r => fitsB cs r
def spLines : Sp := fun vs H Q _ => ∃ (c : Addr) (cs : List Int), vs = [.ref c] ∧ H c = some (.tup (cs.map V.int)) ∧ cs.length ≤ 8 ∧ RetL ((linesOf cs).map fun r => V.int (r : Nat)) H Q
theorem ok_law_lines_in (T : Txt K mg) : Has P w K mg base "_law_lines_in" ["_law_cube"] 3 spLines := by
  have G_law_power := ok_law_power (P := P) (w := w) (base := base) T
  have G_law_fits := ok_law_fits (P := P) (w := w) (base := base) T
  refine T.d_law_lines_in.ok sc_law_lines_in (fun vs H Q E h => ?_) (fun f cdv A outer s H vs Q E hr h => ?_)
  · obtain ⟨c, cs, rfl, _⟩ := h
    rfl
  · obtain ⟨c, cs, rfl, hc, hl, k⟩ := h
    refine ⟨_, (pss_one (ps_ret (pe_lc (own := [("_law_line", 1)]) (g := gName 1) (by rfl) sc_law_lines_in.nd (pi_range1 (by rfl) T.b_range (pa_cons (pe_has G_law_power (hr.mono (by omega)) (pa_cons (pe_callB call_len_seq (by rfl) T.b_len PySem.boot_len (pa_cons (pv 0) pa_nil)) pa_nil)) pa_nil)) (blkOk_by (own := [("_law_line", 1)]) (N := n_law_lines_in) (sc := defScope s_law_lines_in) (by decide +kernel)) (fun _ _ _ _ _ => (pg_name (i := 1) sc_law_lines_in.nd rfl (Or.inl rfl))) (fun _ _ _ _ _ => (pts_one (pt_val (pe_has G_law_fits (hr.mono (by omega)) (pa_cons (pv 0) (pa_cons (pv 1) pa_nil)))))) (fun _ _ _ _ _ => (pv 1))))), ?_⟩
    have hlen : (cs.map V.int).length = cs.length := List.length_map _
    have hp8 := pow8 hl
    refine ⟨_, rfl, c, _, rfl, .inr (SqT.of hc), ?_⟩
    rw [hlen]
    refine ⟨cs.length, rfl, hl, fun H1 e1 => ⟨((2 ^ cs.length : Nat) : Int), rfl, Int.le_trans (by decide) (Int.natCast_nonneg _), Int.lt_of_le_of_lt (Int.ofNat_le.mpr hp8) (by decide), fun D hD => ?_⟩⟩
    refine lc_ones (walk_range (lo := 0) (n := ((2 ^ cs.length : Nat) : Int).toNat)) (fun _ _ _ _ y => y) hD (by show 2 ^ cs.length ≤ 40000; omega) (fun _ _ => trivial) (fun _ => rfl) (fun r => fitsB cs r) (fun r => V.int (r : Nat)) ?_ ?_ fun H' e2 h => ?_
    · intro i x hi hx H3 e3 Q' q'
      cases rng0 hx
      exact ⟨_, rfl, _, rfl, c, cs, i, rfl, e3 _ _ (e1 _ _ hc), hl, fun H4 e4 => ⟨_, rfl, q' H4 e4⟩⟩
    · intro i x hi hx _
      cases rng0 hx
      exact ev_var rfl
    · exact k D H' (e1.trans e2) h
def spBoth : Sp := fun vs H Q _ => ∃ (a c : Addr) (n : Nat) (ns cs : List Int), vs = [.ref a, .ref c] ∧ n ≤ 8 ∧ OkV n ns ∧ OkC n cs ∧ H a = some (.tup (ns.map V.int)) ∧ H c = some (.tup (cs.map V.int)) ∧ Ret (.bl (bothB ns cs)) H Q
theorem ok_law_is_both (T : Txt K mg) : Has P w K mg base "_law_is_both" ["_law_worths_here", "_law_cube"] 4 spBoth := by
  have G_law_lines_in := ok_law_lines_in (P := P) (w := w) (base := base) T
  refine T.d_law_is_both.ok sc_law_is_both (fun vs H Q E h => ?_) (fun f cdv A outer s H vs Q E hr h => ?_)
  · obtain ⟨a, c, n, ns, cs, rfl, _⟩ := h
    rfl
  · obtain ⟨a, c, n, ns, cs, rfl, hn, hv, hc, ha, hcu, k⟩ := h
    refine ⟨_, (pss_one (ps_ret (pe_cmpR op_eq (pe_lenSet T.b_len T.b_set (pe_lc (own := [("_law_line", 2)]) (g := gName 2) (by rfl) sc_law_is_both.nd (pi_list (pe_has G_law_lines_in (hr.mono (by omega)) (pa_cons (pv 1) pa_nil))) (blkOk_by (own := [("_law_line", 2)]) (N := n_law_is_both) (sc := defScope s_law_is_both) (by decide +kernel)) (fun _ _ _ _ _ => (pg_name (i := 2) sc_law_is_both.nd rfl (Or.inl rfl))) (fun _ _ _ _ _ => pts_nil) (fun _ _ _ _ _ => (pe_ix (ix_tupK (K := K) rfl) (pv 0) (pv 2) (fun _ _ => rfl))))) pe_int (nomark _)))), ?_⟩
    have hl : cs.length ≤ 8 := by rw [hc.1]; exact hn
    have hp8 := pow8 hn
    refine ⟨_, rfl, c, cs, rfl, hcu, hl, fun p H1 e1 hp => ⟨p, rfl, ⟨_, SqL.of hp⟩, fun D hD => ?_⟩⟩
    have hll : (linesOf cs).length ≤ 2 ^ cs.length := by
      unfold linesOf
      have := List.length_filter_le (fun r => fitsB cs r) (List.range (2 ^ cs.length))
      rw [List.length_range] at this
      exact this
    have hlen : ((linesOf cs).map fun r => V.int (r : Nat)).length = (linesOf cs).length := List.length_map _
    have hlt : ∀ r ∈ linesOf cs, r < ns.length := fun r hr => by
      have := List.mem_range.mp (List.mem_filter.mp hr).1
      rw [hv.1, ← hc.1]
      exact this
    refine lc_ones (walk_list (xs := (linesOf cs).map fun r => V.int (r : Nat))) (fun _ _ _ _ y => y) hD (by rw [hlen, ← hc.1] at *; omega) (fun H' e => SqL.of (e _ _ hp)) (fun _ => rfl) (fun _ => true) (fun i => V.int (ns.getD ((linesOf cs).getD i 0) 0)) ?_ ?_ fun H' e2 h => ?_
    · exact fun i x hi hx H3 e3 Q' q' => q' H3 (exr _)
    · intro i x hi hx _
      rw [List.getElem?_map] at hx
      cases q : (linesOf cs)[i]? with
      | none => rw [q] at hx; cases hx
      | some r =>
        rw [q] at hx
        cases Option.some.inj hx
        have er : (linesOf cs).getD i 0 = r := by rw [List.getD_eq_getElem?_getD, q]; rfl
        rw [er]
        have hr := hlt r (List.mem_of_getElem? q)
        have hat : ns[r]? = some (ns.getD r 0) := by
          rw [List.getD_eq_getElem?_getD, List.getElem?_eq_getElem hr]
          rfl
        exact ev_op (ev_var rfl) (ev_var rfl) (rv_ixT (SqT.of (e1 _ _ ha)) (atI_nat (ints_at hat)))
    · have el : given ((linesOf cs).map fun r => V.int (r : Nat)).length (fun _ => true) (fun i => V.int (ns.getD ((linesOf cs).getD i 0) 0)) = ((List.range (linesOf cs).length).map fun i => ns.getD ((linesOf cs).getD i 0) 0).map V.int := by
        unfold given
        rw [hlen, List.filter_eq_self.mpr (fun _ _ => rfl), List.map_map]
        rfl
      rw [el] at h
      have hvl : ((List.range (linesOf cs).length).map fun i => ns.getD ((linesOf cs).getD i 0) 0).length = (linesOf cs).length := by rw [List.length_map, List.length_range]
      have hcn := hc.1
      refine ⟨D, _, rfl, SqL.of h, by rw [hvl]; rw [hcn] at hll; omega, rfl, ?_⟩
      have eb : decide (V.int (((firstMet (fun i => ((List.range (linesOf cs).length).map fun i => ns.getD ((linesOf cs).getD i 0) 0).getD i 0) ((List.range (linesOf cs).length).map fun i => ns.getD ((linesOf cs).getD i 0) 0).length).length : Nat) : Int) = V.int 2) = bothB ns cs := by
        generalize hvs : (List.range (linesOf cs).length).map (fun i => ns.getD ((linesOf cs).getD i 0) 0) = vals
        have hval : ∀ i, i < (linesOf cs).length → vals.getD i 0 = ns.getD ((linesOf cs).getD i 0) 0 := fun i hi => by
          rw [← hvs, List.getD_eq_getElem?_getD, List.getElem?_map, List.getElem?_range hi]
          rfl
        have hvl' : vals.length = (linesOf cs).length := by rw [← hvs]; exact hvl
        have h01 : ∀ i, vals.getD i 0 = 0 ∨ vals.getD i 0 = 1 := fun i => by
          by_cases hi : i < (linesOf cs).length
          · rw [hval i hi]
            have hm : (linesOf cs).getD i 0 ∈ linesOf cs := by
              rw [List.getD_eq_getElem?_getD, List.getElem?_eq_getElem hi]
              exact List.getElem_mem hi
            have hr := hlt _ hm
            have hat : ns[(linesOf cs).getD i 0]? = some (ns.getD ((linesOf cs).getD i 0) 0) := by
              rw [List.getD_eq_getElem?_getD (l := ns), List.getElem?_eq_getElem hr]
              rfl
            exact hv.2 _ (List.mem_of_getElem? hat)
          · left
            rw [List.getD_eq_getElem?_getD, List.getElem?_eq_none (by omega)]
            rfl
        have hex : ∀ b : Int, (∃ i, i < vals.length ∧ vals.getD i 0 = b) ↔ hasV ns cs b = true := fun b => by
          rw [hasV_iff]
          constructor
          · rintro ⟨i, hi, e⟩
            rw [hvl'] at hi
            rw [hval i hi] at e
            have hm : (linesOf cs).getD i 0 ∈ linesOf cs := by
              rw [List.getD_eq_getElem?_getD, List.getElem?_eq_getElem hi]
              exact List.getElem_mem hi
            have := List.mem_filter.mp hm
            exact ⟨_, List.mem_range.mp this.1, this.2, e⟩
          · rintro ⟨r, hr, hf, e⟩
            have hm : r ∈ linesOf cs := List.mem_filter.mpr ⟨List.mem_range.mpr hr, hf⟩
            obtain ⟨i, hi, ei⟩ := List.getElem_of_mem hm
            refine ⟨i, by rw [hvl']; exact hi, ?_⟩
            rw [hval i hi, List.getD_eq_getElem?_getD (l := linesOf cs), List.getElem?_eq_getElem hi, ei]
            exact e
        have key := met_len (fun i => vals.getD i 0) h01 vals.length
        rw [hex 0, hex 1] at key
        have e3 : (hasV ns cs 0 = true ∧ hasV ns cs 1 = true) ↔ bothB ns cs = true := by
          unfold bothB
          rw [Bool.and_eq_true]
        rw [e3] at key
        cases q : bothB ns cs with
        | true =>
          have := key.mpr q
          exact decide_eq_true (by rw [this]; rfl)
        | false =>
          refine decide_eq_false fun z => ?_
          have z1 := V.int.inj z
          have : bothB ns cs = true := key.mp (by omega)
          rw [q] at this
          cases this
      have k' := k H' (e1.trans e2)
      rw [← eb] at k'
      exact k'
end
end Fa

set_option Elab.async false
set_option linter.all false
set_option maxRecDepth 100000
set_option maxHeartbeats 4000000
namespace Fa
open PySem PySem.Spec PyProof.Rows L2 Evl
theorem But1.upd_new {d L : Addr} {G H H' : Hp} {o : HO} (b1 : But1 d G H) (hL : H L = none) (b : But1 d G H') : But1 d G (L2.upd H' L o) := fun c u h k => by
  rw [upd_ne (fun z => by have := b1 _ _ h k; rw [z, hL] at this; cases this)]
  exact b _ _ h k
section
variable {P : Program} {w : World} {K : PySem.W.Frag} {mg : Str → Option Value} {base : Heap}
def spAsksFor (m : Nat) : Sp := fun vs H Q _ => ∃ (a c d : Addr) (n : Nat) (ns cs : List Int) (kvs : List (List Key × V)), vs = [.ref a, .ref c, .ref d] ∧ n ≤ 8 ∧ OkV n ns ∧ OkC n cs ∧ cnt cs < m ∧ H a = some (.tup (ns.map V.int)) ∧ H c = some (.tup (cs.map V.int)) ∧ H d = some (.dT kvs) ∧ Memo n (dV ns) kvs ∧
  ∀ H' kvs', But1 d H H' → H' d = some (.dT kvs') → Memo n (dV ns) kvs' → Q (.int (D ns cs : Nat)) H'
theorem ok_law_asks_for (T : Txt K mg) : ∀ m, Has P w K mg base "_law_asks_for" ["_law_worths_here", "_law_cube", "_law_known"] (5 + m) (spAsksFor m)
  | 0 => T.d_law_asks_for.never _ fun vs H Q E ⟨_, _, _, _, _, _, _, _, _, _, _, h, _⟩ => absurd h (Nat.not_lt_zero _)
  | m + 1 => by
    have G_law_asks_for := ok_law_asks_for T m
    have G_law_is_both := ok_law_is_both (P := P) (w := w) (base := base) T
    have G_law_half := ok_law_half (P := P) (w := w) (base := base) T
    refine T.d_law_asks_for.ok sc_law_asks_for (fun vs H Q E h => ?_) (fun f cdv A outer s H vs Q E hr h => ?_)
    · obtain ⟨a, c, d, n, ns, cs, kvs, rfl, _⟩ := h
      rfl
    · obtain ⟨a, c, d, n, ns, cs, kvs, rfl, hn, hv, hc, hm, ha, hcu, hd, hM, k⟩ := h
      have hu := hu_of hr
      change Room (5 + m) _ at hr
      refine ⟨_, (pss_cons (ps_if (pt_cmp (pc_din hu (pv 1) (pv 2)) rfl) (pss_one (ps_ret (pe_dget hu (pv 2) (pv 1) (fun _ _ => rfl)))) pss_nil)
      (pss_cons (ps_set (i := 3) sc_law_asks_for.nd rfl (Or.inl rfl) (pe_ifExp (pt_not (pt_val (pe_has G_law_is_both (hr.mono (by omega)) (pa_cons (pv 0) (pa_cons (pv 1) pa_nil))))) pe_int pe_non))
      (pss_cons (ps_for PassesOwn.never rfl (pi_list (pe_ifExp (pt_cmp (pc_isN (pv 3)) rfl) (pe_lc (own := [("_law_spot", 6), ("_law_told", 7)]) (g := gTup K 2 (gCons (gName 6) (gCons (gName 7) (gNil)))) (by rfl) sc_law_asks_for.nd (pi_enT T.b_enumerate (pa_cons (pv 1) pa_nil)) (blkOk_by (own := [("_law_spot", 6), ("_law_told", 7)]) (N := n_law_asks_for) (sc := defScope s_law_asks_for) (by decide +kernel)) (fun _ _ _ _ _ => (pg_tup (by rfl) (pgs_cons (pg_name (i := 6) sc_law_asks_for.nd rfl (Or.inl rfl)) (pgs_cons (pg_name (i := 7) sc_law_asks_for.nd rfl (Or.inl rfl)) pgs_nil)))) (fun _ _ _ _ _ => (pts_one (pt_cmpR op_eq (pv 7) pe_int (nomark _)))) (fun _ _ _ _ _ => (pv 6))) (pe_lst pa_nil))) (pg_name (i := 4) sc_law_asks_for.nd rfl (Or.inr rfl)) (pss_cons (ps_setLc (i := 5) (by rfl) sc_law_asks_for.nd rfl rfl (sw_true rfl rfl rfl (by decide +kernel)) (own := [("_law_bit", 8)]) (g := gName 8) (pi_tup (pe_tup (pa_cons pe_int (pa_cons pe_int pa_nil)))) (blkOk_by (own := [("_law_bit", 8)]) (N := n_law_asks_for) (sc := defScope s_law_asks_for) (by decide +kernel)) (fun _ _ _ _ _ => (pg_name (i := 8) sc_law_asks_for.nd rfl (Or.inl rfl))) (fun _ _ _ _ _ => pts_nil) (fun _ _ _ _ _ => (pe_has G_law_asks_for (hr.mono (by omega)) (pa_cons (pv 0) (pa_cons (pe_has G_law_half (hr.mono (by omega)) (pa_cons (pv 1) (pa_cons (pv 4) (pa_cons (pv 8) pa_nil)))) (pa_cons (pv 2) pa_nil))))))
      (pss_one (ps_set (i := 3) sc_law_asks_for.nd rfl (Or.inl rfl) (pe_ifExp (pt_cmp (pc_isN (pv 3)) rfl) (pe_op op_add (pe_callB (cr_max rfl) (by rfl) T.b_max (by decide +kernel) (pa_cons (pv 5) pa_nil)) pe_int) (pe_callB (call_min2 rfl) (by rfl) T.b_min (by decide +kernel) (pa_cons (pv 3) (pa_cons (pe_op op_add (pe_callB (cr_max rfl) (by rfl) T.b_max (by decide +kernel) (pa_cons (pv 5) pa_nil)) pe_int) pa_nil))))))))
      (pss_cons (ps_dput hu (pv 2) (pv 1) (pv 3) rfl)
      (pss_one (ps_ret (pv 3))))))), ?_⟩
      have hl : cs.length ≤ 8 := by rw [hc.1]; exact hn
      have ncd : c ≠ d := ne_of hcu hd (by intro z; cases z)
      have nad : a ≠ d := ne_of ha hd (by intro z; cases z)
      have key : ∀ {H' : Hp}, H' c = some (.tup (cs.map V.int)) → H' c = some (.tup ((ck cs).map kV)) := fun h => by rw [ck_kV]; exact h
      have behind : ∀ {σ : L2.St} {H' : Hp} {kvs' : List (List Key × V)}, σ[1]? = some (some (.ref c)) → σ[2]? = some (some (.ref d)) → σ[3]? = some (some (dV ns cs)) → But1 d H H' → H' d = some (.dT kvs') → Memo n (dV ns) kvs' →
          sDPut (tVar 2) (tVar 1) (tVar 3) { nx := tRet (tVar 3) { nx := fun _ H' => Q .non H', rt := Q }, rt := Q } σ H' := by
        intro σ H' kvs' h1 h2 h3 bt hd' hM'
        exact ⟨_, h3, _, h2, _, h1, d, _, rfl, DPut.t hd' (key (bt c _ hcu ncd)) (hM'.len hn), _, h3, k _ _ bt.upd upd_same (hM'.put hc)⟩
      refine ⟨_, rfl, _, rfl, d, _, rfl, DGet.t (k := ck cs) hd (key hcu), _, rfl, ?_⟩
      cases ee : valV kvs (ck cs) with
      | some v =>
        refine iteT ⟨_, rfl, _, rfl, d, v, rfl, ?_, ?_⟩
        · have g := DGet.t (k := ck cs) hd (key hcu)
          rw [ee] at g
          exact g
        · rw [hM.val ee]
          exact k H kvs (But1.of_ex (exr H)) hd hM
      | none =>
        refine iteF ?_
        refine ⟨_, rfl, _, rfl, a, c, n, ns, cs, rfl, hn, hv, hc, ha, hcu, fun H1 e1 => ⟨_, rfl, ?_⟩⟩
        have t1 := But1.of_ex (d := d) e1
        cases hb : bothB ns cs with
        | false =>
          refine iteT ⟨_, rfl, _, rfl, iteF ⟨(by show 0 ≤ sizeLine; decide), fun p hp => ⟨p, rfl, ⟨_, SqL.of upd_same⟩, ?_⟩⟩⟩
          refine for_list (K := K) (a := p) (xs := []) (fun i σ H' => σ = [some (.ref a), some (.ref c), some (.ref d), some (.int 0), none, none, none, none, none] ∧ H' = upd H1 p (.lst [])) ⟨rfl, rfl⟩ ?_ ?_ ?_
          · rintro i σ H' _ ⟨_, rfl⟩
            exact SqL.of upd_same
          · intro i x σ H' hx
            cases hx
          · rintro σ H' ⟨rfl, rfl⟩
            have xp := exn (o := HO.lst []) hp
            refine behind rfl rfl ?_ (t1.trans (But1.of_ex xp)) (xp _ _ (e1 _ _ hd)) hM
            show some (some (V.int 0)) = some (some (V.int (D ns cs : Nat)))
            rw [D_zero hb]
            rfl
        | true =>
          refine iteF ⟨_, rfl, _, rfl, iteT ?_⟩
          refine ⟨_, rfl, c, _, rfl, SqT.of (e1 _ _ hcu), fun D0 hD0 => ?_⟩
          refine lc_pairs (walk_enT (xs := cs.map V.int)) hD0 (by rw [List.length_map]; omega) (fun H' e => SqT.of (e _ _ (e1 _ _ hcu))) (fun _ _ => rfl) (fun i => cs.getD i 0 == 2) (fun i => V.int (i : Nat)) ?_ ?_ fun H2 e2 hp => ?_
          · intro i x y H2 hi e2 q1 q2
            obtain ⟨z, hz, rfl⟩ := at_ints q2
            refine et_is (et_test (ev_op (ev_var rfl) ev_c (rv_eq rfl))) ?_
            rw [get_ints hz]
            by_cases h : z = 2
            · subst h; rfl
            · have h2 : V.int z ≠ V.int 2 := fun q => h (V.int.inj q)
              rw [decide_eq_false h2]
              exact (beq_eq_false_iff_ne.mpr h).symm
          · intro i x y H2 hi e2 q1 q2 _
            cases q1
            exact ev_var rfl
          · rw [List.length_map, given_free] at hp
            refine ⟨D0, rfl, ⟨_, SqL.of hp⟩, ?_⟩
            have t2 := t1.trans (But1.of_ex e2)
            have hd2 : H2 d = some (.dT kvs) := e2 _ _ (e1 _ _ hd)
            have npd : D0 ≠ d := ne_of hp hd2 (by intro z; cases z)
            refine for_list (K := K) (a := D0) (xs := (free cs).map fun i => V.int (i : Nat)) (fun i σ H' => ∃ (y4 y5 y6 y7 y8 : Option V) (kvs' : List (List Key × V)), σ = [some (.ref a), some (.ref c), some (.ref d), some (bestV (best (((free cs).take i).map (here ns cs)))), y4, y5, y6, y7, y8] ∧ But1 d H2 H' ∧ H' d = some (.dT kvs') ∧ Memo n (dV ns) kvs') ?_ ?_ ?_ ?_
            · exact ⟨_, _, _, _, _, kvs, rfl, But1.of_ex (exr _), hd2, hM⟩
            · rintro i σ H' _ ⟨_, _, _, _, _, _, _, b, _⟩
              exact SqL.of (b _ _ hp npd)
            · rintro i x σ H' hx ⟨y4, y5, y6, y7, y8, kvs', rfl, bt, hd', hM'⟩
              obtain ⟨j, hj, rfl⟩ : ∃ j, (free cs)[i]? = some j ∧ x = V.int (j : Nat) := by
                rw [List.getElem?_map] at hx
                cases q : (free cs)[i]? with
                | none => rw [q] at hx; cases hx
                | some j => rw [q] at hx; exact ⟨j, rfl, (Option.some.inj hx).symm⟩
              have hjm : j ∈ free cs := List.mem_of_getElem? hj
              have hf := mem_free.mp hjm
              have hjl : j < cs.length := (List.getElem?_eq_some_iff.mp hf).1
              have etk := take_next hj
              refine ⟨(by show 2 ≤ sizeLine; decide), fun q hq => ⟨q, rfl, ⟨_, SqT.of upd_same⟩, fun L hL => ?_⟩⟩
              have btq := bt.trans (But1.of_ex (d := d) (exn (o := HO.tup [V.int 0, V.int 1]) hq))
              have hdq : upd H' q (.tup [V.int 0, V.int 1]) d = some (.dT kvs') := exn hq _ _ hd'
              have hqq : upd H' q (.tup [V.int 0, V.int 1]) q = some (.tup ([0, 1].map V.int)) := upd_same
              generalize upd H' q (.tup [V.int 0, V.int 1]) = H3 at btq hdq hL hqq ⊢
              have nqd : q ≠ d := ne_of hqq hdq (by intro z; cases z)
              have nLd : L ≠ d := fun z => by rw [z, hdq] at hL; cases hL
              have nLq : L ≠ q := fun z => by rw [z, hqq] at hL; cases hL
              refine lc_it (walk_tup (xs := [0, 1].map V.int)) (fun i H' => ∃ kv', But1 d H3 H' ∧ H' d = some (.dT kv') ∧ Memo n (dV ns) kv' ∧ H' L = some (.lst ((([((D ns (cs.set j 0) : Nat) : Int), ((D ns (cs.set j 1) : Nat) : Int)]).take i).map V.int))) ?_ ?_ ?_ ?_
              · exact ⟨kvs', But1.of_ex (exn hL), exn hL _ _ hdq, hM', upd_same⟩
              · rintro i2 H4 _ ⟨_, b4, _⟩
                exact SqT.of (b4 _ _ hqq nqd)
              · rintro i2 x H4 H5 hi2 ⟨kv4, b4, hd4, m4, hL4⟩ ⟨rfl, hx2⟩
                have t4 := t2.trans (btq.trans b4)
                have hcu4 := t4 _ _ hcu ncd
                have ha4 := t4 _ _ ha nad
                have : i2 = 0 ∨ i2 = 1 := by have : i2 < 2 := hi2; omega
                rcases this with z | z <;> subst z <;> cases Option.some.inj hx2
                · have c0 := cnt_set (b := 0) hf (by decide)
                  refine ⟨rfl, ?_⟩
                  unfold tYes
                  refine iteT ?_
                  refine ⟨_, rfl, _, rfl, _, rfl, _, rfl, c, cs, j, 0, rfl, hcu4, hl, hjl, fun x H6 e6 hx6 => ⟨_, rfl, a, x, d, n, ns, _, kv4, rfl, hn, hv, hc.set j (.inl rfl), by omega, e6 _ _ ha4, hx6, e6 _ _ hd4, m4, fun H7 kv7 b7 hd7 m7 => ?_⟩⟩
                  refine ⟨_, b7 _ _ (e6 _ _ hL4) nLd, (by show 0 < sizeLine; decide), kv7, But1.upd_new (But1.of_ex (exr H3)) hL ((b4.trans (But1.of_ex e6)).trans b7), by rw [upd_ne (Ne.symm nLd)]; exact hd7, m7, upd_same⟩
                · have c1 := cnt_set (b := 1) hf (by decide)
                  refine ⟨rfl, ?_⟩
                  unfold tYes
                  refine iteT ?_
                  refine ⟨_, rfl, _, rfl, _, rfl, _, rfl, c, cs, j, 1, rfl, hcu4, hl, hjl, fun x H6 e6 hx6 => ⟨_, rfl, a, x, d, n, ns, _, kv4, rfl, hn, hv, hc.set j (.inr rfl), by omega, e6 _ _ ha4, hx6, e6 _ _ hd4, m4, fun H7 kv7 b7 hd7 m7 => ?_⟩⟩
                  refine ⟨_, b7 _ _ (e6 _ _ hL4) nLd, (by show 1 < sizeLine; decide), kv7, But1.upd_new (But1.of_ex (exr H3)) hL ((b4.trans (But1.of_ex e6)).trans b7), by rw [upd_ne (Ne.symm nLd)]; exact hd7, m7, upd_same⟩
              · rintro H4 ⟨kv4, b4, hd4, m4, hL4⟩
                have hL4' : H4 L = some (.lst (([((D ns (cs.set j 0) : Nat) : Int), ((D ns (cs.set j 1) : Nat) : Int)]).map V.int)) := hL4
                have mx : ∀ mm : Int, mm ∈ [((D ns (cs.set j 0) : Nat) : Int), ((D ns (cs.set j 1) : Nat) : Int)] → (∀ y, y ∈ [((D ns (cs.set j 0) : Nat) : Int), ((D ns (cs.set j 1) : Nat) : Int)] → y ≤ mm) → mm + 1 = ((here ns cs j : Nat) : Int) := by
                  intro mm hmm hle
                  have h0 := hle _ List.mem_cons_self
                  have h1 := hle _ (List.mem_cons_of_mem _ List.mem_cons_self)
                  have : mm = ((D ns (cs.set j 0) : Nat) : Int) ∨ mm = ((D ns (cs.set j 1) : Nat) : Int) := by
                    rcases List.mem_cons.mp hmm with z | z
                    · exact .inl z
                    · exact .inr (List.mem_singleton.mp z)
                  unfold here
                  omega
                have ebest : best (((free cs).take (i + 1)).map (here ns cs)) = some (match best (((free cs).take i).map (here ns cs)) with | none => here ns cs j | some y => if here ns cs j < y then here ns cs j else y) := by
                  rw [etk, List.map_append, List.map_cons, List.map_nil, best_snoc]
                  all_goals (cases best (((free cs).take i).map (here ns cs)) <;> rfl)
                have done : ∀ (y5 y6 y7 y8 : Option V) (z : Int), V.int z = bestV (best (((free cs).take (i + 1)).map (here ns cs))) →
                    ∃ (y4 y5' y6' y7' y8' : Option V) (kvs' : List (List Key × V)), [some (V.ref a), some (.ref c), some (.ref d), some (V.int z), some (.int (j : Nat)), y5, y6, y7, y8] = [some (.ref a), some (.ref c), some (.ref d), some (bestV (best (((free cs).take (i + 1)).map (here ns cs)))), y4, y5', y6', y7', y8'] ∧ But1 d H2 H4 ∧ H4 d = some (.dT kvs') ∧ Memo n (dV ns) kvs' := by
                  intro y5 y6 y7 y8 z hz
                  rw [hz]
                  exact ⟨_, _, _, _, _, kv4, rfl, btq.trans b4, hd4, m4⟩
                refine ⟨_, rfl, _, rfl, ?_⟩
                cases hbst : best (((free cs).take i).map (here ns cs)) with
                | none =>
                  rw [hbst] at ebest
                  refine iteT ⟨_, rfl, L, _, rfl, SqL.of hL4', Nat.succ_pos _, fun mm hmm hle => ⟨_, _, rfl, rfl, ?_⟩⟩
                  refine done _ _ _ _ (mm + 1) ?_
                  rw [ebest, mx mm hmm hle]
                  rfl
                | some y =>
                  rw [hbst] at ebest
                  refine iteF ⟨_, rfl, _, rfl, L, _, rfl, SqL.of hL4', Nat.succ_pos _, fun mm hmm hle => ⟨_, _, rfl, rfl, _, _, rfl, ?_⟩⟩
                  refine done _ _ _ _ (if mm + 1 < ((y : Nat) : Int) then mm + 1 else ((y : Nat) : Int)) ?_
                  rw [ebest, mx mm hmm hle]
                  by_cases hlt : here ns cs j < y
                  · rw [if_pos (by omega)]
                    simp only [if_pos hlt]
                    rfl
                  · rw [if_neg (by omega)]
                    simp only [if_neg hlt]
                    rfl
            · rintro σ H' ⟨y4, y5, y6, y7, y8, kvs', rfl, bt, hd', hM'⟩
              rw [List.length_map, List.take_length, D_best hc hb]
              exact behind rfl rfl rfl (t2.trans bt) hd' hM'
def spHigh (m : Nat) : Sp := fun vs H Q _ => ∃ (v : V) (t : Tree), vs = [v] ∧ TreeAt H t v ∧ ht t < m ∧ Ret (.int (ht t : Nat)) H Q
theorem ok_law_high (T : Txt K mg) : ∀ m, Has P w K mg base "_law_high" ["_law_wood_here"] (1 + m) (spHigh m)
  | 0 => T.d_law_high.never _ fun vs H Q E ⟨_, _, _, _, h, _⟩ => absurd h (Nat.not_lt_zero _)
  | m + 1 => by
    have G_law_high := ok_law_high T m
    refine T.d_law_high.ok sc_law_high (fun vs H Q E h => ?_) (fun f cdv A outer s H vs Q E hr h => ?_)
    · obtain ⟨v, t, rfl, _⟩ := h
      rfl
    · obtain ⟨v, t, rfl, ht, hm, k⟩ := h
      change Room (1 + m) _ at hr
      refine ⟨_, (pss_one (ps_ret (pe_ifExp (pt_val (pe_callB call_isi (by rfl) T.b_isinstance (by decide +kernel) (pa_cons (pv 0) (pa_cons (pe_bltn (v := .ty "tuple") (by rfl) T.b_tuple (by decide +kernel) rfl) pa_nil)))) (pe_op op_add pe_int (pe_callB (call_max2 rfl) (by rfl) T.b_max (by decide +kernel) (pa_cons (pe_has G_law_high (hr.mono (by omega)) (pa_cons (pe_ix ix_tup (pv 0) pe_int (fun _ _ => rfl)) pa_nil)) (pa_cons (pe_has G_law_high (hr.mono (by omega)) (pa_cons (pe_ix ix_tup (pv 0) pe_int (fun _ _ => rfl)) pa_nil)) pa_nil)))) pe_int))), ?_⟩
      cases t with
      | leaf b =>
        cases (ht : v = .int b)
        exact ⟨_, rfl, _, _, _, _, false, rfl, .ty _, .base (.int _), kit_ty (by decide +kernel), false, rfl, iteF (k H (exr H))⟩
      | ask i t u =>
        obtain ⟨a, x, y, rfl, ha, hx, hy⟩ := ht
        have eH : Fa.ht (.ask i t u) = 1 + max (Fa.ht t) (Fa.ht u) := rfl
        rw [eH] at hm k
        refine ⟨_, rfl, _, _, _, _, true, rfl, .ty _, .base (.tup ha), kit_ty (by decide +kernel), true, rfl, iteT ?_⟩
        refine ⟨_, rfl, _, _, _, _, rfl, rfl, SqT.of ha, rfl, x, t, rfl, hx, by omega, fun H1 e1 => ?_⟩
        refine ⟨_, rfl, _, _, _, _, rfl, rfl, SqT.of (e1 _ _ ha), rfl, y, u, rfl, hy.ex e1, by omega, fun H2 e2 => ?_⟩
        refine ⟨_, _, rfl, _, _, rfl, rfl, ?_⟩
        have k' := k H2 (e1.trans e2)
        have e : ((1 + max (Fa.ht t) (Fa.ht u) : Nat) : Int) = 1 + (if ((Fa.ht u : Nat) : Int) > ((Fa.ht t : Nat) : Int) then ((Fa.ht u : Nat) : Int) else ((Fa.ht t : Nat) : Int)) := by
          rw [max_nat]
          omega
        rw [e] at k'
        exact k'
end
end Fa

set_option Elab.async false
set_option linter.all false
set_option maxRecDepth 100000
set_option maxHeartbeats 4000000
namespace Fa
open PySem PySem.Spec PyProof.Rows L2 Evl
theorem bit_at {r i : Nat} (h : i < 8) : atI ((List.range 8).map fun i => V.int (bitN r i : Nat)) (i : Int) = some (V.int (bitN r i : Nat)) := by
  refine atI_nat ?_
  rw [List.getElem?_map, List.getElem?_range h]
  rfl
theorem eq_nil0 {K : PySem.W.Frag} {H : Hp} {Q : VK} {L M : Addr} (hL : H L = some (.lst [])) (hM : H M = some (.lst [])) (k : Q (.bl true) H) : rEqD K (.ref L) (.ref M) H Q := eq_nil [] (SqL.of hL) hM k
theorem ne_nil0 {K : PySem.W.Frag} {H : Hp} {Q : VK} {L M : Addr} (hL : H L = some (.lst [])) (hM : H M = some (.lst [])) (k : Q (.bl false) H) : rNeD K (.ref L) (.ref M) H Q := ne_nil [] (SqL.of hL) hM k
def lessF (cs ds : List Int) (i : Nat) : Bool := !decide (ds.getD i 0 = 2) && !decide (cs.getD i 0 = ds.getD i 0)
def lessB (cs ds : List Int) : Bool := decide (ones cs.length (lessF cs ds) = [])
theorem lessB_refl (cs : List Int) : lessB cs cs = true := by
  refine decide_eq_true (ones_nil.mpr fun i hi => ?_)
  unfold lessF
  simp
section
variable {P : Program} {w : World} {K : PySem.W.Frag} {mg : Str → Option Value} {base : Heap}
def spWalk : Sp := fun vs H Q _ => ∃ (v : V) (r n : Nat) (t : Tree), vs = [v, .int r] ∧ TreeAt H t v ∧ OkT n t ∧ n ≤ 8 ∧ ht t ≤ 50 ∧ ∀ p l H', Ex H H' → H' p = some (.tup [.ref l, .int (ev t r)]) → Q (.ref p) H'
theorem ok_law_walk (T : Txt K mg) : Has P w K mg base "_law_walk" ["_law_wood_here", "_law_line"] 2 spWalk := by
  have G_law_bits_of := ok_law_bits_of (P := P) (w := w) (base := base) T
  refine T.d_law_walk.ok sc_law_walk (fun vs H Q E h => ?_) (fun f cdv A outer s H vs Q E hr h => ?_)
  · obtain ⟨v, r, n, t, rfl, _⟩ := h
    rfl
  · obtain ⟨v, r, n, t, rfl, ht, ho, hn, hh, k⟩ := h
    refine ⟨_, (pss_cons (ps_par (i := 2) (j := 3) (by rfl) sc_law_walk.nd rfl rfl (by decide) rfl rfl (pa_cons (pe_lst pa_nil) (pa_cons (pe_has G_law_bits_of (hr.mono (by omega)) (pa_cons (pv 1) (pa_cons pe_int pa_nil))) pa_nil)) (by rfl))
      (pss_cons (ps_for PassesOwn.never rfl (pi_range1 (by rfl) T.b_range (pa_cons pe_int pa_nil)) (pg_name (i := 4) sc_law_walk.nd rfl (Or.inl rfl)) (pss_cons (ps_if (pt_not (pt_val (pe_callB call_isi (by rfl) T.b_isinstance (by decide +kernel) (pa_cons (pv 0) (pa_cons (pe_bltn (v := .ty "tuple") (by rfl) T.b_tuple (by decide +kernel) rfl) pa_nil))))) (pss_one (ps_ret (pe_tup (pa_cons (pe_callTy call_tuple_of (by rfl) T.b_tuple (by decide +kernel) (pa_cons (pv 2) pa_nil)) (pa_cons (pv 0) pa_nil))))) pss_nil)
      (pss_cons (ps_expr (pe_bm PySem.F.plainAttrs_list PySem.F.slot_list_append PySem.F.type_list_append mt_append (pv 2) (pa_cons (pe_tup (pa_cons (pe_ix ix_tup (pv 0) pe_int (fun _ _ => rfl)) (pa_cons (pe_ix ix_list (pv 3) (pe_ix ix_tup (pv 0) pe_int (fun _ _ => rfl)) (fun _ _ => rfl)) pa_nil))) pa_nil)))
      (pss_one (ps_set (i := 0) sc_law_walk.nd rfl (Or.inl rfl) (pe_ifExp (pt_cmpR op_eq (pe_ix ix_list (pv 3) (pe_ix ix_tup (pv 0) pe_int (fun _ _ => rfl)) (fun _ _ => rfl)) pe_int (nomark _)) (pe_ix ix_tup (pv 0) pe_int (fun _ _ => rfl)) (pe_ix ix_tup (pv 0) pe_int (fun _ _ => rfl))))))))
      (pss_one (ps_ret (pe_tup (pa_cons (pe_callTy call_tuple_of (by rfl) T.b_tuple (by decide +kernel) (pa_cons (pv 2) pa_nil)) (pa_cons pe_non pa_nil))))))), ?_⟩
    refine ⟨(by show 0 ≤ sizeLine; decide), fun L hL => ⟨_, rfl, r, 8, rfl, Nat.le_refl _, fun p H1 e1 hp => ⟨_, _, rfl, ?_⟩⟩⟩
    have xL := exn (o := HO.lst []) hL
    have hL1 : H1 L = some (.lst []) := e1 _ _ upd_same
    have npL : p ≠ L := fun z => by
      rw [z, hL1] at hp
      injection hp with hp
      injection hp with hp
      have := congrArg List.length hp
      rw [List.length_map, List.length_range] at this
      cases this
    refine ⟨300, rfl, by decide, by decide, ?_⟩
    refine for_range (lo := 0) (n := (300 : Int).toNat) (fun i σ H' => ∃ (t' : Tree) (x : V) (y : Option V) (acc : List V), σ = [some x, some (.int r), some (.ref L), some (.ref p), y] ∧ Ex H H' ∧ H' p = some (.lst ((List.range 8).map fun i => V.int (bitN r i : Nat))) ∧ H' L = some (.lst acc) ∧ acc.length = i ∧ TreeAt H t' x ∧ OkT n t' ∧ ev t' r = ev t r ∧ Fa.ht t' + i ≤ 50) ⟨t, v, none, [], rfl, xL.trans e1, hp, hL1, rfl, ht, ho, rfl, by omega⟩ ?_ ?_
    · rintro i σ H2 hi ⟨t', x, y, acc, rfl, e, hp2, hL2, hacc, hx, ho', he, hhi⟩
      cases t' with
      | leaf b =>
        cases (hx : x = .int b)
        refine ⟨_, rfl, _, _, _, _, false, rfl, .ty _, .base (.int _), kit_ty (by decide +kernel), false, rfl, iteT ?_⟩
        refine ⟨_, rfl, L, acc, rfl, .inl ⟨SqL.of hL2, fun q hq => ?_⟩⟩
        have x3 := exn (o := HO.tup acc) hq
        refine ⟨_, rfl, (by show 2 ≤ sizeLine; decide), fun p2 hp2 => ?_⟩
        refine k p2 q _ ((e.trans x3).trans (exn hp2)) ?_
        rw [upd_same, ← he]
        rfl
      | ask j t1 t2 =>
        obtain ⟨a, y1, y2, rfl, ha, hy1, hy2⟩ := hx
        obtain ⟨o1, o2, o3⟩ := ho'
        have eH : Fa.ht (.ask j t1 t2) = 1 + max (Fa.ht t1) (Fa.ht t2) := rfl
        rw [eH] at hhi
        have ha2 := e _ _ ha
        refine ⟨_, rfl, _, _, _, _, true, rfl, .ty _, .base (.tup ha2), kit_ty (by decide +kernel), true, rfl, iteF ?_⟩
        refine ⟨_, rfl, .inl ⟨rfl, _, SqL.of hL2⟩, _, rfl, _, _, _, _, rfl, rfl, SqT.of ha2, rfl, _, rfl, _, rfl, _, _, _, _, rfl, rfl, SqT.of ha2, rfl, _, _, _, _, rfl, rfl, SqL.of hp2, bit_at (by omega), (by show 2 ≤ sizeLine; decide), fun q hq => ?_⟩
        have x4 := exn (o := HO.tup [V.int (j : Nat), V.int (bitN r j : Nat)]) hq
        refine ⟨L, acc, _, rfl, rfl, x4 _ _ hL2, by rw [sizeLine_eq]; omega, ?_⟩
        have e5 : Ex H (L2.upd (L2.upd H2 q (.tup [V.int (j : Nat), V.int (bitN r j : Nat)])) L (.lst (acc ++ [.ref q]))) := ex_upd (e.trans x4) (by
          cases z : H L with
          | none => rfl
          | some o => rw [z] at hL; cases hL)
        have hp5 : (L2.upd (L2.upd H2 q (.tup [V.int (j : Nat), V.int (bitN r j : Nat)])) L (.lst (acc ++ [.ref q]))) p = some (.lst ((List.range 8).map fun i => V.int (bitN r i : Nat))) := by
          rw [upd_ne npL]
          exact x4 _ _ hp2
        have hL5 : (L2.upd (L2.upd H2 q (.tup [V.int (j : Nat), V.int (bitN r j : Nat)])) L (.lst (acc ++ [.ref q]))) L = some (.lst (acc ++ [.ref q])) := upd_same
        generalize (L2.upd (L2.upd H2 q (.tup [V.int (j : Nat), V.int (bitN r j : Nat)])) L (.lst (acc ++ [.ref q]))) = H5 at e5 hp5 hL5 ⊢
        have ha5 := e5 _ _ ha
        have hl5 : (acc ++ [V.ref q]).length = i + 1 := by rw [List.length_append, hacc]; rfl
        refine ⟨_, rfl, _, rfl, _, _, _, _, rfl, rfl, SqT.of ha5, rfl, _, _, _, _, rfl, rfl, SqL.of hp5, bit_at (by omega), rfl, _, rfl, ?_⟩
        have he' : (if bitN r j = 1 then ev t1 r else ev t2 r) = ev t r := he
        refine ite2 (fun z => ?_) (fun z => ?_)
        · have z1 : bitN r j = 1 := by have := V.int.inj (of_decide_eq_true z); omega
          rw [if_pos z1] at he'
          exact ⟨_, rfl, _, _, _, _, rfl, rfl, SqT.of ha5, rfl, t1, y1, _, _, rfl, e5, hp5, hL5, hl5, hy1, o2, he', by omega⟩
        · have z1 : ¬ bitN r j = 1 := fun q => z (decide_eq_true (by rw [q]; rfl))
          rw [if_neg z1] at he'
          exact ⟨_, rfl, _, _, _, _, rfl, rfl, SqT.of ha5, rfl, t2, y2, _, _, rfl, e5, hp5, hL5, hl5, hy2, o3, he', by omega⟩
    · rintro σ H2 ⟨t', x, y, acc, rfl, e, hp2, hL2, hacc, hx, ho', he, hhi⟩
      have : (300 : Int).toNat = 300 := rfl
      rw [this] at hhi
      omega
def spEnds : Sp := fun vs H Q _ => ∃ (a : Addr) (v : V) (n : Nat) (ns : List Int) (t : Tree), vs = [.int n, .ref a, v] ∧ H a = some (.tup (ns.map V.int)) ∧ OkV n ns ∧ TreeAt H t v ∧ OkT n t ∧ n ≤ 8 ∧ ht t ≤ 50 ∧ (∀ r, r < 2 ^ n → ev t r = ns.getD r 0) ∧ Ret (.bl true) H Q
theorem ok_law_ends_right (T : Txt K mg) : Has P w K mg base "_law_ends_right" ["_law_count", "_law_worths_here", "_law_wood_here"] 3 spEnds := by
  have G_law_power := ok_law_power (P := P) (w := w) (base := base) T
  have G_law_walk := ok_law_walk (P := P) (w := w) (base := base) T
  refine T.d_law_ends_right.ok sc_law_ends_right (fun vs H Q E h => ?_) (fun f cdv A outer s H vs Q E hr h => ?_)
  · obtain ⟨a, v, n, ns, t, rfl, _⟩ := h
    rfl
  · obtain ⟨a, v, n, ns, t, rfl, ha, hv, ht, ho, hn, hh, hev, k⟩ := h
    have hu64 := r64 hr
    refine ⟨_, (pss_one (ps_ret (pe_cmpR (op_eqD hu64) (pe_lc (own := [("_law_line", 3)]) (g := gName 3) (by rfl) sc_law_ends_right.nd (pi_range1 (by rfl) T.b_range (pa_cons (pe_has G_law_power (hr.mono (by omega)) (pa_cons (pv 0) pa_nil)) pa_nil)) (blkOk_by (own := [("_law_line", 3)]) (N := n_law_ends_right) (sc := defScope s_law_ends_right) (by decide +kernel)) (fun _ _ _ _ _ => (pg_name (i := 3) sc_law_ends_right.nd rfl (Or.inl rfl))) (fun _ _ _ _ _ => (pts_one (pt_cmpR op_ne (pe_ix (ix_tupK (K := K) rfl) (pe_has G_law_walk (hr.mono (by omega)) (pa_cons (pv 2) (pa_cons (pv 3) pa_nil))) pe_int (fun _ _ => rfl)) (pe_ix (ix_tupK (K := K) rfl) (pv 1) (pv 3) (fun _ _ => rfl)) (nomark _)))) (fun _ _ _ _ _ => pe_int)) (pe_lst pa_nil) (nomark _)))), ?_⟩
    have hp8 := pow8 hn
    refine ⟨_, rfl, n, rfl, hn, fun H1 e1 => ⟨((2 ^ n : Nat) : Int), rfl, Int.le_trans (by decide) (Int.natCast_nonneg _), Int.lt_of_le_of_lt (Int.ofNat_le.mpr hp8) (by decide), fun D hD => ?_⟩⟩
    refine lc_ones (walk_range (lo := 0) (n := ((2 ^ n : Nat) : Int).toNat)) (fun _ _ _ _ y => y) hD (by show 2 ^ n ≤ 40000; omega) (fun _ _ => trivial) (fun _ => rfl) (fun _ => false) (fun _ => V.int 1) ?_ (fun i x hi hx hf => by cases hf) fun H' e2 h => ?_
    · intro i x hi hx H3 e3 Q' q'
      cases rng0 hx
      have hil : i < 2 ^ n := hi
      refine ⟨_, rfl, _, rfl, v, i, n, t, rfl, ht.ex (e1.trans e3), ho, hn, hh, fun p l H4 e4 hp => ?_⟩
      have hat : ns[i]? = some (ns.getD i 0) := by
        rw [List.getD_eq_getElem?_getD, List.getElem?_eq_getElem (by rw [hv.1]; exact hil)]
        rfl
      refine ⟨_, _, _, _, rfl, rfl, SqT.of hp, rfl, _, rfl, _, rfl, _, _, _, _, rfl, rfl, SqT.of (e4 _ _ (e3 _ _ (e1 _ _ ha))), atI_nat (ints_at hat), rfl, _, rfl, ?_⟩
      have e6 : (!decide (V.int (ev t i) = V.int (ns.getD i 0))) = false := by rw [hev i hil]; simp
      rw [e6]
      exact q' H4 e4
    · rw [given_nil (fun _ _ => rfl)] at h
      refine ⟨(by show 0 ≤ sizeLine; decide), fun M hM => ?_⟩
      have xM := exn (o := HO.lst []) hM
      exact eq_nil0 (xM _ _ h) upd_same (k _ ((e1.trans e2).trans xM))
def spLess : Sp := fun vs H Q _ => ∃ (c d : Addr) (cs ds : List Int), vs = [.ref c, .ref d] ∧ H c = some (.tup (cs.map V.int)) ∧ H d = some (.tup (ds.map V.int)) ∧ cs.length ≤ 8 ∧ ds.length = cs.length ∧ Ret (.bl (lessB cs ds)) H Q
theorem ok_law_less_cube (T : Txt K mg) : Has P w K mg base "_law_less_cube" ["_law_cube", "_law_other"] 1 spLess := by
  refine T.d_law_less_cube.ok sc_law_less_cube (fun vs H Q E h => ?_) (fun f cdv A outer s H vs Q E hr h => ?_)
  · obtain ⟨c, d, cs, ds, rfl, _⟩ := h
    rfl
  · obtain ⟨c, d, cs, ds, rfl, hc, hd, hl, hl2, k⟩ := h
    have hu64 := r64 hr
    refine ⟨_, (pss_one (ps_ret (pe_cmpR (op_eqD hu64) (pe_lc (own := [("_law_told", 2), ("_law_wide", 3)]) (g := gTup K 2 (gCons (gName 2) (gCons (gName 3) (gNil)))) (by rfl) sc_law_less_cube.nd (RZ.pi_zipA (by rfl) T.b_zip (pa_cons (pv 0) (pa_cons (pv 1) pa_nil))) (blkOk_by (own := [("_law_told", 2), ("_law_wide", 3)]) (N := n_law_less_cube) (sc := defScope s_law_less_cube) (by decide +kernel)) (fun _ _ _ _ _ => (pg_tup (by rfl) (pgs_cons (pg_name (i := 2) sc_law_less_cube.nd rfl (Or.inl rfl)) (pgs_cons (pg_name (i := 3) sc_law_less_cube.nd rfl (Or.inl rfl)) pgs_nil)))) (fun _ _ _ _ _ => (pts_one (PW.pt (pw_and (pt_cmpR op_ne (pv 3) pe_int (nomark _)) (pw_and1 (pt_cmpR op_ne (pv 2) (pv 3) (nomark _))))))) (fun _ _ _ _ _ => pe_int)) (pe_lst pa_nil) (nomark _)))), ?_⟩
    have hlen : (cs.map V.int).length = cs.length := List.length_map _
    refine ⟨_, rfl, _, rfl, c, d, _, _, rfl, .inr ⟨SqT.of hc, SqT.of hd, fun D hD => ?_⟩⟩
    refine lc_pairs (walk_zipT (n := cs.length) (by rw [hlen, List.length_map, hl2, Nat.min_self])) hD (by omega) (fun H' e => ⟨SqT.of (e _ _ hc), SqT.of (e _ _ hd)⟩) (fun _ _ => rfl) (lessF cs ds) (fun _ => V.int 1) ?_ (fun _ _ _ _ _ _ _ _ _ => ev_c) fun H' e2 h => ?_
    · intro i x y H2 hi e2 q1 q2 H3 e3 Q' q'
      obtain ⟨z, hz, rfl⟩ := at_ints q1
      obtain ⟨y, hy, rfl⟩ := at_ints q2
      unfold lessF at q'
      rw [get_ints hz, get_ints hy] at q'
      refine ⟨_, rfl, rfl, _, rfl, ?_⟩
      by_cases z2 : y = 2
      · subst z2
        exact iteF (q' H3 (exr _))
      · have n2 : ¬ V.int y = V.int 2 := fun q => z2 (V.int.inj q)
        rw [decide_eq_false z2] at q'
        rw [decide_eq_false n2]
        refine iteT ⟨_, rfl, _, rfl, rfl, _, rfl, ?_⟩
        have ed : decide (V.int z = V.int y) = decide (z = y) := by simp
        rw [ed]
        exact q' H3 (exr _)
    · rw [given_ones] at h
      refine ⟨(by show 0 ≤ sizeLine; decide), fun M hM => ?_⟩
      have xM := exn (o := HO.lst []) hM
      exact eq_nil (ones cs.length (lessF cs ds)) (SqL.of (xM _ _ h)) upd_same (k _ (e2.trans xM))
def spCubeEntry : Sp := fun vs H Q _ => ∃ (r : Addr) (n : Nat) (e : Ent), vs = [.int n, .ref r] ∧ n ≤ 8 ∧ EntA H r e ∧ 0 ≤ e.1 ∧ OkC n e.2 ∧ Ret (.bl true) H Q
theorem ok_law_is_cube_entry (T : Txt K mg) : Has P w K mg base "_law_is_cube_entry" ["_law_count", "_law_told"] 1 spCubeEntry := by
  refine T.d_law_is_cube_entry.ok sc_law_is_cube_entry (fun vs H Q E h => ?_) (fun f cdv A outer s H vs Q E hr h => ?_)
  · obtain ⟨r, n, e, rfl, _⟩ := h
    rfl
  · obtain ⟨r, n, e, rfl, hn, ⟨cc, hr1, hr2⟩, h0, hc, k⟩ := h
    refine ⟨_, (pss_cons (ps_if (PW.pt (pw_or (pt_not (pt_val (pe_callB call_isi (by rfl) T.b_isinstance (by decide +kernel) (pa_cons (pv 1) (pa_cons (pe_bltn (v := .ty "tuple") (by rfl) T.b_tuple (by decide +kernel) rfl) pa_nil))))) (pw_or (pt_cmpR op_ne (pe_callB call_len_seq (by rfl) T.b_len PySem.boot_len (pa_cons (pv 1) pa_nil)) pe_int (nomark _)) (pw_or (pt_not (pt_val (pe_callB call_isi (by rfl) T.b_isinstance (by decide +kernel) (pa_cons (pe_ix ix_tup (pv 1) pe_int (fun _ _ => rfl)) (pa_cons (pe_bltn (v := .ty "int") (by rfl) T.b_int (by decide +kernel) rfl) pa_nil))))) (pw_or1 (pt_val (pe_callB call_isi (by rfl) T.b_isinstance (by decide +kernel) (pa_cons (pe_ix ix_tup (pv 1) pe_int (fun _ _ => rfl)) (pa_cons (pe_bltn (v := .ty "bool") (by rfl) T.b_bool (by decide +kernel) rfl) pa_nil))))))))) (pss_one (ps_ret pe_bl)) pss_nil)
      (pss_cons (ps_if (PW.pt (pw_or (pt_cmpR op_lt (pe_ix ix_tup (pv 1) pe_int (fun _ _ => rfl)) pe_int (nomark _)) (pw_or (pt_not (pt_val (pe_callB call_isi (by rfl) T.b_isinstance (by decide +kernel) (pa_cons (pe_ix ix_tup (pv 1) pe_int (fun _ _ => rfl)) (pa_cons (pe_bltn (v := .ty "tuple") (by rfl) T.b_tuple (by decide +kernel) rfl) pa_nil))))) (pw_or1 (pt_cmpR op_ne (pe_callB call_len_seq (by rfl) T.b_len PySem.boot_len (pa_cons (pe_ix ix_tup (pv 1) pe_int (fun _ _ => rfl)) pa_nil)) (pv 0) (nomark _)))))) (pss_one (ps_ret pe_bl)) pss_nil)
      (pss_cons (ps_for PassesOwn.never rfl (pi_tup (pe_ix ix_tup (pv 1) pe_int (fun _ _ => rfl))) (pg_name (i := 2) sc_law_is_cube_entry.nd rfl (Or.inl rfl)) (pss_one (ps_if (PW.pt (pw_or (pt_not (pt_val (pe_callB call_isi (by rfl) T.b_isinstance (by decide +kernel) (pa_cons (pv 2) (pa_cons (pe_bltn (v := .ty "int") (by rfl) T.b_int (by decide +kernel) rfl) pa_nil))))) (pw_or (pt_val (pe_callB call_isi (by rfl) T.b_isinstance (by decide +kernel) (pa_cons (pv 2) (pa_cons (pe_bltn (v := .ty "bool") (by rfl) T.b_bool (by decide +kernel) rfl) pa_nil)))) (pw_or (pt_cmpR op_lt (pv 2) pe_int (nomark _)) (pw_or1 (pt_cmpR op_gt (pv 2) pe_int (nomark _))))))) (pss_one (ps_ret pe_bl)) pss_nil)))
      (pss_one (ps_ret pe_bl))))), ?_⟩
    refine ⟨_, rfl, _, _, _, _, true, rfl, .ty _, .base (.tup hr1), kit_ty (by decide +kernel), true, rfl, iteF ?_⟩
    refine ⟨_, rfl, r, _, rfl, .inr (SqT.of hr1), rfl, _, rfl, iteNS rfl ?_⟩
    refine ⟨_, rfl, _, _, _, _, rfl, rfl, SqT.of hr1, rfl, _, _, _, _, true, rfl, .ty _, .base (.int _), kit_ty (by decide +kernel), true, rfl, iteF ?_⟩
    refine ⟨_, rfl, _, _, _, _, rfl, rfl, SqT.of hr1, rfl, _, _, _, _, false, rfl, .ty _, .base (.int _), kit_ty (by decide +kernel), false, rfl, iteF ?_⟩
    refine ⟨_, rfl, _, _, _, _, rfl, rfl, SqT.of hr1, rfl, _, _, rfl, rfl, _, rfl, ?_⟩
    refine ite2 (fun z => ?_) (fun z => ?_)
    · have := of_decide_eq_true z
      omega
    refine ⟨_, rfl, _, _, _, _, rfl, rfl, SqT.of hr1, rfl, _, _, _, _, true, rfl, .ty _, .base (.tup hr2), kit_ty (by decide +kernel), true, rfl, iteF ?_⟩
    have el : V.int (((e.2.map V.int).length : Nat) : Int) = V.int ((n : Nat) : Int) := by rw [List.length_map, hc.1]
    refine ⟨_, rfl, _, _, _, _, rfl, rfl, SqT.of hr1, rfl, cc, _, rfl, .inr (SqT.of hr2), _, rfl, rfl, _, rfl, iteNS el ?_⟩
    refine ⟨_, rfl, _, _, _, _, rfl, rfl, SqT.of hr1, rfl, cc, rfl, ⟨_, SqT.of hr2⟩, ?_⟩
    refine for_tup (K := K) (a := cc) (xs := e.2.map V.int) (fun i σ H' => ∃ y, σ = [some (.int n), some (.ref r), y] ∧ H' = H) ⟨none, rfl, rfl⟩ ?_ ?_ ?_
    · rintro i σ H' _ ⟨_, _, rfl⟩
      exact SqT.of hr2
    · rintro i x σ H' hx ⟨y, rfl, rfl⟩
      obtain ⟨z, hz, rfl⟩ := at_ints hx
      have hz2 := hc.2 z (List.mem_of_getElem? hz)
      refine ⟨_, rfl, _, _, _, _, true, rfl, .ty _, .base (.int _), kit_ty (by decide +kernel), true, rfl, iteF ?_⟩
      refine ⟨_, rfl, _, _, _, _, false, rfl, .ty _, .base (.int _), kit_ty (by decide +kernel), false, rfl, iteF ?_⟩
      refine ⟨_, rfl, _, _, rfl, rfl, _, rfl, ?_⟩
      refine ite2 (fun z => ?_) (fun z => ?_)
      · have := of_decide_eq_true z
        omega
      refine ⟨_, rfl, _, _, rfl, rfl, _, rfl, ?_⟩
      refine ite2 (fun z => ?_) (fun z => ?_)
      · have := of_decide_eq_true z
        omega
      exact ⟨_, rfl, rfl⟩
    · rintro σ H' ⟨y, rfl, rfl⟩
      exact k H' (exr H')
end
end Fa

set_option Elab.async false
set_option linter.all false
set_option maxRecDepth 100000
set_option maxHeartbeats 4000000
namespace Fa
open PySem PySem.Spec PyProof.Rows L2 Evl
theorem get_ent {ls : List (Addr × Ent)} {i : Nat} {p : Addr × Ent} (h : ls[i]? = some p) : ls.getD i (0, (0, [])) = p := by
  rw [List.getD_eq_getElem?_getD, h]
  rfl
/-- where the cubes of the entries stand -/
theorem cubes_at {H : Hp} {q : Addr} {ls : List (Addr × Ent)} (b : BookAt H q ls) : ∃ g : Nat → Addr, ∀ (i : Nat) (p : Addr × Ent), ls[i]? = some p → H p.1 = some (.tup [.int p.2.1, .ref (g i)]) ∧ H (g i) = some (.tup (p.2.2.map V.int)) := by
  have h : ∀ i : Nat, ∃ c : Addr, ∀ p : Addr × Ent, ls[i]? = some p → H p.1 = some (.tup [.int p.2.1, .ref c]) ∧ H c = some (.tup (p.2.2.map V.int)) := fun i => by
    cases e : ls[i]? with
    | none => exact ⟨0, fun p z => by cases z⟩
    | some p =>
      obtain ⟨c, h1, h2⟩ := b.2 p (List.mem_of_getElem? e)
      exact ⟨c, fun p' z => by cases z; exact ⟨h1, h2⟩⟩
  exact ⟨fun i => (h i).choose, fun i => (h i).choose_spec⟩
section
variable {P : Program} {w : World} {K : PySem.W.Frag} {mg : Str → Option Value} {base : Heap}
def spCubeStands : Sp := fun vs H Q _ => ∃ (a q r : Addr) (n : Nat) (ns : List Int) (ls : List (Addr × Ent)) (e : Ent), vs = [.ref a, .ref q, .ref r] ∧ n ≤ 4 ∧ OkV n ns ∧ H a = some (.tup (ns.map V.int)) ∧ BookAt H q ls ∧ GoodB n ns (ls.map (·.2)) ∧ e ∈ ls.map (·.2) ∧ EntA H r e ∧ Ret (.bl true) H Q
theorem ok_law_cube_stands (T : Txt K mg) : Has P w K mg base "_law_cube_stands" ["_law_worths_here", "_law_told", "_law_entry"] 5 spCubeStands := by
  have G_law_is_both := ok_law_is_both (P := P) (w := w) (base := base) T
  have G_law_half := ok_law_half (P := P) (w := w) (base := base) T
  have G_law_less_cube := ok_law_less_cube (P := P) (w := w) (base := base) T
  refine T.d_law_cube_stands.ok sc_law_cube_stands (fun vs H Q E h => ?_) (fun f cdv A outer s H vs Q E hr h => ?_)
  · obtain ⟨a, q, r, n, ns, ls, e, rfl, _⟩ := h
    rfl
  · obtain ⟨a, q, r, n, ns, ls, e, rfl, hn, hv, ha, hq, hG, he, ⟨cc, hr1, hr2⟩, k⟩ := h
    have hu64 := r64 hr
    refine ⟨_, (pss_cons (ps_asg (pv 2) (pg_tup (by rfl) (pgs_cons (pg_name (i := 3) sc_law_cube_stands.nd rfl (Or.inr rfl)) (pgs_cons (pg_name (i := 4) sc_law_cube_stands.nd rfl (Or.inr rfl)) pgs_nil))))
      (pss_cons (ps_if (pt_cmpR op_eq (pv 3) pe_int (nomark _)) (pss_one (ps_ret (pe_has G_law_is_both (hr.mono (by omega)) (pa_cons (pv 0) (pa_cons (pv 4) pa_nil))))) pss_nil)
      (pss_cons (ps_par (i := 5) (j := 6) (by rfl) sc_law_cube_stands.nd rfl rfl (by decide) rfl rfl (pa_cons (pe_lc (own := [("_law_one", 9)]) (g := gName 9) (by rfl) sc_law_cube_stands.nd (pi_tup (pv 1)) (blkOk_by (own := [("_law_one", 9)]) (N := n_law_cube_stands) (sc := defScope s_law_cube_stands) (by decide +kernel)) (fun _ _ _ _ _ => (pg_name (i := 9) sc_law_cube_stands.nd rfl (Or.inl rfl))) (fun _ _ _ _ _ => (pts_one (pt_cmpR op_eq (pe_ix (ix_tupK (K := K) rfl) (pv 9) pe_int (fun _ _ => rfl)) (pe_op op_sub (pv 3) pe_int) (nomark _)))) (fun _ _ _ _ _ => (pe_ix (ix_tupK (K := K) rfl) (pv 9) pe_int (fun _ _ => rfl)))) (pa_cons (pe_lc (own := [("_law_spot", 10), ("_law_one", 9)]) (g := gTup K 2 (gCons (gName 10) (gCons (gName 9) (gNil)))) (by rfl) sc_law_cube_stands.nd (pi_enT T.b_enumerate (pa_cons (pv 4) pa_nil)) (blkOk_by (own := [("_law_spot", 10), ("_law_one", 9)]) (N := n_law_cube_stands) (sc := defScope s_law_cube_stands) (by decide +kernel)) (fun _ _ _ _ _ => (pg_tup (by rfl) (pgs_cons (pg_name (i := 10) sc_law_cube_stands.nd rfl (Or.inl rfl)) (pgs_cons (pg_name (i := 9) sc_law_cube_stands.nd rfl (Or.inl rfl)) pgs_nil)))) (fun _ _ _ _ _ => (pts_one (pt_cmpR op_eq (pv 9) pe_int (nomark _)))) (fun _ _ _ _ _ => (pv 10))) pa_nil)) (by rfl))
      (pss_cons (ps_for PassesOwn.never rfl (pi_list (pv 6)) (pg_name (i := 7) sc_law_cube_stands.nd rfl (Or.inr rfl)) (pss_cons (ps_set (i := 8) sc_law_cube_stands.nd rfl (Or.inr rfl) (pe_lc (own := [("_law_bit", 11)]) (g := gName 11) (by rfl) sc_law_cube_stands.nd (pi_tup (pe_tup (pa_cons pe_int (pa_cons pe_int pa_nil)))) (blkOk_by (own := [("_law_bit", 11)]) (N := n_law_cube_stands) (sc := defScope s_law_cube_stands) (by decide +kernel)) (fun _ _ _ _ _ => (pg_name (i := 11) sc_law_cube_stands.nd rfl (Or.inl rfl))) (fun _ _ _ _ _ => pts_nil) (fun _ _ _ _ _ => (pe_has G_law_half (hr.mono (by omega)) (pa_cons (pv 4) (pa_cons (pv 7) (pa_cons (pv 11) pa_nil)))))))
      (pss_one (ps_if (pt_cmpR (op_eqD hu64) (pe_lc (own := [("_law_one", 9)]) (g := gName 9) (by rfl) sc_law_cube_stands.nd (pi_list (pv 5)) (blkOk_by (own := [("_law_one", 9)]) (N := n_law_cube_stands) (sc := defScope s_law_cube_stands) (by decide +kernel)) (fun _ _ _ _ _ => (pg_name (i := 9) sc_law_cube_stands.nd rfl (Or.inl rfl))) (fun _ _ _ _ _ => (pts_one (PW.pt (pw_or (pt_val (pe_has G_law_less_cube (hr.mono (by omega)) (pa_cons (pv 9) (pa_cons (pe_ix (ix_listK (K := K) rfl) (pv 8) pe_int (fun _ _ => rfl)) pa_nil)))) (pw_or1 (pt_val (pe_has G_law_less_cube (hr.mono (by omega)) (pa_cons (pv 9) (pa_cons (pe_ix (ix_listK (K := K) rfl) (pv 8) pe_int (fun _ _ => rfl)) pa_nil))))))))) (fun _ _ _ _ _ => pe_int)) (pe_lst pa_nil) (nomark _)) (pss_one (ps_ret pe_bl)) pss_nil))))
      (pss_one (ps_ret (pe_cmpR (op_neD hu64) (pv 6) (pe_lst pa_nil) (nomark _)))))))), ?_⟩
    obtain ⟨i0, hc, iD, iR⟩ := hG.it e he
    have hb : bothB ns e.2 = true := D_both (by omega)
    have hcl := hc.1
    have hll : ls.length ≤ 324 := by have := hG.len; rw [List.length_map] at this; exact this
    have hlen : (ls.map fun p : Addr × Ent => V.ref p.1).length = ls.length := List.length_map _
    refine ⟨_, rfl, r, _, rfl, SqT.of hr1, rfl, _, _, rfl, _, _, rfl, rfl, ?_⟩
    refine ⟨_, rfl, rfl, _, rfl, ?_⟩
    refine ite2 (fun z => ?_) (fun z => ?_)
    · refine ⟨_, rfl, _, rfl, a, cc, n, ns, e.2, rfl, by omega, hv, hc, ha, hr2, fun H1 e1 => ?_⟩
      rw [hb]
      exact k H1 e1
    · have hpos : 0 < e.1 := by
        have : ¬ e.1 = 0 := fun q => z (decide_eq_true (congrArg V.int q))
        omega
      obtain ⟨g, hg⟩ := cubes_at hq
      refine ⟨_, rfl, q, rfl, ⟨_, SqT.of hq.1⟩, fun L1 hL1 => ?_⟩
      refine lc_ones (walk_tup (xs := ls.map fun p : Addr × Ent => V.ref p.1)) (fun _ _ _ _ y => y) hL1 (by rw [hlen]; omega) (fun H' e2 => SqT.of (e2 _ _ hq.1)) (fun _ => rfl) (fun i => decide ((ls.getD i (0, (0, []))).2.1 = e.1 - 1)) (fun i => V.ref (g i)) ?_ ?_ fun H1 e1 h1 => ?_
      · intro i x hi hx H5 e5 Q' q'
        obtain ⟨p, hp, rfl⟩ := at_refs hx
        obtain ⟨g1, g2⟩ := hg i p hp
        refine ⟨_, rfl, _, _, _, _, rfl, rfl, SqT.of (e5 _ _ g1), rfl, _, rfl, _, _, rfl, rfl, rfl, _, rfl, ?_⟩
        rw [get_ent hp] at q'
        have ed : decide (V.int p.2.1 = V.int (e.1 - 1)) = decide (p.2.1 = e.1 - 1) := by simp
        rw [ed]
        exact q' H5 (exr _)
      · intro i x hi hx hf
        obtain ⟨p, hp, rfl⟩ := at_refs hx
        obtain ⟨g1, g2⟩ := hg i p hp
        exact ev_op (ev_var rfl) ev_c (rv_ixT (i := 1) (SqT.of g1) rfl)
      · rw [hlen] at h1
        -- the cubes of the level below
        have hhs : ∃ hs : List (Addr × Ent), hs = ((List.range ls.length).filter fun i => decide ((ls.getD i (0, (0, []))).2.1 = e.1 - 1)).map fun i => (g i, (ls.getD i (0, (0, []))).2) := ⟨_, rfl⟩
        obtain ⟨hs, ehs⟩ := hhs
        have eh1 : given ls.length (fun i => decide ((ls.getD i (0, (0, []))).2.1 = e.1 - 1)) (fun i => V.ref (g i)) = hs.map fun p => V.ref p.1 := by
          rw [ehs, List.map_map]
          rfl
        rw [eh1] at h1
        have hhl : hs.length ≤ 324 := by
          rw [ehs, List.length_map]
          have := List.length_filter_le (fun i => decide ((ls.getD i (0, (0, []))).2.1 = e.1 - 1)) (List.range ls.length)
          rw [List.length_range] at this
          omega
        have hmem : ∀ p ∈ hs, ∃ i p', ls[i]? = some p' ∧ p = (g i, p'.2) := fun p hp => by
          rw [ehs] at hp
          obtain ⟨i, hi, rfl⟩ := List.mem_map.mp hp
          have hil := List.mem_range.mp (List.mem_filter.mp hi).1
          exact ⟨i, ls[i], List.getElem?_eq_getElem hil, by rw [get_ent (List.getElem?_eq_getElem hil)]⟩
        have hcub : ∀ p ∈ hs, H p.1 = some (.tup (p.2.2.map V.int)) ∧ OkC n p.2.2 := fun p hp => by
          obtain ⟨i, p', h1, rfl⟩ := hmem p hp
          refine ⟨(hg i p' h1).2, ?_⟩
          obtain ⟨_, h2, _⟩ := hG.it p'.2 (List.mem_map.mpr ⟨p', List.mem_of_getElem? h1, rfl⟩)
          exact h2
        have hin : ∀ c, (e.1 - 1, c) ∈ ls.map (·.2) → ∃ p ∈ hs, p.2.2 = c := fun c hcm => by
          obtain ⟨p, hp, ep⟩ := List.mem_map.mp hcm
          obtain ⟨i, hi, ei⟩ := List.getElem_of_mem hp
          have hpi : ls[i]? = some p := by rw [List.getElem?_eq_getElem hi, ei]
          refine ⟨(g i, p.2), ?_, by rw [ep]⟩
          rw [ehs]
          refine List.mem_map.mpr ⟨i, List.mem_filter.mpr ⟨List.mem_range.mpr hi, ?_⟩, by rw [get_ent hpi]⟩
          rw [get_ent hpi, ep]
          exact decide_eq_true rfl
        refine ⟨_, rfl, cc, _, rfl, SqT.of (e1 _ _ hr2), fun L2' hL2 => ?_⟩
        refine lc_pairs (walk_enT (xs := e.2.map V.int)) hL2 (by rw [List.length_map]; omega) (fun H' e2 => SqT.of (e2 _ _ (e1 _ _ hr2))) (fun _ _ => rfl) (fun i => e.2.getD i 0 == 2) (fun i => V.int (i : Nat)) ?_ ?_ fun H2 e2 h2 => ?_
        · intro i x y H2 hi e2 q1 q2
          obtain ⟨z, hz, rfl⟩ := at_ints q2
          refine et_is (et_test (ev_op (ev_var rfl) ev_c (rv_eq rfl))) ?_
          rw [get_ints hz]
          by_cases h : z = 2
          · subst h; rfl
          · have h2 : V.int z ≠ V.int 2 := fun q => h (V.int.inj q)
            rw [decide_eq_false h2]
            exact (beq_eq_false_iff_ne.mpr h).symm
        · intro i x y H2 hi e2 q1 q2 _
          cases q1
          exact ev_var rfl
        · rw [List.length_map, given_free] at h2
          refine ⟨_, _, rfl, ?_⟩
          have x2 := e1.trans e2
          have hfl := free_ne hc hb
          refine ⟨_, rfl, L2', rfl, ⟨_, SqL.of h2⟩, ?_⟩
          refine for_list (K := K) (a := L2') (xs := (free e.2).map fun i => V.int (i : Nat)) (fun i σ H' => ∃ (y7 y8 y9 y10 y11 : Option V), σ = [some (.ref a), some (.ref q), some (.ref r), some (.int e.1), some (.ref cc), some (.ref L1), some (.ref L2'), y7, y8, y9, y10, y11] ∧ Ex H2 H') ?_ ?_ ?_ ?_
          · exact ⟨none, none, none, none, none, rfl, exr _⟩
          · rintro i σ H' _ ⟨_, _, _, _, _, _, e3⟩
            exact SqL.of (e3 _ _ h2)
          · rintro i x σ H' hx ⟨y7, y8, y9, y10, y11, rfl, e3⟩
            obtain ⟨j, hj, rfl⟩ : ∃ j, (free e.2)[i]? = some j ∧ x = V.int (j : Nat) := by
              rw [List.getElem?_map] at hx
              cases q : (free e.2)[i]? with
              | none => rw [q] at hx; cases hx
              | some j => rw [q] at hx; exact ⟨j, rfl, (Option.some.inj hx).symm⟩
            have hjm : j ∈ free e.2 := List.mem_of_getElem? hj
            have hf := mem_free.mp hjm
            have hjl : j < e.2.length := (List.getElem?_eq_some_iff.mp hf).1
            have x3 := x2.trans e3
            refine ⟨(by show 2 ≤ sizeLine; decide), fun q0 hq0 => ⟨q0, rfl, ⟨_, SqT.of upd_same⟩, fun L hL => ?_⟩⟩
            have xq := exn (o := HO.tup [V.int 0, V.int 1]) hq0
            have hqq : L2.upd H' q0 (.tup [V.int 0, V.int 1]) q0 = some (.tup ([0, 1].map V.int)) := upd_same
            generalize L2.upd H' q0 (.tup [V.int 0, V.int 1]) = H3 at xq hL hqq ⊢
            have x4 := x3.trans xq
            refine lc_it (walk_tup (xs := [0, 1].map V.int)) (fun i H' => Ex H3 H' ∧ ∃ s0 s1, H' L = some (.lst ([V.ref s0, V.ref s1].take i)) ∧ (1 ≤ i → H' s0 = some (.tup ((e.2.set j 0).map V.int))) ∧ (2 ≤ i → H' s1 = some (.tup ((e.2.set j 1).map V.int)))) ?_ ?_ ?_ ?_
            · exact ⟨exn hL, 0, 0, upd_same, fun h => absurd h (by decide), fun h => absurd h (by decide)⟩
            · rintro i2 H4 _ ⟨e4, _⟩
              exact SqT.of (e4 _ _ hqq)
            · rintro i2 x H4 H5 hi2 ⟨e4, s0, s1, hL4, k0, k1⟩ ⟨rfl, hx2⟩
              have hcc4 := e4 _ _ (x4 _ _ hr2)
              have : i2 = 0 ∨ i2 = 1 := by have : i2 < 2 := hi2; omega
              rcases this with z | z <;> subst z <;> cases Option.some.inj hx2
              · refine ⟨rfl, ?_⟩
                unfold tYes
                refine iteT ?_
                refine ⟨_, rfl, _, rfl, _, rfl, cc, e.2, j, 0, rfl, hcc4, by omega, hjl, fun x H6 e6 hx6 => ?_⟩
                have nxL : x ≠ L := ne_of hx6 (e6 _ _ hL4) (by intro z; cases z)
                refine ⟨_, e6 _ _ hL4, (by show 0 < sizeLine; decide), ex_upd (e4.trans e6) hL, x, 0, upd_same, fun _ => ?_, fun h => absurd h (by decide)⟩
                rw [upd_ne nxL]
                exact hx6
              · refine ⟨rfl, ?_⟩
                unfold tYes
                refine iteT ?_
                refine ⟨_, rfl, _, rfl, _, rfl, cc, e.2, j, 1, rfl, hcc4, by omega, hjl, fun x H6 e6 hx6 => ?_⟩
                have nxL : x ≠ L := ne_of hx6 (e6 _ _ hL4) (by intro z; cases z)
                have ns0L : s0 ≠ L := ne_of (k0 (Nat.le_refl _)) hL4 (by intro z; cases z)
                refine ⟨_, e6 _ _ hL4, (by show 1 < sizeLine; decide), ex_upd (e4.trans e6) hL, s0, x, upd_same, fun _ => ?_, fun _ => ?_⟩
                · rw [upd_ne ns0L]
                  exact e6 _ _ (k0 (Nat.le_refl _))
                · rw [upd_ne nxL]
                  exact hx6
            · rintro H4 ⟨e4, s0, s1, hL4', k0', k1'⟩
              have hL4 : H4 L = some (.lst [V.ref s0, V.ref s1]) := hL4'
              have k0 := k0' (by decide)
              have k1 := k1' (Nat.le_refl _)
              have x5 := x4.trans e4
              have h14 : H4 L1 = some (.lst (hs.map fun p => V.ref p.1)) := e4 _ _ (xq _ _ (e3 _ _ (e2 _ _ h1)))
              have hsl : (hs.map fun p : Addr × Ent => V.ref p.1).length = hs.length := List.length_map _
              refine ⟨_, rfl, L1, rfl, ⟨_, SqL.of h14⟩, fun L5 hL5 => ?_⟩
              refine lc_ones (walk_list (xs := hs.map fun p => V.ref p.1)) (fun _ _ _ _ y => y) hL5 (by rw [hsl]; omega) (fun H' e => SqL.of (e _ _ h14)) (fun _ => rfl) (fun i => lessB (hs.getD i (0, (0, []))).2.2 (e.2.set j 0) || lessB (hs.getD i (0, (0, []))).2.2 (e.2.set j 1)) (fun _ => V.int 1) ?_ (fun _ _ _ _ _ => ev_c) fun H5 e5 h5 => ?_
              · intro i x hi hx H6 e6 Q' q'
                obtain ⟨p, hp, rfl⟩ := at_refs hx
                obtain ⟨hp1, hp2⟩ := hcub p (List.mem_of_getElem? hp)
                rw [get_ent hp] at q'
                have hpl : p.2.2.length = n := hp2.1
                have hl0 : (e.2.set j 0).length = p.2.2.length := by rw [List.length_set]; omega
                have hl1 : (e.2.set j 1).length = p.2.2.length := by rw [List.length_set]; omega
                refine ⟨_, rfl, _, rfl, _, _, _, _, rfl, rfl, SqL.of (e6 _ _ hL4), atI_nat (j := 0) rfl, p.1, s0, _, _, rfl, e6 _ _ (x5 _ _ hp1), e6 _ _ k0, by omega, hl0, fun H7 e7 => ⟨_, rfl, ?_⟩⟩
                cases hb0 : lessB p.2.2 (e.2.set j 0) with
                | true =>
                  rw [hb0, Bool.true_or] at q'
                  exact iteT (q' H7 e7)
                | false =>
                  rw [hb0, Bool.false_or] at q'
                  refine iteF ?_
                  refine ⟨_, rfl, _, rfl, _, _, _, _, rfl, rfl, SqL.of (e7 _ _ (e6 _ _ hL4)), atI_nat (j := 1) rfl, p.1, s1, _, _, rfl, e7 _ _ (e6 _ _ (x5 _ _ hp1)), e7 _ _ (e6 _ _ k1), by omega, hl1, fun H8 e8 => ⟨_, rfl, ?_⟩⟩
                  exact q' H8 (e7.trans e8)
              · rw [hsl, given_ones] at h5
                refine ⟨(by show 0 ≤ sizeLine; decide), fun M hM => ?_⟩
                have xM := exn (o := HO.lst []) hM
                refine eq_nil _ (SqL.of (xM _ _ h5)) upd_same ⟨_, rfl, ?_⟩
                have hne : ¬ ones hs.length (fun i => lessB (hs.getD i (0, (0, []))).2.2 (e.2.set j 0) || lessB (hs.getD i (0, (0, []))).2.2 (e.2.set j 1)) = [] := fun z => by
                  have zz := ones_nil.mp z
                  have fnd : ∀ c, (e.1 - 1, c) ∈ ls.map (·.2) → ∃ i, i < hs.length ∧ (hs.getD i (0, (0, []))).2.2 = c := fun c hcm => by
                    obtain ⟨p, hp, ep⟩ := hin c hcm
                    obtain ⟨i, hi, ei⟩ := List.getElem_of_mem hp
                    exact ⟨i, hi, by rw [get_ent (p := p) (by rw [List.getElem?_eq_getElem hi, ei]), ep]⟩
                  rcases hG.cl e he hpos j hjm with q | q
                  · obtain ⟨i, hi, ei⟩ := fnd _ q
                    have := zz i hi
                    rw [ei, lessB_refl, Bool.or_true] at this
                    cases this
                  · obtain ⟨i, hi, ei⟩ := fnd _ q
                    have := zz i hi
                    rw [ei, lessB_refl, Bool.true_or] at this
                    cases this
                rw [decide_eq_false hne]
                exact iteF ⟨_, _, _, _, _, rfl, ((e3.trans xq).trans e4).trans (e5.trans xM)⟩
          · rintro σ H' ⟨y7, y8, y9, y10, y11, rfl, e3⟩
            have h2' := e3 _ _ h2
            refine ⟨_, rfl, (by show 0 ≤ sizeLine; decide), fun M hM => ?_⟩
            have xM := exn (o := HO.lst []) hM
            have emap : ((free e.2).map fun i => V.int (i : Nat)) = ((free e.2).map fun i => ((i : Nat) : Int)).map V.int := by rw [List.map_map]; rfl
            rw [emap] at h2'
            refine ne_nil _ (SqL.of (xM _ _ h2')) upd_same ?_
            have hne : ¬ ((free e.2).map fun i => ((i : Nat) : Int)) = [] := fun z => hfl (List.map_eq_nil_iff.mp z)
            rw [decide_eq_false hne]
            exact k _ ((x2.trans e3).trans xM)
end
end Fa

set_option Elab.async false
set_option linter.all false
set_option maxRecDepth 100000
set_option maxHeartbeats 4000000
namespace Fa
open PySem PySem.Spec PyProof.Rows L2 Evl
section
variable {P : Program} {w : World} {K : PySem.W.Frag} {mg : Str → Option Value} {base : Heap}
def spLawBook : Sp := fun vs H Q _ => ∃ (a q : Addr) (n : Nat) (ns : List Int) (ls : List (Addr × Ent)), vs = [.int n, .ref a, .int (D ns (root n) : Nat), .ref q] ∧ n ≤ 4 ∧ OkV n ns ∧ H a = some (.tup (ns.map V.int)) ∧ BookAt H q ls ∧ GoodB n ns (ls.map (·.2)) ∧ Ret (.bl true) H Q
theorem ok_law_is_cube_book (T : Txt K mg) : Has P w K mg base "_law_is_cube_book" ["_law_count", "_law_worths_here", "_law_most", "_law_told"] 6 spLawBook := by
  have G_law_is_cube_entry := ok_law_is_cube_entry (P := P) (w := w) (base := base) T
  have G_law_cube_stands := ok_law_cube_stands (P := P) (w := w) (base := base) T
  refine T.d_law_is_cube_book.ok sc_law_is_cube_book (fun vs H Q E h => ?_) (fun f cdv A outer s H vs Q E hr h => ?_)
  · obtain ⟨a, q, n, ns, ls, rfl, _⟩ := h
    rfl
  · obtain ⟨a, q, n, ns, ls, rfl, hn, hv, ha, hq, hG, k⟩ := h
    have hu5 := r5 hr
    have hu64 := r64 hr
    refine ⟨_, (pss_cons (ps_if (PW.pt (pw_or (pt_not (pt_val (pe_callB call_isi (by rfl) T.b_isinstance (by decide +kernel) (pa_cons (pv 3) (pa_cons (pe_bltn (v := .ty "tuple") (by rfl) T.b_tuple (by decide +kernel) rfl) pa_nil))))) (pw_or1 (pt_cmpR (op_neD hu64) (pe_lc (own := [("_law_one", 4)]) (g := gName 4) (by rfl) sc_law_is_cube_book.nd (pi_tup (pv 3)) (blkOk_by (own := [("_law_one", 4)]) (N := n_law_is_cube_book) (sc := defScope s_law_is_cube_book) (by decide +kernel)) (fun _ _ _ _ _ => (pg_name (i := 4) sc_law_is_cube_book.nd rfl (Or.inl rfl))) (fun _ _ _ _ _ => (pts_one (pt_not (pt_val (pe_has G_law_is_cube_entry (hr.mono (by omega)) (pa_cons (pv 0) (pa_cons (pv 4) pa_nil))))))) (fun _ _ _ _ _ => pe_int)) (pe_lst pa_nil) (nomark _))))) (pss_one (ps_ret pe_bl)) pss_nil)
      (pss_cons (ps_if (pt_cmpR (op_neD hu64) (pe_lc (own := [("_law_one", 4), ("_law_other", 5)]) (g := gTup K 2 (gCons (gName 4) (gCons (gName 5) (gNil)))) (by rfl) sc_law_is_cube_book.nd (RZ.pi_zipA (by rfl) T.b_zip (pa_cons (pv 3) (pa_cons (pe_slice sl_tupA (pv 3) (po_some pe_int) po_none) pa_nil))) (blkOk_by (own := [("_law_one", 4), ("_law_other", 5)]) (N := n_law_is_cube_book) (sc := defScope s_law_is_cube_book) (by decide +kernel)) (fun _ _ _ _ _ => (pg_tup (by rfl) (pgs_cons (pg_name (i := 4) sc_law_is_cube_book.nd rfl (Or.inl rfl)) (pgs_cons (pg_name (i := 5) sc_law_is_cube_book.nd rfl (Or.inl rfl)) pgs_nil)))) (fun _ _ _ _ _ => (pts_one (pt_cmpR (op_geE hu5) (pv 4) (pv 5) (nomark _)))) (fun _ _ _ _ _ => pe_int)) (pe_lst pa_nil) (nomark _)) (pss_one (ps_ret pe_bl)) pss_nil)
      (pss_cons (ps_if (pt_cmpR op_eq (pv 2) pe_int (nomark _)) (pss_one (ps_ret (pe_cmpR (op_eqD hu64) (pv 3) (pe_tup pa_nil) (nomark _)))) pss_nil)
      (pss_cons (ps_if (pt_cmpR (op_eqD hu64) (pe_lc (own := [("_law_one", 4)]) (g := gName 4) (by rfl) sc_law_is_cube_book.nd (pi_tup (pv 3)) (blkOk_by (own := [("_law_one", 4)]) (N := n_law_is_cube_book) (sc := defScope s_law_is_cube_book) (by decide +kernel)) (fun _ _ _ _ _ => (pg_name (i := 4) sc_law_is_cube_book.nd rfl (Or.inl rfl))) (fun _ _ _ _ _ => (pts_one (pt_cmpR op_eq (pe_ix (ix_tupK (K := K) rfl) (pv 4) pe_int (fun _ _ => rfl)) (pe_op op_sub (pv 2) pe_int) (nomark _)))) (fun _ _ _ _ _ => pe_int)) (pe_lst pa_nil) (nomark _)) (pss_one (ps_ret pe_bl)) pss_nil)
      (pss_one (ps_ret (pe_cmpR (op_eqD hu64) (pe_lc (own := [("_law_one", 4)]) (g := gName 4) (by rfl) sc_law_is_cube_book.nd (pi_tup (pv 3)) (blkOk_by (own := [("_law_one", 4)]) (N := n_law_is_cube_book) (sc := defScope s_law_is_cube_book) (by decide +kernel)) (fun _ _ _ _ _ => (pg_name (i := 4) sc_law_is_cube_book.nd rfl (Or.inl rfl))) (fun _ _ _ _ _ => (pts_one (pt_not (pt_val (pe_has G_law_cube_stands (hr.mono (by omega)) (pa_cons (pv 1) (pa_cons (pv 3) (pa_cons (pv 4) pa_nil)))))))) (fun _ _ _ _ _ => pe_int)) (pe_lst pa_nil) (nomark _)))))))), ?_⟩
    have hlen : (ls.map fun p : Addr × Ent => V.ref p.1).length = ls.length := List.length_map _
    have hll : ls.length ≤ 324 := by have := hG.len; rw [List.length_map] at this; exact this
    refine ⟨_, rfl, _, _, _, _, true, rfl, .ty _, .base (.tup hq.1), kit_ty (by decide +kernel), true, rfl, iteF ?_⟩
    refine ⟨_, rfl, q, rfl, ⟨_, SqT.of hq.1⟩, fun D1 hD1 => ?_⟩
    refine lc_ones (walk_tup (xs := ls.map fun p : Addr × Ent => V.ref p.1)) (fun _ _ _ _ y => y) hD1 (by rw [hlen]; omega) (fun H' e2 => SqT.of (e2 _ _ hq.1)) (fun _ => rfl) (fun _ => false) (fun _ => V.int 1) ?_ (fun i x hi hx hf => by cases hf) fun H1 e1 h1 => ?_
    · intro i x hi hx H3 e3 Q' q'
      obtain ⟨p, hp, rfl⟩ := at_refs hx
      have hm := List.mem_of_getElem? hp
      obtain ⟨i0, i1, _⟩ := hG.it p.2 (List.mem_map.mpr ⟨p, hm, rfl⟩)
      exact ⟨_, rfl, _, rfl, p.1, n, p.2, rfl, by omega, (hq.2 p hm).ex e3, i0, i1, fun H4 e4 => ⟨true, rfl, q' H4 e4⟩⟩
    rw [given_nil (fun _ _ => rfl)] at h1
    refine ⟨(by show 0 ≤ sizeLine; decide), fun M1 hM1 => ?_⟩
    have xM1 := exn (o := HO.lst []) hM1
    refine ne_nil0 (xM1 _ _ h1) upd_same ⟨_, rfl, iteF ?_⟩
    have t1 := e1.trans xM1
    generalize L2.upd H1 M1 (.lst []) = H2 at t1 ⊢
    have hq2 := hq.ex t1
    refine ⟨_, rfl, _, rfl, _, rfl, ?_⟩
    unfold tNoPart
    dsimp only
    refine sl_tail (K := K) hq2.1 fun r H3 e3 hr => ?_
    have t3 := t1.trans e3
    have hq3 := hq.ex t3
    rw [← List.map_drop] at hr
    refine ⟨q, r, _, _, rfl, .inr ⟨SqT.of hq3.1, SqT.of hr, fun D2 hD2 => ?_⟩⟩
    refine lc_pairs (walk_zipT (n := ls.length - 1) (xs := ls.map fun p : Addr × Ent => V.ref p.1) (ys := (ls.drop 1).map fun p : Addr × Ent => V.ref p.1) (by rw [hlen, List.length_map, List.length_drop]; omega)) hD2 (by omega) (fun H' e => ⟨SqT.of (e _ _ hq3.1), SqT.of (e _ _ hr)⟩) (fun _ _ => rfl) (fun _ => false) (fun _ => V.int 1) ?_ (fun i x y H2 hi e2 q1 q2 hf => by cases hf) fun H4 e4 h4 => ?_
    · intro i x y H5 hi e5 q1 q2 H6 e6 Q' q'
      obtain ⟨p1, hp1, rfl⟩ := at_refs q1
      obtain ⟨p2, hp2, rfl⟩ := at_refs q2
      rw [List.getElem?_drop, Nat.add_comm] at hp2
      have m1 := (hq3.2 p1 (List.mem_of_getElem? hp1)).ex (e5.trans e6)
      have m2 := (hq3.2 p2 (List.mem_of_getElem? hp2)).ex (e5.trans e6)
      have hlt := ltE_next hG.srt hp1 hp2
      refine ⟨_, rfl, _, rfl, p1.1, p2.1, p1.2, p2.2, rfl, rfl, m1, m2, _, rfl, ?_⟩
      rw [decide_eq_true hlt]
      exact q' H6 (exr _)
    rw [given_nil (fun _ _ => rfl)] at h4
    refine ⟨(by show 0 ≤ sizeLine; decide), fun M2 hM2 => ?_⟩
    have xM2 := exn (o := HO.lst []) hM2
    refine ne_nil0 (xM2 _ _ h4) upd_same ⟨_, rfl, iteF ?_⟩
    have t4 := (t3.trans e4).trans xM2
    generalize L2.upd H4 M2 (.lst []) = H5 at t4 ⊢
    have hq5 := hq.ex t4
    refine ⟨_, rfl, rfl, _, rfl, ?_⟩
    refine ite2 (fun z => ?_) (fun z => ?_)
    · have d0 : D ns (root n) = 0 := by have := V.int.inj (of_decide_eq_true z); omega
      have l0 : ls = [] := by
        cases ls with
        | nil => rfl
        | cons p l =>
          obtain ⟨i0, _, _, iR⟩ := hG.it p.2 List.mem_cons_self
          omega
      subst l0
      refine ⟨_, rfl, (by show 0 ≤ sizeLine; decide), fun M hM => ?_⟩
      have xM := exn (o := HO.tup []) hM
      exact ⟨.tuple [], .tuple [], .tup (SqT.of (xM _ _ hq5.1)) .nil, .tup (SqT.of upd_same) .nil, by decide +kernel, by decide +kernel, k _ (t4.trans xM)⟩
    · have hpos : 0 < D ns (root n) := by
        apply Nat.pos_of_ne_zero
        intro q
        refine z (decide_eq_true ?_)
        rw [q]
        rfl
      refine ⟨_, rfl, q, rfl, ⟨_, SqT.of hq5.1⟩, fun D3 hD3 => ?_⟩
      refine lc_ones (walk_tup (xs := ls.map fun p : Addr × Ent => V.ref p.1)) (fun _ _ _ _ y => y) hD3 (by rw [hlen]; omega) (fun H' e2 => SqT.of (e2 _ _ hq5.1)) (fun _ => rfl) (fun i => decide (((ls.getD i (0, (0, []))).2.1) = ((D ns (root n) : Nat) : Int) - 1)) (fun _ => V.int 1) ?_ (fun i x hi hx hf => ev_c) fun H6 e6 h6 => ?_
      · intro i x hi hx H7 e7 Q' q'
        obtain ⟨p, hp, rfl⟩ := at_refs hx
        have hmm := List.mem_of_getElem? hp
        obtain ⟨cc, hr1, hr2⟩ := (hq5.2 p hmm).ex e7
        refine ⟨_, rfl, _, _, _, _, rfl, rfl, SqT.of hr1, rfl, _, rfl, _, _, rfl, rfl, rfl, _, rfl, ?_⟩
        rw [get_ent hp] at q'
        have ed : decide (V.int p.2.1 = V.int (((D ns (root n) : Nat) : Int) - 1)) = decide (p.2.1 = ((D ns (root n) : Nat) : Int) - 1) := by simp
        rw [ed]
        exact q' H7 (exr _)
      rw [hlen, given_ones] at h6
      refine ⟨(by show 0 ≤ sizeLine; decide), fun M3 hM3 => ?_⟩
      have xM3 := exn (o := HO.lst []) hM3
      refine eq_nil _ (SqL.of (xM3 _ _ h6)) upd_same ⟨_, rfl, ?_⟩
      have hne : ¬ ones ls.length (fun i => decide (((ls.getD i (0, (0, []))).2.1) = ((D ns (root n) : Nat) : Int) - 1)) = [] := fun zz => by
        obtain ⟨p, hp, ep⟩ := List.mem_map.mp (hG.rt hpos)
        obtain ⟨i, hi, ei⟩ := List.getElem_of_mem hp
        have h := ones_nil.mp zz i hi
        rw [get_ent (p := p) (by rw [List.getElem?_eq_getElem hi, ei]), ep] at h
        exact absurd rfl (of_decide_eq_false h)
      rw [decide_eq_false hne]
      refine iteF ?_
      have t6 := (t4.trans e6).trans xM3
      generalize L2.upd H6 M3 (.lst []) = H7 at t6 ⊢
      have hq7 := hq.ex t6
      refine ⟨_, rfl, q, rfl, ⟨_, SqT.of hq7.1⟩, fun D4 hD4 => ?_⟩
      refine lc_ones (walk_tup (xs := ls.map fun p : Addr × Ent => V.ref p.1)) (fun _ _ _ _ y => y) hD4 (by rw [hlen]; omega) (fun H' e2 => SqT.of (e2 _ _ hq7.1)) (fun _ => rfl) (fun _ => false) (fun _ => V.int 1) ?_ (fun i x hi hx hf => by cases hf) fun H8 e8 h8 => ?_
      · intro i x hi hx H3 e3 Q' q'
        obtain ⟨p, hp, rfl⟩ := at_refs hx
        have hm := List.mem_of_getElem? hp
        have x3 := t6.trans e3
        exact ⟨_, rfl, _, rfl, _, rfl, a, q, p.1, n, ns, ls, p.2, rfl, hn, hv, x3 _ _ ha, hq.ex x3, hG, List.mem_map.mpr ⟨p, hm, rfl⟩, (hq.2 p hm).ex x3, fun H4 e4 => ⟨true, rfl, q' H4 e4⟩⟩
      rw [given_nil (fun _ _ => rfl)] at h8
      refine ⟨(by show 0 ≤ sizeLine; decide), fun M4 hM4 => ?_⟩
      have xM4 := exn (o := HO.lst []) hM4
      exact eq_nil0 (xM4 _ _ h8) upd_same (k _ ((t6.trans e8).trans xM4))
/-! ### the state that the draws go through -/
def stK (l D : Addr) (at' : Nat) : List (Key × V) := [(.inr "cells", .ref l), (.inr "lefts", .ref D), (.inr "at", .int (at' : Nat))]
theorem stK_put (l D : Addr) (i : Nat) : putK (stK l D i) (.inr "at") (.int ((i : Int) + 1)) = stK l D (i + 1) := by
  have e : ((i : Int) + 1) = ((i + 1 : Nat) : Int) := by omega
  rw [e]
  rfl
theorem stK_at (l D : Addr) (i : Nat) : valV (stK l D i) (.inr "at") = some (.int (i : Nat)) := rfl
theorem stK_cells (l D : Addr) (i : Nat) : valV (stK l D i) (.inr "cells") = some (.ref l) := rfl
theorem stK_lefts (l D : Addr) (i : Nat) : valV (stK l D i) (.inr "lefts") = some (.ref D) := rfl
structure StAt (H : Hp) (p l D : Addr) (i : Nat) : Prop where
  st : H p = some (.dK (stK l D i))
  ls : ∃ cs lf : List Int, H l = some (.lst (cs.map V.int)) ∧ H D = some (.lst (lf.map V.int)) ∧ lf.length = cs.length ∧ 0 < cs.length
  ne : l ≠ D
theorem StAt.ex {H H' : Hp} {p l D : Addr} {i : Nat} (s : StAt H p l D i) (e : Ex H H') : StAt H' p l D i := by
  obtain ⟨h1, ⟨cs, lf, h2, h3, h4, h5⟩, h6⟩ := s
  exact ⟨e _ _ h1, ⟨cs, lf, e _ _ h2, e _ _ h3, h4, h5⟩, h6⟩
theorem StAt.tup {H : Hp} {p l D : Addr} {i : Nat} (s : StAt H p l D i) {b : Addr} {ys : List V} (h : H b = some (.tup ys)) : b ≠ p ∧ b ≠ D := by
  obtain ⟨h1, ⟨cs, lf, h2, h3, h4, h5⟩, h6⟩ := s
  exact ⟨ne_of h h1 (by intro z; cases z), ne_of h h3 (by intro z; cases z)⟩
theorem StAt.kt {H H' : Hp} {p l D : Addr} {i : Nat} (s : StAt H p l D i) (b : But p D H H') : ∀ c ys, H c = some (.tup ys) → H' c = some (.tup ys) := fun c ys h => b _ _ h (s.tup h).1 (s.tup h).2
def big (z : Int) : Int := if z ≥ 1000000000000000000 then z else 0
theorem given_big (cs : List Int) : given cs.length (fun _ => true) (fun i => V.int (big (cs.getD i 0))) = (cs.map big).map V.int := by
  unfold given
  rw [List.filter_eq_self.mpr (fun _ _ => rfl), List.map_map]
  refine List.ext_getElem (by rw [List.length_map, List.length_map, List.length_range]) fun i h1 h2 => ?_
  have hi : i < cs.length := by rw [List.length_map] at h2; exact h2
  rw [List.getElem_map, List.getElem_map, List.getElem_range]
  have : cs.getD i 0 = cs[i] := by rw [List.getD_eq_getElem?_getD, List.getElem?_eq_getElem hi]; rfl
  rw [this]
  rfl
def spBegin (K : PySem.W.Frag) : Sp := fun vs H Q _ => ∃ (a : Addr) (ns : List Int), vs = [.ref a] ∧ SqL K H a (ns.map V.int) ∧ ns.length ≤ 40000 ∧ ∀ p l D H', Ex H H' → StAt H' p l D 0 → Q (.ref p) H'
theorem ok_law_begin (T : Txt K mg) : Has P w K mg base "_law_begin" ["_law_script"] 1 (spBegin K) := by
  refine T.d_law_begin.ok sc_law_begin (fun vs H Q E h => ?_) (fun f cdv A outer s H vs Q E hr h => ?_)
  · obtain ⟨a, ns, rfl, _⟩ := h
    rfl
  · obtain ⟨a, ns, rfl, ha, hl, k⟩ := h
    have hu64 := r64 hr
    refine ⟨_, (pss_cons (ps_set (i := 1) sc_law_begin.nd rfl (Or.inl rfl) (pe_ifExp (pt_cmpR (op_neD hu64) (pv 0) (pe_lst pa_nil) (nomark _)) (pe_callTy call_list_of (by rfl) T.b_list (by decide +kernel) (pa_cons (pv 0) pa_nil)) (pe_lst (pa_cons pe_int pa_nil))))
      (pss_one (ps_ret (pe_disp (pps_cons pe_str (pv 1) (pps_cons pe_str (pe_lc (own := [("_law_cell", 2)]) (g := gName 2) (by rfl) sc_law_begin.nd (pi_list (pv 1)) (blkOk_by (own := [("_law_cell", 2)]) (N := n_law_begin) (sc := defScope s_law_begin) (by decide +kernel)) (fun _ _ _ _ _ => (pg_name (i := 2) sc_law_begin.nd rfl (Or.inl rfl))) (fun _ _ _ _ _ => pts_nil) (fun _ _ _ _ _ => (pe_ifExp (pt_cmpR op_ge (pv 2) (pe_op op_pow pe_int pe_int) (nomark _)) (pv 2) pe_int))) (pps_cons pe_str pe_int pps_nil))) (by rfl) (by rfl) (fun z => by cases z) (by decide))))), ?_⟩
    refine ⟨_, rfl, (by show 0 ≤ sizeLine; decide), fun M hM => ?_⟩
    have xM := exn (o := HO.lst []) hM
    refine ne_nil ns (ex_l xM ha) upd_same ⟨_, rfl, ?_⟩
    generalize L2.upd H M (.lst []) = H1 at xM ⊢
    -- the state, once the cells stand
    have rest : ∀ (l : Addr) (cs : List Int) (H2 : Hp), Ex H H2 → H2 l = some (.lst (cs.map V.int)) → 0 < cs.length → cs.length ≤ 40000 → ∀ p, H2 p = none → ∀ (D : Addr) (H3 : Hp), Ex (L2.upd H2 p (.dK [])) H3 → H3 D = some (.lst ((cs.map big).map V.int)) → D ≠ l → Q (.ref p) (L2.upd H3 p (.dK (stK l D 0))) := by
      intro l cs H2 e2 h2 hp1 hp2 p hp D H3 e3 h3 hne
      have npl : l ≠ p := ne_of_none h2 hp
      have h3p : H3 p = some (.dK []) := e3 _ _ upd_same
      have npD : D ≠ p := ne_of h3 h3p (by intro z; cases z)
      refine k p l D _ ?_ ⟨upd_same, ⟨cs, cs.map big, ?_, ?_, List.length_map _, hp1⟩, Ne.symm hne⟩
      · have hp0 : H p = none := by
          cases q : H p with
          | none => rfl
          | some o => rw [e2 _ _ q] at hp; cases hp
        exact ex_upd ((e2.trans (exn hp)).trans e3) hp0
      · rw [upd_ne npl]
        exact e3 _ _ (by rw [upd_ne npl]; exact h2)
      · rw [upd_ne npD]
        exact h3
    refine ite2 (fun z => ?_) (fun z => ?_)
    · refine ⟨_, rfl, a, _, rfl, .inl (ex_l xM ha), fun l hl0 => ?_⟩
      have x2 := xM.trans (exn (o := HO.lst (ns.map V.int)) hl0)
      have h2 : L2.upd H1 l (.lst (ns.map V.int)) l = some (.lst (ns.map V.int)) := upd_same
      have hp1 : 0 < ns.length := by
        apply List.length_pos_iff.mpr
        intro q
        subst q
        cases z
      generalize L2.upd H1 l (.lst (ns.map V.int)) = H2 at x2 h2 ⊢
      generalize ns = cs at h2 hp1 hl ⊢
      intro p hp
      have npl : l ≠ p := ne_of_none h2 hp
      have h2p : L2.upd H2 p (.dK []) l = some (.lst (cs.map V.int)) := by rw [upd_ne npl]; exact h2
      have hcl : (cs.map V.int).length = cs.length := List.length_map _
      refine ⟨_, rfl, _, rfl, l, rfl, ⟨_, SqL.of h2p⟩, fun D hD => ?_⟩
      have nDl : D ≠ l := fun z => by rw [z, h2p] at hD; cases hD
      refine lc_ones (walk_list (xs := cs.map V.int)) (fun _ _ _ _ y => y) hD (by rw [hcl]; exact hl) (fun H' e => SqL.of (e _ _ h2p)) (fun _ => rfl) (fun _ => true) (fun i => V.int (big (cs.getD i 0))) (fun _ _ _ _ H3 _ Q' q' => q' H3 (exr _)) ?_ fun H3 e3 h3 => ?_
      · intro i x hi hx _ H5 e5 Q' q'
        obtain ⟨y, hy, rfl⟩ := at_ints hx
        rw [get_ints hy] at q'
        unfold big at q'
        have ep : (10 : Int) ^ (18 : Int).toNat = 1000000000000000000 := by decide
        refine ⟨_, rfl, _, _, rfl, rfl, ⟨by decide, by decide, by decide⟩, _, _, rfl, rfl, _, rfl, ?_⟩
        refine ite2 (fun z => ?_) (fun z => ?_)
        · have z1 : (10 : Int) ^ (18 : Int).toNat ≤ y := of_decide_eq_true z
          rw [if_pos (by rw [← ep]; exact z1)] at q'
          exact ⟨_, rfl, q' H5 (exr _)⟩
        · have z1 : ¬ (10 : Int) ^ (18 : Int).toNat ≤ y := fun q => z (decide_eq_true q)
          rw [if_neg (by rw [← ep]; exact z1)] at q'
          exact q' H5 (exr _)
      · rw [hcl, given_big] at h3
        exact ⟨e3 _ _ upd_same, [(.inr "cells", .ref l), (.inr "lefts", .ref D), (.inr "at", .int 0)], rfl, (by show 3 ≤ 15; decide), rest l cs H2 x2 h2 hp1 hl p hp D H3 e3 h3 nDl⟩
    · refine ⟨(by show 1 ≤ sizeLine; decide), fun l hl0 => ?_⟩
      have x2 := xM.trans (exn (o := HO.lst [V.int 0]) hl0)
      have h2 : L2.upd H1 l (.lst [V.int 0]) l = some (.lst (([0] : List Int).map V.int)) := upd_same
      generalize L2.upd H1 l (.lst [V.int 0]) = H2 at x2 h2 ⊢
      obtain ⟨cs, hcs⟩ : ∃ cs : List Int, cs = [0] := ⟨_, rfl⟩
      have hp1 : 0 < cs.length := by rw [hcs]; decide
      have hl : cs.length ≤ 40000 := by rw [hcs]; decide
      rw [← hcs] at h2
      intro p hp
      have npl : l ≠ p := ne_of_none h2 hp
      have h2p : L2.upd H2 p (.dK []) l = some (.lst (cs.map V.int)) := by rw [upd_ne npl]; exact h2
      have hcl : (cs.map V.int).length = cs.length := List.length_map _
      refine ⟨_, rfl, _, rfl, l, rfl, ⟨_, SqL.of h2p⟩, fun D hD => ?_⟩
      have nDl : D ≠ l := fun z => by rw [z, h2p] at hD; cases hD
      refine lc_ones (walk_list (xs := cs.map V.int)) (fun _ _ _ _ y => y) hD (by rw [hcl]; exact hl) (fun H' e => SqL.of (e _ _ h2p)) (fun _ => rfl) (fun _ => true) (fun i => V.int (big (cs.getD i 0))) (fun _ _ _ _ H3 _ Q' q' => q' H3 (exr _)) ?_ fun H3 e3 h3 => ?_
      · intro i x hi hx _ H5 e5 Q' q'
        obtain ⟨y, hy, rfl⟩ := at_ints hx
        rw [get_ints hy] at q'
        unfold big at q'
        have ep : (10 : Int) ^ (18 : Int).toNat = 1000000000000000000 := by decide
        refine ⟨_, rfl, _, _, rfl, rfl, ⟨by decide, by decide, by decide⟩, _, _, rfl, rfl, _, rfl, ?_⟩
        refine ite2 (fun z => ?_) (fun z => ?_)
        · have z1 : (10 : Int) ^ (18 : Int).toNat ≤ y := of_decide_eq_true z
          rw [if_pos (by rw [← ep]; exact z1)] at q'
          exact ⟨_, rfl, q' H5 (exr _)⟩
        · have z1 : ¬ (10 : Int) ^ (18 : Int).toNat ≤ y := fun q => z (decide_eq_true q)
          rw [if_neg (by rw [← ep]; exact z1)] at q'
          exact q' H5 (exr _)
      · rw [hcl, given_big] at h3
        exact ⟨e3 _ _ upd_same, [(.inr "cells", .ref l), (.inr "lefts", .ref D), (.inr "at", .int 0)], rfl, (by show 3 ≤ 15; decide), rest l cs H2 x2 h2 hp1 hl p hp D H3 e3 h3 nDl⟩
end
end Fa

set_option Elab.async false
set_option linter.all false
set_option maxRecDepth 100000
set_option maxHeartbeats 4000000
namespace Fa
open PySem PySem.Spec PyProof.Rows L2 Evl
theorem But.upd1 {p D : Addr} {H H' : Hp} {o : HO} (x : But p D H H') : But p D H (L2.upd H' p o) := fun c u h k1 k2 => by rw [upd_ne k1]; exact x c u h k1 k2
theorem But.upd_new {p D L : Addr} {G H H' : Hp} {o : HO} (b1 : But p D G H) (hL : H L = none) (b : But p D G H') : But p D G (L2.upd H' L o) := fun c u h k1 k2 => by
  rw [upd_ne (fun z => by have := b1 _ _ h k1 k2; rw [z, hL] at this; cases this)]
  exact b _ _ h k1 k2
theorem But.refl (p D : Addr) (H : Hp) : But p D H H := But.of_ex (exr H)
theorem TreeAt.keep {H H' : Hp} (e : ∀ c ys, H c = some (.tup ys) → H' c = some (.tup ys)) : ∀ {t : Tree} {v : V}, TreeAt H t v → TreeAt H' t v
  | .leaf b, v, h => h
  | .ask i t u, v, ⟨a, x, y, h1, h2, h3, h4⟩ => ⟨a, x, y, h1, e _ _ h2, TreeAt.keep e h3, TreeAt.keep e h4⟩
def wB : Nat → Nat
  | 0 => 1
  | d + 1 => 2 + 2 * wB d
section
variable {P : Program} {w : World} {K : PySem.W.Frag} {mg : Str → Option Value} {base : Heap}
def spDraw : Sp := fun vs H Q _ => ∃ (p l D : Addr) (i m : Nat), vs = [.ref p, .int m] ∧ StAt H p l D i ∧ i < 900000 ∧ 0 < m ∧ m ≤ 1000 ∧ ∀ (r : Int) H', 0 ≤ r → r < m → But p D H H' → StAt H' p l D (i + 1) → Q (.int r) H'
theorem ok_law_draw (T : Txt K mg) : Has P w K mg base "_law_draw" ["_law_state", "_law_limit"] 2 spDraw := by
  have G_law_mixed := ok_law_mixed (P := P) (w := w) (base := base) T
  refine T.d_law_draw.ok sc_law_draw (fun vs H Q E h => ?_) (fun f cdv A outer s H vs Q E hr h => ?_)
  · obtain ⟨p, l, D, i, m, rfl, _⟩ := h
    rfl
  · obtain ⟨p, l, D, i, m, rfl, hS, hi, hm0, hm1, k⟩ := h
    have hu := hu_of hr
    refine ⟨_, (pss_cons (ps_set (i := 2) sc_law_draw.nd rfl (Or.inl rfl) (pe_dget hu (pv 0) pe_str (fun _ _ => rfl)))
      (pss_cons (ps_dput hu (pv 0) pe_str (pe_op op_add (pv 2) pe_int) rfl)
      (pss_cons (ps_set (i := 3) sc_law_draw.nd rfl (Or.inl rfl) (pe_op op_mod (pe_callTy call_int1 (by rfl) T.b_int (by decide +kernel) (pa_cons (pv 2) pa_nil)) (pe_callB call_len_seq (by rfl) T.b_len PySem.boot_len (pa_cons (pe_dget hu (pv 0) pe_str (fun _ _ => rfl)) pa_nil))))
      (pss_cons (ps_set (i := 4) sc_law_draw.nd rfl (Or.inl rfl) (pe_ix ix_list (pe_dget hu (pv 0) pe_str (fun _ _ => rfl)) (pv 3) (fun _ _ => rfl)))
      (pss_cons (ps_if (pt_cmpR op_gt (pv 4) pe_int (nomark _)) (pss_cons (ps_asg (pe_op op_fdiv (pv 4) (pv 1)) (pg_sub (pe_dget hu (pv 0) pe_str (fun _ _ => rfl)) (pv 3) set_list))
      (pss_one (ps_ret (pe_op op_mod (pe_callTy call_int1 (by rfl) T.b_int (by decide +kernel) (pa_cons (pv 4) pa_nil)) (pv 1))))) pss_nil)
      (pss_cons (ps_set (i := 5) sc_law_draw.nd rfl (Or.inl rfl) (pe_has G_law_mixed (hr.mono (by omega)) (pa_cons (pe_has G_law_mixed (hr.mono (by omega)) (pa_cons (pe_ix ix_list (pe_dget hu (pv 0) pe_str (fun _ _ => rfl)) (pv 3) (fun _ _ => rfl)) (pa_cons (pv 2) pa_nil))) (pa_cons (pe_op op_add pe_int (pv 2)) pa_nil))))
      (pss_one (ps_ret (pe_op op_mod (pe_op op_fdiv (pe_callTy call_int1 (by rfl) T.b_int (by decide +kernel) (pa_cons (pe_op op_add (pe_op op_mul (pv 5) pe_int) (pe_has G_law_mixed (hr.mono (by omega)) (pa_cons (pv 5) (pa_cons (pe_op op_add pe_int (pv 2)) pa_nil)))) pa_nil)) pe_int) (pv 1)))))))))), ?_⟩
    obtain ⟨hst, ⟨cs, lf, hl, hD, hlen, hpos⟩, hne⟩ := hS
    refine ⟨_, rfl, p, _, rfl, DGet.k (k := .inr "at") hst, ?_⟩
    refine ⟨_, rfl, _, _, rfl, rfl, _, rfl, p, _, rfl, DPut.k (k := .inr "at") hst (by show 3 < sizeLine; decide), ?_⟩
    rw [stK_put]
    have b1 : But p D H (L2.upd H p (.dK (stK l D (i + 1)))) := (But.refl p D H).upd1
    have hst1 : L2.upd H p (.dK (stK l D (i + 1))) p = some (.dK (stK l D (i + 1))) := upd_same
    have npl : l ≠ p := ne_of hl hst (by intro z; cases z)
    have npD : D ≠ p := ne_of hD hst (by intro z; cases z)
    have hl1 : L2.upd H p (.dK (stK l D (i + 1))) l = some (.lst (cs.map V.int)) := by rw [upd_ne npl]; exact hl
    have hD1 : L2.upd H p (.dK (stK l D (i + 1))) D = some (.lst (lf.map V.int)) := by rw [upd_ne npD]; exact hD
    generalize L2.upd H p (.dK (stK l D (i + 1))) = H1 at b1 hst1 hl1 hD1 ⊢
    have S1 : StAt H1 p l D (i + 1) := ⟨hst1, ⟨cs, lf, hl1, hD1, hlen, hpos⟩, hne⟩
    have hcl : (cs.map V.int).length = cs.length := List.length_map _
    refine ⟨_, rfl, .inl ⟨_, rfl, _, rfl, p, _, rfl, DGet.k (k := .inr "cells") hst1, l, _, rfl, .inl (SqL.of hl1), _, _, rfl, rfl, ?_, ?_⟩⟩
    · show (0 : Int) < (((cs.map V.int).length : Nat) : Int)
      rw [hcl]
      omega
    have hj : i % cs.length < cs.length := Nat.mod_lt _ hpos
    have ej : ((i : Nat) : Int) % (((cs.map V.int).length : Nat) : Int) = ((i % cs.length : Nat) : Int) := by
      rw [hcl]
      exact (Int.natCast_emod i cs.length).symm
    dsimp only
    rw [ej]
    generalize i % cs.length = j at hj ⊢
    have hat : lf[j]? = some (lf.getD j 0) := by
      rw [List.getD_eq_getElem?_getD, List.getElem?_eq_getElem (by omega)]
      rfl
    have hct : cs[j]? = some (cs.getD j 0) := by
      rw [List.getD_eq_getElem?_getD, List.getElem?_eq_getElem hj]
      rfl
    refine ⟨_, rfl, p, _, rfl, DGet.k (k := .inr "lefts") hst1, _, rfl, D, _, _, _, rfl, rfl, SqL.of hD1, atI_nat (ints_at hat), ?_⟩
    generalize lf.getD j 0 = x
    refine ⟨_, rfl, _, _, rfl, rfl, _, rfl, ?_⟩
    have hmi : (0 : Int) < (m : Int) := by omega
    refine ite2 (fun z => ?_) (fun z => ?_)
    · refine ⟨_, rfl, _, rfl, _, _, rfl, rfl, ⟨hmi, by omega⟩, ?_⟩
      refine ⟨_, rfl, p, _, rfl, DGet.k (k := .inr "lefts") hst1, _, rfl, D, _, _, j, rfl, rfl, hD1, ?_, ?_⟩
      · rw [List.length_map]
        exact ixN_nat (by omega)
      have b2 : But p D H (L2.upd H1 D (.lst ((lf.map V.int).set j (V.int (x / (m : Int)))))) := b1.upd2
      have S2 : StAt (L2.upd H1 D (.lst ((lf.map V.int).set j (V.int (x / (m : Int)))))) p l D (i + 1) := ⟨by rw [upd_ne (Ne.symm npD)]; exact hst1, ⟨cs, lf.set j (x / (m : Int)), by rw [upd_ne hne]; exact hl1, by rw [upd_same, List.map_set], by rw [List.length_set]; exact hlen, hpos⟩, hne⟩
      exact ⟨_, rfl, .inl ⟨_, rfl, _, rfl, _, _, rfl, rfl, hmi, k _ _ (Int.emod_nonneg _ (by omega)) (Int.emod_lt_of_pos _ hmi) b2 S2⟩⟩
    · refine ⟨_, rfl, p, _, rfl, DGet.k (k := .inr "cells") hst1, _, rfl, l, _, _, _, rfl, rfl, SqL.of hl1, atI_nat (ints_at hct), ?_⟩
      refine ⟨_, rfl, _, _, rfl, by omega, by omega, fun r1 H2 g0 g1 e2 => ?_⟩
      refine ⟨_, rfl, _, _, rfl, rfl, _, _, rfl, by omega, by omega, fun r2 H3 g2 g3 e3 => ?_⟩
      refine ⟨_, rfl, _, _, rfl, rfl, .inr ⟨by decide, by decide⟩, _, rfl, _, rfl, _, _, rfl, rfl, _, _, rfl, by omega, by omega, fun r3 H4 g4 g5 e4 => ?_⟩
      refine ⟨_, _, rfl, rfl, .inl ⟨_, rfl, _, _, rfl, rfl, ⟨by decide, by decide⟩, _, rfl, _, _, rfl, rfl, hmi, ?_⟩⟩
      have e5 := (e2.trans e3).trans e4
      exact k _ _ (Int.emod_nonneg _ (by omega)) (Int.emod_lt_of_pos _ hmi) (b1.trans (But.of_ex e5)) (S1.ex e5)
def spWorths : Sp := fun vs H Q _ => ∃ (p l D : Addr) (i n : Nat), vs = [.ref p, .int n] ∧ StAt H p l D i ∧ i < 800000 ∧ n ≤ 8 ∧ ∀ q ns H', But p D H H' → StAt H' p l D (i + 2 ^ n) → OkV n ns → H' q = some (.tup (ns.map V.int)) → Q (.ref q) H'
theorem ok_law_worths (T : Txt K mg) : Has P w K mg base "_law_worths" ["_law_state", "_law_count"] 3 spWorths := by
  have G_law_power := ok_law_power (P := P) (w := w) (base := base) T
  have G_law_draw := ok_law_draw (P := P) (w := w) (base := base) T
  refine T.d_law_worths.ok sc_law_worths (fun vs H Q E h => ?_) (fun f cdv A outer s H vs Q E hr h => ?_)
  · obtain ⟨p, l, D, i, n, rfl, _⟩ := h
    rfl
  · obtain ⟨p, l, D, i, n, rfl, hS, hi, hn, k⟩ := h
    refine ⟨_, (pss_one (ps_ret (pe_callTy call_tuple_of (by rfl) T.b_tuple (by decide +kernel) (pa_cons (pe_lc (own := [("_law_line", 2)]) (g := gName 2) (by rfl) sc_law_worths.nd (pi_range1 (by rfl) T.b_range (pa_cons (pe_has G_law_power (hr.mono (by omega)) (pa_cons (pv 1) pa_nil)) pa_nil)) (blkOk_by (own := [("_law_line", 2)]) (N := n_law_worths) (sc := defScope s_law_worths) (by decide +kernel)) (fun _ _ _ _ _ => (pg_name (i := 2) sc_law_worths.nd rfl (Or.inl rfl))) (fun _ _ _ _ _ => pts_nil) (fun _ _ _ _ _ => (pe_has G_law_draw (hr.mono (by omega)) (pa_cons (pv 0) (pa_cons pe_int pa_nil))))) pa_nil)))), ?_⟩
    have hp8 := pow8 hn
    refine ⟨_, rfl, n, rfl, hn, fun H1 e1 => ⟨((2 ^ n : Nat) : Int), rfl, Int.le_trans (by decide) (Int.natCast_nonneg _), Int.lt_of_le_of_lt (Int.ofNat_le.mpr hp8) (by decide), fun L hL => ?_⟩⟩
    have xL := exn (o := HO.lst []) hL
    have S1 := hS.ex e1
    refine lc_it (walk_range (lo := 0) (n := ((2 ^ n : Nat) : Int).toNat)) (fun j H' => ∃ acc : List Int, But p D H1 H' ∧ StAt H' p l D (i + j) ∧ H' L = some (.lst (acc.map V.int)) ∧ acc.length = j ∧ ∀ z ∈ acc, z = 0 ∨ z = 1) ?_ (fun _ _ _ _ => trivial) ?_ ?_
    · exact ⟨[], But.of_ex xL, S1.ex xL, upd_same, rfl, fun z h => by cases h⟩
    · rintro j x H2 H3 hj ⟨acc, b2, S2, hL2, hal, h01⟩ ⟨rfl, hx⟩
      have hj' : j < 2 ^ n := hj
      refine ⟨rfl, ?_⟩
      unfold tYes
      refine iteT ?_
      refine ⟨_, rfl, p, l, D, i + j, 2, rfl, S2, by omega, by decide, by decide, fun r H4 r0 r1 b4 S4 => ?_⟩
      have npL : L ≠ p := ne_of hL2 S2.st (by intro z; cases z)
      have nDL : L ≠ D := fun z => by
        obtain ⟨cs, lf, _, q, _⟩ := S1.ls
        rw [z, q] at hL
        cases hL
      have nlL : l ≠ L := fun z => by
        obtain ⟨cs, lf, q, _⟩ := S1.ls
        rw [← z, q] at hL
        cases hL
      refine ⟨_, b4 _ _ hL2 npL nDL, ?_, acc ++ [r], But.upd_new (But.refl p D H1) hL (b2.trans b4), ?_, ?_, ?_, ?_⟩
      · rw [List.length_map, sizeLine_eq]
        omega
      · obtain ⟨cs, lf, q1, q2, q3, q4⟩ := S4.ls
        exact ⟨by rw [upd_ne (Ne.symm npL)]; exact S4.st, ⟨cs, lf, by rw [upd_ne nlL]; exact q1, by rw [upd_ne (Ne.symm nDL)]; exact q2, q3, q4⟩, S4.ne⟩
      · rw [upd_same, List.map_append]
        rfl
      · rw [List.length_append, hal]
        rfl
      · intro z hz
        rcases List.mem_append.mp hz with h | h
        · exact h01 z h
        · rw [List.mem_singleton.mp h]
          omega
    · rintro H2 ⟨acc, b2, S2, hL2, hal, h01⟩
      have hal' : acc.length = 2 ^ n := hal
      refine ⟨L, _, rfl, .inl ⟨SqL.of hL2, fun q hq => ?_⟩⟩
      have xq := exn (o := HO.tup (acc.map V.int)) hq
      exact k q acc _ (((But.of_ex e1).trans b2).trans (But.of_ex xq)) (S2.ex xq) ⟨hal', h01⟩ upd_same
def spWood (m : Nat) : Sp := fun vs H Q _ => ∃ (p l D : Addr) (i n d : Nat), vs = [.ref p, .int n, .int d] ∧ d < m ∧ StAt H p l D i ∧ i + wB d < 800000 ∧ 1 ≤ n ∧ n ≤ 8 ∧ ∀ v t i' H', But p D H H' → StAt H' p l D i' → i' ≤ i + wB d → TreeAt H' t v → OkT n t → ht t ≤ d → Q v H'
theorem ok_law_wood (T : Txt K mg) : ∀ m, Has P w K mg base "_law_wood" ["_law_state", "_law_count", "_law_deep"] (3 + m) (spWood m)
  | 0 => T.d_law_wood.never _ fun vs H Q E ⟨_, _, _, _, _, _, _, h, _⟩ => absurd h (Nat.not_lt_zero _)
  | m + 1 => by
    have G_law_wood := ok_law_wood T m
    have G_law_draw := ok_law_draw (P := P) (w := w) (base := base) T
    refine T.d_law_wood.ok sc_law_wood (fun vs H Q E h => ?_) (fun f cdv A outer s H vs Q E hr h => ?_)
    · obtain ⟨p, l, D, i, n, d, rfl, _⟩ := h
      rfl
    · obtain ⟨p, l, D, i, n, d, rfl, hd, hS, hi, h1, hn, k⟩ := h
      change Room (3 + m) _ at hr
      refine ⟨_, (pss_cons (ps_if (PW.pt (pw_or (pt_cmpR op_eq (pv 2) pe_int (nomark _)) (pw_or1 (pt_cmpR op_eq (pe_has G_law_draw (hr.mono (by omega)) (pa_cons (pv 0) (pa_cons pe_int pa_nil))) pe_int (nomark _))))) (pss_one (ps_ret (pe_has G_law_draw (hr.mono (by omega)) (pa_cons (pv 0) (pa_cons pe_int pa_nil))))) pss_nil)
      (pss_one (ps_ret (pe_tup (pa_cons pe_str (pa_cons (pe_has G_law_draw (hr.mono (by omega)) (pa_cons (pv 0) (pa_cons (pv 1) pa_nil))) (pa_cons (pe_has G_law_wood (hr.mono (by omega)) (pa_cons (pv 0) (pa_cons (pv 1) (pa_cons (pe_op op_sub (pv 2) pe_int) pa_nil)))) (pa_cons (pe_has G_law_wood (hr.mono (by omega)) (pa_cons (pv 0) (pa_cons (pv 1) (pa_cons (pe_op op_sub (pv 2) pe_int) pa_nil)))) pa_nil)))))))), ?_⟩
      refine ⟨_, rfl, rfl, _, rfl, ?_⟩
      refine ite2 (fun z => ?_) (fun z => ?_)
      · have d0 : d = 0 := by have := V.int.inj (of_decide_eq_true z); omega
        subst d0
        have e0 : wB 0 = 1 := rfl
        refine ⟨_, rfl, p, l, D, i, 2, rfl, hS, by omega, by decide, by decide, fun r H1 r0 r1 b1 S1 => ?_⟩
        exact k _ (.leaf r) (i + 1) H1 b1 S1 (Nat.le_refl _) rfl (show r = 0 ∨ r = 1 by omega) (Nat.le_refl _)
      · obtain ⟨d', rfl⟩ : ∃ d', d = d' + 1 := by
          cases d with
          | zero => exact absurd rfl z
          | succ d' => exact ⟨d', rfl⟩
        have eB : wB (d' + 1) = 2 + 2 * wB d' := rfl
        rw [eB] at hi
        refine ⟨_, rfl, p, l, D, i, 4, rfl, hS, by omega, by decide, by decide, fun r H1 r0 r1 b1 S1 => ?_⟩
        refine ⟨rfl, _, rfl, ?_⟩
        refine ite2 (fun z => ?_) (fun z => ?_)
        · refine ⟨_, rfl, p, l, D, i + 1, 2, rfl, S1, by omega, by decide, by decide, fun r H2 r0 r1 b2 S2 => ?_⟩
          exact k _ (.leaf r) (i + 1 + 1) H2 (b1.trans b2) S2 (by omega) rfl (show r = 0 ∨ r = 1 by omega) (Nat.zero_le _)
        · refine ⟨_, rfl, _, rfl, p, l, D, i + 1, n, rfl, S1, by omega, by omega, by omega, fun r2 H2 r0 r1 b2 S2 => ?_⟩
          obtain ⟨j, rfl⟩ : ∃ j : Nat, r2 = (j : Int) := ⟨r2.toNat, by omega⟩
          have ed : (((d' + 1 : Nat) : Int) - 1) = ((d' : Nat) : Int) := by omega
          refine ⟨_, rfl, _, rfl, _, rfl, _, _, rfl, rfl, p, l, D, i + 1 + 1, n, d', by show [V.ref p, V.int (n : Nat), V.int (((d' + 1 : Nat) : Int) - 1)] = _; rw [ed], by omega, S2, by omega, h1, hn, fun v3 t3 i3 H3 b3 S3 hi3 ht3 ho3 hh3 => ?_⟩
          refine ⟨_, rfl, _, rfl, _, rfl, _, _, rfl, rfl, p, l, D, i3, n, d', by show [V.ref p, V.int (n : Nat), V.int (((d' + 1 : Nat) : Int) - 1)] = _; rw [ed], by omega, S3, by omega, h1, hn, fun v4 t4 i4 H4 b4 S4 hi4 ht4 ho4 hh4 => ?_⟩
          refine ⟨(by show 4 ≤ sizeLine; decide), fun q hq => ?_⟩
          have xq := exn (o := HO.tup [V.str "ask", V.int (j : Nat), v3, v4]) hq
          refine k (.ref q) (.ask j t3 t4) i4 _ ((((b1.trans b2).trans b3).trans b4).trans (But.of_ex xq)) (S4.ex xq) (by omega) ⟨q, v3, v4, rfl, upd_same, (ht3.keep (S3.kt b4)).ex xq, ht4.ex xq⟩ ⟨by omega, ho3, ho4⟩ ?_
          show 1 + max (Fa.ht t3) (Fa.ht t4) ≤ d' + 1
          omega
def spFewL : Sp := fun vs H Q _ => ∃ (p l D : Addr) (i n : Nat), vs = [.ref p, .int n] ∧ StAt H p l D i ∧ i < 700000 ∧ 1 ≤ n ∧ n ≤ 8 ∧ ∀ q ns i' H', But p D H H' → StAt H' p l D i' → i' ≤ i + 22 → OkV n ns → H' q = some (.tup (ns.map V.int)) → Q (.ref q) H'
theorem ok_law_few (T : Txt K mg) : Has P w K mg base "_law_few" ["_law_state", "_law_count"] 8 spFewL := by
  have G_law_power := ok_law_power (P := P) (w := w) (base := base) T
  have G_law_wood := ok_law_wood (P := P) (w := w) (base := base) T 4
  have G_law_walk := ok_law_walk (P := P) (w := w) (base := base) T
  refine T.d_law_few.ok sc_law_few (fun vs H Q E h => ?_) (fun f cdv A outer s H vs Q E hr h => ?_)
  · obtain ⟨p, l, D, i, n, rfl, _⟩ := h
    rfl
  · obtain ⟨p, l, D, i, n, rfl, hS, hi, h1, hn, k⟩ := h
    refine ⟨_, (pss_cons (ps_set (i := 2) sc_law_few.nd rfl (Or.inr rfl) (pe_has G_law_wood (hr.mono (by omega)) (pa_cons (pv 0) (pa_cons (pv 1) (pa_cons pe_int pa_nil)))))
      (pss_one (ps_ret (pe_callTy call_tuple_of (by rfl) T.b_tuple (by decide +kernel) (pa_cons (pe_lc (own := [("_law_line", 3)]) (g := gName 3) (by rfl) sc_law_few.nd (pi_range1 (by rfl) T.b_range (pa_cons (pe_has G_law_power (hr.mono (by omega)) (pa_cons (pv 1) pa_nil)) pa_nil)) (blkOk_by (own := [("_law_line", 3)]) (N := n_law_few) (sc := defScope s_law_few) (by decide +kernel)) (fun _ _ _ _ _ => (pg_name (i := 3) sc_law_few.nd rfl (Or.inl rfl))) (fun _ _ _ _ _ => pts_nil) (fun _ _ _ _ _ => (pe_ix (ix_tupK (K := K) rfl) (pe_has G_law_walk (hr.mono (by omega)) (pa_cons (pv 2) (pa_cons (pv 3) pa_nil))) pe_int (fun _ _ => rfl)))) pa_nil))))), ?_⟩
    have hp8 := pow8 hn
    have eB : wB 3 = 22 := rfl
    refine ⟨_, rfl, _, rfl, p, l, D, i, n, 3, rfl, by decide, hS, by omega, h1, hn, fun v t i1 H0 b0 S0 hi1 ht ho hh => ?_⟩
    refine ⟨_, rfl, n, rfl, hn, fun H1 e1 => ⟨((2 ^ n : Nat) : Int), rfl, Int.le_trans (by decide) (Int.natCast_nonneg _), Int.lt_of_le_of_lt (Int.ofNat_le.mpr hp8) (by decide), fun L hL => ?_⟩⟩
    refine lc_ones (walk_range (lo := 0) (n := ((2 ^ n : Nat) : Int).toNat)) (fun _ _ _ _ y => y) hL (by show 2 ^ n ≤ 40000; omega) (fun _ _ => trivial) (fun _ => rfl) (fun _ => true) (fun r => V.int (ev t r)) (fun _ _ _ _ H3 _ Q' q' => q' H3 (exr _)) ?_ fun H2 e2 h2 => ?_
    · intro r x hi hx _ H3 e3 Q' q'
      cases rng0 hx
      exact ⟨_, rfl, _, rfl, v, r, n, t, rfl, ht.ex (e1.trans e3), ho, hn, by omega, fun p l H4 e4 hp => ⟨_, _, _, _, rfl, rfl, SqT.of hp, rfl, q' H4 e4⟩⟩
    · have el : given (((2 ^ n : Nat) : Int).toNat) (fun _ => true) (fun r => V.int (ev t r)) = ((List.range (2 ^ n)).map fun r => ev t r).map V.int := by
        unfold given
        rw [List.filter_eq_self.mpr (fun _ _ => rfl), List.map_map]
        rfl
      rw [el] at h2
      refine ⟨L, _, rfl, .inl ⟨SqL.of h2, fun q hq => ?_⟩⟩
      have xq := exn (o := HO.tup (((List.range (2 ^ n)).map fun r => ev t r).map V.int)) hq
      have x3 := (e1.trans e2).trans xq
      refine k q ((List.range (2 ^ n)).map fun r => ev t r) i1 _ (b0.trans (But.of_ex x3)) (S0.ex x3) (by omega) ⟨by rw [List.length_map, List.length_range], fun z hz => ?_⟩ upd_same
      obtain ⟨r, _, rfl⟩ := List.mem_map.mp hz
      exact ev_01 ho
end
end Fa

set_option Elab.async false
set_option linter.all false
set_option maxRecDepth 100000
set_option maxHeartbeats 4000000
namespace Fa
open PySem PySem.Spec PyProof.Rows L2 Evl
/-! ### a def called by keywords alone, which stand in the order against its parameters' -/
theorem vals_rev : ∀ {xs : List V} {us : List Value}, Vals xs us → Vals xs.reverse us.reverse
  | _, _, .nil => .nil
  | _, _, .cons r t => by
    rw [List.reverse_cons, List.reverse_cons]
    exact Vals.append (vals_rev t) (.cons r .nil)
def gR (us ws : List Value) : List Value := match us with | [] => ws.reverse | _ :: _ => []
def gV (vs zs : List V) : List V := match vs with | [] => zs.reverse | _ :: _ => []
structure HasK (P : Program) (w : World) (K : PySem.W.Frag) (mg : Str → Option Value) (base : Heap) (x : Str) (ps : List Str) (k : Nat) (sp : Sp) (ks : List Str) : Prop where
  ex : ∃ (f : Addr) (fd : FuncData), FnOk P w K mg base CX0 k f fd ps sp ∧ mg x = some (.ref f) ∧ PySem.W.keepIn K (.ref f) = true ∧ KBinds K fd ps ks gR gV
section
variable {P : Program} {w : World} {K : PySem.W.Frag} {mg : Str → Option Value} {base : Heap} {x : Str} {ps ks : List Str} {k j : Nat} {sp : Sp} {st : Stmt} {N : List Str}
theorem HasK.mono (F : HasK P w K mg base x ps k sp ks) (h : k ≤ j) : HasK P w K mg base x ps j sp ks := let ⟨f, fd, a, b, c, d⟩ := F.ex; ⟨f, fd, a.mono h, b, c, d⟩
theorem DefAt.okK {p0 : Str} {pr : List Str} (D : DefAt K mg x st (p0 :: pr)) (S : FnScope N (p0 :: pr) (defScope st))
    (hk : ∀ (kV doc pm : Value) (an : Option Addr) (cdv ct : Value) (ws : List Value), ws.length = (p0 :: pr).length → bindArgs (PySem.W.fnOf x x (defArgs st) (defBody st) (defScope st) .none kV doc pm an cdv ct) ⟨[], ks.zip ws⟩ = pure ((p0 :: pr).zip ws.reverse))
    (len : ∀ vs H Q E, sp vs H Q E → vs.length = (p0 :: pr).length)
    (hbody : ∀ (f : Addr) (cdv : Value) (A : Around) (outer : List Env) (s : Shared) (H : Hp) (vs : List V) (Q : VK) (E : XK), Room k (A.deeper (envOfC x (defScope st) s.heap.objs.size f cdv)) → sp vs H Q E →
      ∃ t, PSs (cxOf CX0 P w K mg base N x (defScope st) f cdv A outer s H E).nox (defBody st) t ∧ t { nx := fun _ H' => Q .non H', rt := Q } (start N vs) H) : HasK P w K mg base x (p0 :: pr) (k + 1) sp ks := by
  obtain ⟨f, fd, F, m, b⟩ := D.ex
  have G := F.ok S len (hbody f) (P := P) (w := w) (mg := mg) (base := base)
  refine ⟨f, fd, G, m, F.kp, ?_⟩
  obtain ⟨oc, od, kV, doc, pm, an, cdv, ct, osl, rfl, lk, hcd⟩ := F.ex
  refine ⟨fun s us ws _ hl => ?_, fun {vs us zs ws} r rz => ?_⟩
  · cases us with
    | nil => exact .of_eq (hk kV doc pm an cdv ct ws (by rw [← hl]; exact (List.length_reverse).symm))
    | cons u us => cases hl
  · cases r with
    | nil => exact vals_rev rz
    | cons _ _ => exact .nil
end
section
variable {X : Cx} {x : Str} {p pos : Pos} {ps ks : List Str} {k : Nat} {sp : Sp} {kws : List Keyword} {tk : TA}
theorem pe_hasK (F : HasK X.prog X.w X.K X.mg X.base x ps k sp ks) (hr : Room k X.A) (hkw : PK X kws tk) (hg : Gl X x := by rfl) (hall : (backToKw pos (keywordEach kws X.env)).all (·.1.isSome) = true := by rfl) (hks : (backToKw pos (keywordEach kws X.env)).filterMap (·.1) = ks := by rfl)
    (hdb : (x == ("__debug__" : Str)) = false := by decide) (hpl : ((backTo pos (starEach [] X.env)).any (·.1) || (backToKw pos (keywordEach kws X.env)).any (·.1.isNone)) = false := by rfl) :
    PE X (.Call (.Name x p) [] kws pos) (tCallK sp gV E0 tNil tk) := by
  obtain ⟨f, fd, G, m, kp, b⟩ := F.ex
  refine ⟨fun pins s σ H Q I h => ?_⟩
  refine wpAny_Call_Name_kw (ld_glob I hg m ?_ hdb)
  refine PySem.W.callWith_KW0 (h₀ := X.base) I.ok.mod.kin kp hall (thn (hkw.run pos pins s σ H _ I h) fun ws s2 ⟨zs, H2, I2, rz, q2⟩ => ⟨I2.kIn, ?_⟩) hpl
  rw [hks]
  exact run_fnk (us := []) (vs := []) G hr b pass0 I2 .nil rz q2
end
section
variable {P : Program} {w : World} {K : PySem.W.Frag} {mg : Str → Option Value} {base : Heap}
theorem okK_least_asks (T : Txt K mg) : HasK P w K mg base "least_asks" ["many", "values"] 21 spLeast ["values", "many"] := by
  have G_check_few := ok_check_few (P := P) (w := w) (base := base) T
  have G_least_so := ok_least_so (P := P) (w := w) (base := base) T
  refine T.d_least_asks.okK sc_least_asks (fun _ _ _ _ _ _ ws hl => match ws, hl with | [_, _], _ => rfl) (fun vs H Q E h => ?_) (fun f cdv A outer s H vs Q E hr h => ?_)
  · obtain ⟨a, n, ns, rfl, _⟩ := h
    rfl
  · obtain ⟨a, n, ns, rfl, h1, h4, hv, ha, k⟩ := h
    refine ⟨_, (pss_cons (ps_expr (pe_has G_check_few (hr.mono (by omega)) (pa_cons (pv 0) (pa_cons (pv 1) pa_nil))))
      (pss_one (ps_ret (pe_has G_least_so (hr.mono (by omega)) (pa_cons (pv 0) (pa_cons (pv 1) pa_nil)))))), ?_⟩
    refine ⟨_, rfl, _, rfl, a, n, ns, rfl, h1, by omega, hv, ha, fun H1 e1 => ?_⟩
    refine ⟨_, rfl, _, rfl, a, n, ns, rfl, h1, h4, hv, e1 _ _ ha, fun p H2 e2 hp => ?_⟩
    exact k p H2 (e1.trans e2) hp
theorem okK_is_cube_book (T : Txt K mg) : HasK P w K mg base "is_cube_book" ["many", "values", "asks", "value"] 16 spCubeBook ["value", "asks", "values", "many"] := by
  have G_check_many := ok_check_many (P := P) (w := w) (base := base) T
  have G_check_values := ok_check_values (P := P) (w := w) (base := base) T
  have G_is_book_so := ok_is_book_so (P := P) (w := w) (base := base) T
  refine T.d_is_cube_book.okK sc_is_cube_book (fun _ _ _ _ _ _ ws hl => match ws, hl with | [_, _, _, _], _ => rfl) (fun vs H Q E h => ?_) (fun f cdv A outer s H vs Q E hr h => ?_)
  · obtain ⟨a, q, n, m, ns, ls, rfl, _⟩ := h
    rfl
  · obtain ⟨a, q, n, m, ns, ls, rfl, h1, hn, hv, ha, hq, hG, hm, k⟩ := h
    refine ⟨_, (pss_cons (ps_expr (pe_has G_check_values (hr.mono (by omega)) (pa_cons (pe_has G_check_many (hr.mono (by omega)) (pa_cons (pv 0) pa_nil)) (pa_cons (pv 1) pa_nil))))
      (pss_cons (ps_if (PW.pt (pw_or (pt_not (pt_val (pe_callB call_isi (by rfl) T.b_isinstance (by decide +kernel) (pa_cons (pv 2) (pa_cons (pe_bltn (v := .ty "int") (by rfl) T.b_int (by decide +kernel) rfl) pa_nil))))) (pw_or (pt_val (pe_callB call_isi (by rfl) T.b_isinstance (by decide +kernel) (pa_cons (pv 2) (pa_cons (pe_bltn (v := .ty "bool") (by rfl) T.b_bool (by decide +kernel) rfl) pa_nil)))) (pw_or1 (pt_cmpR op_lt (pv 2) pe_int (nomark _)))))) (pss_one ps_never) pss_nil)
      (pss_cons (ps_if (pt_cmpR op_eq (pv 2) pe_int (nomark _)) (pss_one (ps_ret (pe_and (pe_callB call_isi (by rfl) T.b_isinstance (by decide +kernel) (pa_cons (pv 3) (pa_cons (pe_bltn (v := .ty "tuple") (by rfl) T.b_tuple (by decide +kernel) rfl) pa_nil))) (pe_one (pe_cmpR op_eq (pe_callB call_len_seq (by rfl) T.b_len PySem.boot_len (pa_cons (pv 3) pa_nil)) pe_int (nomark _)))))) pss_nil)
      (pss_cons (ps_if (pt_not (pt_val (pe_has G_is_book_so (hr.mono (by omega)) (pa_cons (pv 0) (pa_cons (pv 1) (pa_cons (pv 3) pa_nil)))))) (pss_one (ps_ret pe_bl)) pss_nil)
      (pss_one (ps_ret (pe_cmpR op_gt (pe_callB call_len_seq (by rfl) T.b_len PySem.boot_len (pa_cons (pe_lc (own := [("entry", 4)]) (g := gName 4) (by rfl) sc_is_cube_book.nd (pi_tup (pv 3)) (blkOk_by (own := [("entry", 4)]) (N := n_is_cube_book) (sc := defScope s_is_cube_book) (by decide +kernel)) (fun _ _ _ _ _ => (pg_name (i := 4) sc_is_cube_book.nd rfl (Or.inl rfl))) (fun _ _ _ _ _ => (pts_one (pt_cmpR op_eq (pe_ix (ix_tupK (K := K) rfl) (pv 4) pe_int (fun _ _ => rfl)) (pe_op op_sub (pv 2) pe_int) (nomark _)))) (fun _ _ _ _ _ => pe_int)) pa_nil)) pe_int (nomark _)))))))), ?_⟩
    have hlen : (ls.map fun p : Addr × Ent => V.ref p.1).length = ls.length := List.length_map _
    have hll : ls.length ≤ 324 := by have := hG.len; rw [List.length_map] at this; exact this
    refine ⟨_, rfl, n, rfl, h1, by omega, fun H1 e1 => ?_⟩
    refine ⟨_, rfl, n, a, ns, rfl, h1, by omega, hv, e1 _ _ ha, fun H2 e2 => ?_⟩
    have x2 := e1.trans e2
    refine ⟨_, rfl, _, _, _, _, true, rfl, .ty _, .base (.int _), kit_ty (by decide +kernel), true, rfl, iteF ?_⟩
    refine ⟨_, rfl, _, _, _, _, false, rfl, .ty _, .base (.int _), kit_ty (by decide +kernel), false, rfl, iteF ?_⟩
    refine ⟨_, rfl, _, _, rfl, rfl, _, rfl, ?_⟩
    refine ite2 (fun z => ?_) (fun z => ?_)
    · have := of_decide_eq_true z
      omega
    refine ⟨_, rfl, rfl, _, rfl, ?_⟩
    refine ite2 (fun z => ?_) (fun z => ?_)
    · have m0 : m = 0 := by have := V.int.inj (of_decide_eq_true z); omega
      have d0 : D ns (root n) = 0 := by omega
      have l0 : ls = [] := by
        cases ls with
        | nil => rfl
        | cons p l =>
          obtain ⟨i0, _, _, iR⟩ := hG.it p.2 List.mem_cons_self
          omega
      subst l0
      rw [decide_eq_true (by omega : m = D ns (root n))] at k
      refine ⟨_, rfl, _, _, _, _, true, rfl, .ty _, .base (.tup (x2 _ _ hq.1)), kit_ty (by decide +kernel), true, rfl, iteT ?_⟩
      exact ⟨_, rfl, q, _, rfl, .inr (SqT.of (x2 _ _ hq.1)), rfl, k H2 x2⟩
    · have m0 : m ≠ 0 := fun q => by
        subst q
        exact z rfl
      refine ⟨_, rfl, _, rfl, _, rfl, a, q, n, ns, ls, rfl, hn, hv, x2 _ _ ha, hq.ex x2, hG, fun H3 e3 => ⟨true, rfl, iteF ?_⟩⟩
      have x3 := x2.trans e3
      have hq3 := hq.ex x3
      refine ⟨_, rfl, q, rfl, ⟨_, SqT.of hq3.1⟩, fun L hL => ?_⟩
      refine lc_ones (walk_tup (xs := ls.map fun p : Addr × Ent => V.ref p.1)) (fun _ _ _ _ y => y) hL (by rw [hlen]; omega) (fun H' e2 => SqT.of (e2 _ _ hq3.1)) (fun _ => rfl) (fun i => decide (((ls.getD i (0, (0, []))).2.1) = (m : Int) - 1)) (fun _ => V.int 1) ?_ (fun i x hi hx hf => ev_c) fun H' e2 h => ?_
      · intro i x hi hx H5 e5 Q' q'
        obtain ⟨p, hp, rfl⟩ := at_refs hx
        have hmm := List.mem_of_getElem? hp
        obtain ⟨cc, hr1, hr2⟩ := (hq3.2 p hmm).ex e5
        refine ⟨_, rfl, _, _, _, _, rfl, rfl, SqT.of hr1, rfl, _, rfl, _, _, rfl, rfl, rfl, _, rfl, ?_⟩
        have ep : (ls.getD i (0, (0, []))) = p := by rw [List.getD_eq_getElem?_getD, hp]; rfl
        rw [ep] at q'
        have ed : decide (V.int p.2.1 = V.int ((m : Int) - 1)) = decide (p.2.1 = (m : Int) - 1) := by simp
        rw [ed]
        exact q' H5 (exr _)
      · refine ⟨L, _, rfl, .inl (SqL.of h), _, _, rfl, rfl, ?_⟩
        have x9 := x3.trans e2
        rw [hlen]
        rcases hm with hm | hm
        · rw [decide_eq_true hm] at k
          have hpos : 0 < D ns (root n) := by omega
          obtain ⟨p, hp, ep⟩ := List.mem_map.mp (hG.rt hpos)
          obtain ⟨i, hi, ei⟩ := List.getElem_of_mem hp
          have hgd : (ls.getD i (0, (0, []))) = p := by rw [List.getD_eq_getElem?_getD, List.getElem?_eq_getElem hi, ei]; rfl
          have hne : given ls.length (fun i => decide (((ls.getD i (0, (0, []))).2.1) = (m : Int) - 1)) (fun _ => V.int 1) ≠ [] := given_ne hi (by rw [hgd, ep, hm]; exact decide_eq_true rfl)
          have hpl := List.length_pos_iff.mpr hne
          show Q (.bl (decide ((0 : Int) < ((_ : Nat) : Int)))) H'
          rw [decide_eq_true (by omega)]
          exact k H' x9
        · rw [decide_eq_false (by omega)] at k
          rw [given_nil (fun i hi => ?_)]
          · exact k H' x9
          · refine decide_eq_false fun q => ?_
            have hp : ls.getD i (0, (0, [])) ∈ ls := by
              rw [List.getD_eq_getElem?_getD, List.getElem?_eq_getElem hi]
              exact List.getElem_mem hi
            obtain ⟨i0, _, _, iR⟩ := hG.it _ (List.mem_map.mpr ⟨_, hp, rfl⟩)
            omega

theorem rep_both {K : PySem.W.Frag} {H : Hp} {Q : VK} {l : Addr} {n : Nat} {v : V} (hl : H l = some (.tup [v])) (h1 : 1 ≤ n) (h2 : n ≤ 1000) (k : ∀ c H', Ex H H' → H' c = some (.tup (List.replicate n v)) → Q (.ref c) H') : rRepN K (.ref l) (.int n) H Q := by
  refine ⟨l, n, v, rfl, rfl, SqT.of hl, h1, h2, fun e => ?_, fun _ q hq => k q _ (exn hq) upd_same⟩
  subst e
  exact k l H (exr H) hl
def spLike (K : PySem.W.Frag) : Sp := fun vs H Q _ => (∃ i : Int, vs = [.int i, .int i] ∧ i.natAbs.log2 < 1920 ∧ Ret (.bl true) H Q) ∨ ∃ (a b : Addr) (d : PyData), vs = [.ref a, .ref b] ∧ Dp K H (.ref a) d ∧ Dp K H (.ref b) d ∧ d.showable = true ∧ d.hasDict = false ∧ d.depth ≤ 4 ∧ d.shown.length ≤ 1000 ∧ Ret (.bl true) H Q
theorem ok_law_like (T : Txt K mg) : HasG P w K mg base "_law_like" ["_law_got", "_law_due"] 1 (spLike K) := by
  refine T.d_law_like.okG sc_law_like (fun vs H Q E h => ?_) (fun f cdv A outer s H vs Q E hg hr h => ?_)
  · rcases h with ⟨i, rfl, _⟩ | ⟨a, b, d, rfl, _⟩ <;> rfl
  · have hgd : (A.deeper (envOfC "_law_like" (defScope s_law_like) s.heap.objs.size f cdv)).guards = some [] := hg
    have hu10 := r10 hr
    rcases h with ⟨i, rfl, hi, k⟩ | ⟨a, b, d, rfl, h1, h2, h3, h4, h5, h6, k⟩
    · refine ⟨_, (pss_one (ps_ret (pe_cmpR op_eq (pe_callB (call_reprG hgd hu10) (by rfl) T.b_repr (by decide +kernel) (pa_cons (pv 0) pa_nil)) (pe_callB (call_reprG hgd hu10) (by rfl) T.b_repr (by decide +kernel) (pa_cons (pv 1) pa_nil)) (nomark _)))), ?_⟩
      refine ⟨_, rfl, .inl ⟨i, rfl, hi, _, rfl, .inl ⟨i, rfl, hi, rfl, ?_⟩⟩⟩
      rw [decide_eq_true rfl]
      exact k H (exr H)
    · refine ⟨_, (pss_one (ps_ret (pe_cmpR op_eq (pe_callB (call_reprG hgd hu10) (by rfl) T.b_repr (by decide +kernel) (pa_cons (pv 0) pa_nil)) (pe_callB (call_reprG hgd hu10) (by rfl) T.b_repr (by decide +kernel) (pa_cons (pv 1) pa_nil)) (nomark _)))), ?_⟩
      refine ⟨_, rfl, .inr ⟨a, d, rfl, h1, h3, h4, h5, h6, _, rfl, .inr ⟨b, d, rfl, h2, h3, h4, h5, h6, rfl, ?_⟩⟩⟩
      rw [decide_eq_true rfl]
      exact k H (exr H)
def spRight : Sp := fun vs H Q _ => ∃ (a : Addr) (n : Nat) (ns : List Int), vs = [.int n, .ref a] ∧ 1 ≤ n ∧ n ≤ 4 ∧ OkV n ns ∧ H a = some (.tup (ns.map V.int)) ∧ Ret (.bl true) H Q
theorem ok_law_right (T : Txt K mg) : HasG P w K mg base "_law_right" ["_law_count", "_law_worths_here"] 22 spRight := by
  have G_least_asks := ok_least_asks (P := P) (w := w) (base := base) T
  have G_law_like := ok_law_like (P := P) (w := w) (base := base) T
  have G_law_asks_for := ok_law_asks_for (P := P) (w := w) (base := base) T 5
  have G_law_high := ok_law_high (P := P) (w := w) (base := base) T 5
  have G_law_ends_right := ok_law_ends_right (P := P) (w := w) (base := base) T
  have G_is_tree_for := ok_is_tree_for (P := P) (w := w) (base := base) T
  have G_law_is_cube_book := ok_law_is_cube_book (P := P) (w := w) (base := base) T
  have G_is_cube_book := ok_is_cube_book (P := P) (w := w) (base := base) T
  refine T.d_law_right.okG sc_law_right (fun vs H Q E h => ?_) (fun f cdv A outer s H vs Q E hg hr h => ?_)
  · obtain ⟨a, n, ns, rfl, _⟩ := h
    rfl
  · have hgd : (A.deeper (envOfC "_law_right" (defScope s_law_right) s.heap.objs.size f cdv)).guards = some [] := hg
    have hu := hu_of hr
    obtain ⟨a, n, ns, rfl, h1, h4, hv, ha, k⟩ := h
    refine ⟨_, (pss_cons (ps_asg (pe_has G_least_asks (hr.mono (by omega)) (pa_cons (pv 0) (pa_cons (pv 1) pa_nil))) (pg_tup (by rfl) (pgs_cons (pg_name (i := 2) sc_law_right.nd rfl (Or.inl rfl)) (pgs_cons (pg_name (i := 3) sc_law_right.nd rfl (Or.inl rfl)) (pgs_cons (pg_name (i := 4) sc_law_right.nd rfl (Or.inr rfl)) pgs_nil)))))
      (pss_cons (ps_if (pt_not (pt_val (pe_hasG hgd G_law_like (hr.mono (by omega)) (pa_cons (pv 2) (pa_cons (pe_has G_law_asks_for (hr.mono (by omega)) (pa_cons (pv 1) (pa_cons (pe_op op_repN (pe_tup (pa_cons pe_int pa_nil)) (pv 0)) (pa_cons pe_dnewT pa_nil)))) pa_nil))))) (pss_one (ps_ret pe_bl)) pss_nil)
      (pss_cons (ps_if (PW.pt (pw_or (pt_cmpR op_ne (pe_has G_law_high (hr.mono (by omega)) (pa_cons (pv 3) pa_nil)) (pv 2) (nomark _)) (pw_or1 (pt_not (pt_val (pe_has G_law_ends_right (hr.mono (by omega)) (pa_cons (pv 0) (pa_cons (pv 1) (pa_cons (pv 3) pa_nil))))))))) (pss_one (ps_ret pe_bl)) pss_nil)
      (pss_cons (ps_if (PW.pt (pw_or (pt_cmpR op_notBl (pe_has G_is_tree_for (hr.mono (by omega)) (pa_cons (pv 0) (pa_cons (pv 1) (pa_cons (pv 3) pa_nil)))) pe_bl (nomark _)) (pw_or1 (pt_not (pt_val (pe_has G_law_is_cube_book (hr.mono (by omega)) (pa_cons (pv 0) (pa_cons (pv 1) (pa_cons (pv 2) (pa_cons (pv 4) pa_nil)))))))))) (pss_one (ps_ret pe_bl)) pss_nil)
      (pss_cons (ps_setLc (i := 5) (by rfl) sc_law_right.nd rfl rfl (sw_true rfl rfl rfl (by decide +kernel)) (own := [("_law_number", 6)]) (g := gName 6) (pi_tup (pe_tup (pa_cons (pv 2) (pa_cons (pe_op op_add (pv 2) pe_int) pa_nil)))) (blkOk_by (own := [("_law_number", 6)]) (N := n_law_right) (sc := defScope s_law_right) (by decide +kernel)) (fun _ _ _ _ _ => (pg_name (i := 6) sc_law_right.nd rfl (Or.inl rfl))) (fun _ _ _ _ _ => pts_nil) (fun _ _ _ _ _ => (pe_has G_is_cube_book (hr.mono (by omega)) (pa_cons (pv 0) (pa_cons (pv 1) (pa_cons (pv 6) (pa_cons (pv 4) pa_nil)))))))
      (pss_one (ps_ret (pe_hasG hgd G_law_like (hr.mono (by omega)) (pa_cons (pv 5) (pa_cons (pe_lst (pa_cons pe_bl (pa_cons pe_bl pa_nil))) pa_nil)))))))))), ?_⟩
    refine ⟨_, rfl, _, rfl, a, n, ns, rfl, h1, h4, hv, ha, fun p H1 e1 hL => ?_⟩
    obtain ⟨v, t, q, ls, hp, hvt, gt, hq, gb⟩ := hL
    refine ⟨p, _, rfl, SqT.of hp, rfl, _, _, rfl, _, _, rfl, _, _, rfl, rfl, ?_⟩
    have hD : D ns (root n) ≤ n := D_len (root_ok n)
    have hcn := root_cnt n
    have hht := gt.ht
    refine ⟨_, rfl, _, rfl, (by show 1 ≤ sizeLine; decide), fun p2 hp2 => ⟨_, rfl, ?_⟩⟩
    refine rep_both (K := K) upd_same h1 (by omega) fun c H2 e2 hc => ?_
    have x2 := e1.trans ((exn (o := HO.tup [V.int 2]) hp2).trans e2)
    have y2 : Ex H1 H2 := (exn (o := HO.tup [V.int 2]) hp2).trans e2
    have hc2 : H2 c = some (.tup ((root n).map V.int)) := by
      rw [hc]
      unfold root
      rw [List.map_replicate]
    intro d hd
    have xd := exn (o := HO.dT []) hd
    refine ⟨a, c, d, n, ns, root n, [], rfl, by omega, hv, root_ok n, by omega, xd _ _ (x2 _ _ ha), xd _ _ hc2, upd_same, Memo.nil _ _, fun H3 kv3 b3 hd3 m3 => ?_⟩
    have x3 : Ex H1 H3 := fun b o z => b3 _ _ (xd _ _ (y2 _ _ z)) (fun zz => by rw [zz] at z; rw [y2 _ _ z] at hd; cases hd)
    have hlog : (((D ns (root n) : Nat) : Int)).natAbs.log2 < 1920 := by
      rw [Int.natAbs_natCast]
      have : D ns (root n) = 0 ∨ D ns (root n) = 1 ∨ D ns (root n) = 2 ∨ D ns (root n) = 3 ∨ D ns (root n) = 4 := by omega
      rcases this with z | z | z | z | z <;> rw [z] <;> decide
    refine .inl ⟨_, rfl, hlog, fun H4 e4 => ⟨true, rfl, iteF ?_⟩⟩
    have x4 := x3.trans e4
    refine ⟨_, rfl, v, t, rfl, hvt.ex x4, by omega, fun H5 e5 => ⟨_, rfl, rfl, _, rfl, iteNS (by rw [hht]) ?_⟩⟩
    have x5 := x4.trans e5
    have t5 := e1.trans x5
    have hev : ∀ r, r < 2 ^ n → ev t r = ns.getD r 0 := fun r hr => gt.ev r hr (root_fits n r)
    refine ⟨_, rfl, _, rfl, _, rfl, a, v, n, ns, t, rfl, t5 _ _ ha, hv, hvt.ex x5, gt.ok, by omega, by omega, hev, fun H6 e6 => ⟨true, rfl, iteF ?_⟩⟩
    have x6 := x5.trans e6
    have t6 := e1.trans x6
    refine ⟨_, rfl, _, rfl, _, rfl, a, v, n, ns, t, rfl, t6 _ _ ha, hv, hvt.ex x6, gt.ok, h1, by omega, by omega, fun r hr => hev r (by rw [← hv.1]; exact hr), fun H7 e7 => ⟨true, true, rfl, rfl, _, rfl, iteNS rfl ?_⟩⟩
    have x7 := x6.trans e7
    have t7 := e1.trans x7
    refine ⟨_, rfl, _, rfl, _, rfl, _, rfl, a, q, n, ns, ls, rfl, h4, hv, t7 _ _ ha, hq.ex x7, gb, fun H8 e8 => ⟨true, rfl, iteF ?_⟩⟩
    have x8 := x7.trans e8
    have t8 := e1.trans x8
    refine ⟨_, rfl, _, rfl, _, _, rfl, rfl, (by show 2 ≤ sizeLine; decide), fun z hz => ⟨z, rfl, ⟨_, SqT.of upd_same⟩, fun L hL => ?_⟩⟩
    have xz := exn (o := HO.tup [V.int (D ns (root n) : Nat), V.int (((D ns (root n) : Nat) : Int) + 1)]) hz
    have hzz : L2.upd H8 z (.tup [V.int (D ns (root n) : Nat), V.int (((D ns (root n) : Nat) : Int) + 1)]) z = some (.tup [V.int (D ns (root n) : Nat), V.int (((D ns (root n) : Nat) : Int) + 1)]) := upd_same
    generalize L2.upd H8 z (.tup [V.int (D ns (root n) : Nat), V.int (((D ns (root n) : Nat) : Int) + 1)]) = H9 at xz hL hzz ⊢
    have x9 := x8.trans xz
    have t9 := e1.trans x9
    refine lc_ones (walk_tup (xs := [V.int (D ns (root n) : Nat), V.int (((D ns (root n) : Nat) : Int) + 1)])) (fun _ _ _ _ y => y) hL (by show 2 ≤ 40000; decide) (fun H' e => SqT.of (e _ _ hzz)) (fun _ => rfl) (fun _ => true) (fun i => V.bl (decide (i = 0))) (fun _ _ _ _ H3 _ Q' q' => q' H3 (exr _)) ?_ fun Ha ea hLa => ?_
    · intro i x hi hx _ H5 e5 Q' q'
      have y5 := x9.trans e5
      have s5 := t9.trans e5
      have : i = 0 ∨ i = 1 := by have : i < 2 := hi; omega
      rcases this with z | z <;> subst z <;> cases Option.some.inj hx
      · refine ⟨_, rfl, _, rfl, _, rfl, _, rfl, a, q, n, D ns (root n), ns, ls, rfl, h1, h4, hv, s5 _ _ ha, hq.ex y5, gb, .inl rfl, fun H6 e6 => ?_⟩
        rw [decide_eq_true rfl]
        exact q' H6 e6
      · have ee : (((D ns (root n) : Nat) : Int) + 1) = ((D ns (root n) + 1 : Nat) : Int) := by omega
        rw [ee]
        refine ⟨_, rfl, _, rfl, _, rfl, _, rfl, a, q, n, D ns (root n) + 1, ns, ls, rfl, h1, h4, hv, s5 _ _ ha, hq.ex y5, gb, .inr rfl, fun H6 e6 => ?_⟩
        rw [decide_eq_false (by omega)]
        exact q' H6 e6
    · have hLb : Ha L = some (.lst [V.bl true, V.bl false]) := hLa
      refine ⟨_, rfl, (by show 2 ≤ sizeLine; decide), fun M hM => ?_⟩
      have xM := exn (o := HO.lst [V.bl true, V.bl false]) hM
      refine .inr ⟨L, M, .list [.bool true, .bool false], rfl, .lst (SqL.of (xM _ _ hLb)) (.cons (.bl _) (.cons (.bl _) .nil)), .lst (SqL.of upd_same) (.cons (.bl _) (.cons (.bl _) .nil)), by decide +kernel, by decide +kernel, by decide +kernel, by decide +kernel, fun Hb eb => ?_⟩
      exact k Hb (((t9.trans ea).trans xM).trans eb)
end
end Fa

set_option Elab.async false
set_option linter.all false
set_option maxRecDepth 100000
set_option maxHeartbeats 4000000
namespace Fa
open PySem PySem.Spec PyProof.Rows L2 Evl
theorem d_three : D [0, 0, 0, 1, 1, 0, 1, 1] (root 3) = 2 := by decide +kernel
theorem d_one : D [1, 1] (root 1) = 0 := by decide +kernel
theorem good_none : GoodB 1 [1, 1] [] := ⟨.nil, fun e h => (by cases h), fun e h => (by cases h), fun h => (by rw [d_one] at h; cases h), Nat.zero_le _⟩
section
variable {P : Program} {w : World} {K : PySem.W.Frag} {mg : Str → Option Value} {base : Heap}
def spLaw (K : PySem.W.Frag) : Sp := fun vs H Q _ => ∃ (a : Addr) (ns : List Int), vs = [.ref a] ∧ SqL K H a (ns.map V.int) ∧ ns.length ≤ 63 ∧ ∀ H', Q (.bl true) H'
theorem ok_law {f : Addr} {fd : FuncData} (F : Fun K "law" "law" s_law f fd) (T : Txt K mg) : FnG P w K mg base 23 f fd ["_law_script"] (spLaw K) := by
  have G_law_begin := ok_law_begin (P := P) (w := w) (base := base) T
  have G_law_right := ok_law_right (P := P) (w := w) (base := base) T
  have G_law_draw := ok_law_draw (P := P) (w := w) (base := base) T
  have G_law_worths := ok_law_worths (P := P) (w := w) (base := base) T
  have G_law_few := ok_law_few (P := P) (w := w) (base := base) T
  have GK_least_asks := okK_least_asks (P := P) (w := w) (base := base) T
  have GK_is_cube_book := okK_is_cube_book (P := P) (w := w) (base := base) T
  refine fnG_of F sc_law (fun vs H Q E h => ?_) (fun cdv A outer s H vs Q E hg hr h => ?_)
  · obtain ⟨a, ns, rfl, _⟩ := h
    rfl
  · have hgd : (A.deeper (envOfC "law" (defScope s_law) s.heap.objs.size f cdv)).guards = some [] := hg
    obtain ⟨a, ns, rfl, hS, hl, k⟩ := h
    refine ⟨_, (pss_cons (ps_set (i := 1) sc_law.nd rfl (Or.inl rfl) (pe_has G_law_begin (hr.mono (by omega)) (pa_cons (pv 0) pa_nil)))
      (pss_cons (ps_for PassesOwn.never rfl (pi_range1 (by rfl) T.b_range (pa_cons pe_int pa_nil)) (pg_name (i := 2) sc_law.nd rfl (Or.inl rfl)) (pss_one (ps_if (pt_not (pt_val (pe_hasG hgd G_law_right (hr.mono (by omega)) (pa_cons pe_int (pa_cons (pe_tup (pa_cons (pe_op op_mod (pv 2) pe_int) (pa_cons (pe_op op_fdiv (pv 2) pe_int) pa_nil))) pa_nil))))) (pss_one (ps_ret pe_bl)) pss_nil)))
      (pss_cons (ps_for PassesOwn.never rfl (pi_range1 (by rfl) T.b_range (pa_cons pe_int pa_nil)) (pg_name (i := 2) sc_law.nd rfl (Or.inl rfl)) (pss_one (ps_if (pt_not (pt_val (pe_hasG hgd G_law_right (hr.mono (by omega)) (pa_cons pe_int (pa_cons (pe_tup (pa_cons (pe_op op_mod (pv 2) pe_int) (pa_cons (pe_op op_mod (pe_op op_fdiv (pv 2) pe_int) pe_int) (pa_cons (pe_op op_mod (pe_op op_fdiv (pv 2) pe_int) pe_int) (pa_cons (pe_op op_fdiv (pv 2) pe_int) pa_nil))))) pa_nil))))) (pss_one (ps_ret pe_bl)) pss_nil)))
      (pss_cons (ps_for PassesOwn.never rfl (pi_tup (pe_tup (pa_cons pe_int (pa_cons pe_int (pa_cons pe_int pa_nil))))) (pg_name (i := 3) sc_law.nd rfl (Or.inl rfl)) (pss_cons (ps_set (i := 4) sc_law.nd rfl (Or.inl rfl) (pe_ifExp (pt_cmpR op_eq (pe_has G_law_draw (hr.mono (by omega)) (pa_cons (pv 1) (pa_cons pe_int pa_nil))) pe_int (nomark _)) (pe_has G_law_worths (hr.mono (by omega)) (pa_cons (pv 1) (pa_cons (pv 3) pa_nil))) (pe_has G_law_few (hr.mono (by omega)) (pa_cons (pv 1) (pa_cons (pv 3) pa_nil)))))
      (pss_one (ps_if (pt_not (pt_val (pe_hasG hgd G_law_right (hr.mono (by omega)) (pa_cons (pv 3) (pa_cons (pv 4) pa_nil))))) (pss_one (ps_ret pe_bl)) pss_nil))))
      (pss_cons (ps_set (i := 5) sc_law.nd rfl (Or.inl rfl) (pe_hasK GK_least_asks (hr.mono (by omega)) (pk_cons (pe_tup (pa_cons pe_int (pa_cons pe_int (pa_cons pe_int (pa_cons pe_int (pa_cons pe_int (pa_cons pe_int (pa_cons pe_int (pa_cons pe_int pa_nil))))))))) (pk_cons pe_int pk_nil))))
      (pss_one (ps_ret (pe_and (pe_cmpR op_eq (pe_ix ix_tup (pv 5) pe_int (fun _ _ => rfl)) pe_int (nomark _)) (pe_one (pe_cmpR op_isBl (pe_hasK GK_is_cube_book (hr.mono (by omega)) (pk_cons (pe_tup pa_nil) (pk_cons pe_int (pk_cons (pe_tup (pa_cons pe_int (pa_cons pe_int pa_nil))) (pk_cons pe_int pk_nil))))) pe_bl (nomark _))))))))))), ?_⟩
    refine ⟨_, rfl, a, ns, rfl, hS, by omega, fun p l D H1 e1 S1 => ?_⟩
    -- all tables of one bit
    refine ⟨(4 : Int), rfl, by decide, by decide, ?_⟩
    refine for_range (lo := 0) (n := (4 : Int).toNat) (fun i σ H' => ∃ y2 y3 y4 y5, σ = [some (.ref a), some (.ref p), y2, y3, y4, y5] ∧ StAt H' p l D 0) ⟨none, none, none, none, rfl, S1⟩ ?_ ?_
    · rintro i σ H' hi ⟨y2, y3, y4, y5, rfl, S⟩
      have hi4 : i < 4 := hi
      refine ⟨_, rfl, _, _, rfl, rfl, (by show (0 : Int) < 2; decide), _, rfl, _, _, rfl, rfl, ⟨by decide, by decide⟩, (by show 2 ≤ sizeLine; decide), fun q hq => ?_⟩
      have xq := exn (o := HO.tup (([(0 + (i : Int)) % 2, (0 + (i : Int)) / 2] : List Int).map V.int)) hq
      refine ⟨q, 1, [(0 + (i : Int)) % 2, (0 + (i : Int)) / 2], rfl, by decide, by decide, ⟨rfl, fun x hx => ?_⟩, upd_same, fun H3 e3 => ⟨true, rfl, iteF ?_⟩⟩
      · simp only [List.mem_cons, List.not_mem_nil, or_false] at hx
        omega
      · exact ⟨_, _, _, _, rfl, (S.ex xq).ex e3⟩
    rintro σ H2 ⟨y2, y3, y4, y5, rfl, S2⟩
    -- all tables of two bits
    refine ⟨(16 : Int), rfl, by decide, by decide, ?_⟩
    refine for_range (lo := 0) (n := (16 : Int).toNat) (fun i σ H' => ∃ y2 y3 y4 y5, σ = [some (.ref a), some (.ref p), y2, y3, y4, y5] ∧ StAt H' p l D 0) ⟨_, _, _, _, rfl, S2⟩ ?_ ?_
    · rintro i σ H' hi ⟨y2, y3, y4, y5, rfl, S⟩
      have hi4 : i < 16 := hi
      refine ⟨_, rfl, _, _, rfl, rfl, (by show (0 : Int) < 2; decide), _, rfl, _, _, rfl, rfl, ⟨by decide, by decide⟩, _, _, rfl, rfl, (by show (0 : Int) < 2; decide), _, rfl, _, _, rfl, rfl, ⟨by decide, by decide⟩, _, _, rfl, rfl, (by show (0 : Int) < 2; decide), _, rfl, _, _, rfl, rfl, ⟨by decide, by decide⟩, (by show 4 ≤ sizeLine; decide), fun q hq => ?_⟩
      have xq := exn (o := HO.tup (([(0 + (i : Int)) % 2, (0 + (i : Int)) / 2 % 2, (0 + (i : Int)) / 4 % 2, (0 + (i : Int)) / 8] : List Int).map V.int)) hq
      refine ⟨q, 2, [(0 + (i : Int)) % 2, (0 + (i : Int)) / 2 % 2, (0 + (i : Int)) / 4 % 2, (0 + (i : Int)) / 8], rfl, by decide, by decide, ⟨rfl, fun x hx => ?_⟩, upd_same, fun H3 e3 => ⟨true, rfl, iteF ?_⟩⟩
      · simp only [List.mem_cons, List.not_mem_nil, or_false] at hx
        omega
      · exact ⟨_, _, _, _, rfl, (S.ex xq).ex e3⟩
    rintro σ H3 ⟨y2, y3, y4, y5, rfl, S3⟩
    -- the drawn ones
    refine ⟨(by show 3 ≤ sizeLine; decide), fun q hq => ⟨q, rfl, ⟨_, SqT.of upd_same⟩, ?_⟩⟩
    have xq := exn (o := HO.tup [V.int 3, V.int 3, V.int 4]) hq
    have hqq : L2.upd H3 q (.tup [V.int 3, V.int 3, V.int 4]) q = some (.tup [V.int 3, V.int 3, V.int 4]) := upd_same
    have S4 := S3.ex xq
    generalize L2.upd H3 q (.tup [V.int 3, V.int 3, V.int 4]) = H4 at hqq S4 ⊢
    refine for_tup (K := K) (a := q) (xs := [V.int 3, V.int 3, V.int 4]) (fun i σ H' => ∃ y2 y3 y4 y5 m, σ = [some (.ref a), some (.ref p), y2, y3, y4, y5] ∧ H' q = some (.tup [V.int 3, V.int 3, V.int 4]) ∧ StAt H' p l D m ∧ m ≤ 40 * i) ⟨_, _, _, _, 0, rfl, hqq, S4, Nat.zero_le _⟩ ?_ ?_ ?_
    · rintro i σ H' _ ⟨_, _, _, _, _, _, h, _⟩
      exact SqT.of h
    · rintro i x σ H' hx ⟨y2, y3, y4, y5, m, rfl, hq', S, hm⟩
      have hi3 : i < 3 := (List.getElem?_eq_some_iff.mp hx).1
      obtain ⟨n, rfl, n1, n4⟩ : ∃ n : Nat, x = V.int n ∧ 1 ≤ n ∧ n ≤ 4 := by
        have : i = 0 ∨ i = 1 ∨ i = 2 := by omega
        rcases this with z | z | z <;> subst z <;> cases Option.some.inj hx
        · exact ⟨3, rfl, by decide, by decide⟩
        · exact ⟨3, rfl, by decide, by decide⟩
        · exact ⟨4, rfl, by decide, by decide⟩
      have hp16 : 2 ^ n ≤ 16 := Nat.pow_le_pow_right (n := 2) (by decide) n4
      refine ⟨_, rfl, p, l, D, m, 2, rfl, S, by omega, by decide, by decide, fun r H5 r0 r1 b5 S5 => ⟨rfl, _, rfl, ?_⟩⟩
      have hq5 := S.kt b5 _ _ hq'
      refine ite2 (fun z => ?_) (fun z => ?_)
      · refine ⟨_, rfl, _, rfl, p, l, D, m + 1, n, rfl, S5, by omega, by omega, fun c ns2 H6 b6 S6 hv6 hc6 => ?_⟩
        refine ⟨_, rfl, _, rfl, c, n, ns2, rfl, n1, n4, hv6, hc6, fun H7 e7 => ⟨true, rfl, iteF ?_⟩⟩
        exact ⟨_, _, _, _, m + 1 + 2 ^ n, rfl, e7 _ _ (S5.kt b6 _ _ hq5), S6.ex e7, by omega⟩
      · refine ⟨_, rfl, _, rfl, p, l, D, m + 1, n, rfl, S5, by omega, n1, by omega, fun c ns2 i6 H6 b6 S6 hi6 hv6 hc6 => ?_⟩
        refine ⟨_, rfl, _, rfl, c, n, ns2, rfl, n1, n4, hv6, hc6, fun H7 e7 => ⟨true, rfl, iteF ?_⟩⟩
        exact ⟨_, _, _, _, i6, rfl, e7 _ _ (S5.kt b6 _ _ hq5), S6.ex e7, by omega⟩
    rintro σ H5 ⟨y2, y3, y4, y5, m, rfl, _, _, _⟩
    -- by keywords
    refine ⟨(by show 8 ≤ sizeLine; decide), fun c hc => ?_⟩
    have hcc : L2.upd H5 c (.tup (([0, 0, 0, 1, 1, 0, 1, 1] : List Int).map V.int)) c = some (.tup (([0, 0, 0, 1, 1, 0, 1, 1] : List Int).map V.int)) := upd_same
    refine ⟨c, 3, [0, 0, 0, 1, 1, 0, 1, 1], rfl, by decide, by decide, ⟨rfl, by decide⟩, hcc, fun b H6 e6 hL => ?_⟩
    obtain ⟨v, t, bq, ls, hb, _⟩ := hL
    rw [d_three] at hb
    refine ⟨_, rfl, _, _, _, _, rfl, rfl, SqT.of hb, rfl, rfl, true, rfl, iteT ?_⟩
    refine ⟨(by show 0 ≤ sizeLine; decide), fun q1 hq1 => ⟨(by show 2 ≤ sizeLine; decide), fun q2 hq2 => ?_⟩⟩
    refine ⟨q2, q1, 1, 0, [1, 1], [], rfl, by decide, by decide, ⟨rfl, by decide⟩, upd_same, ⟨exn hq2 _ _ upd_same, fun p h => (by cases h)⟩, good_none, .inl d_one.symm, fun H7 e7 => ?_⟩
    rw [d_one]
    exact ⟨true, true, rfl, rfl, k H7⟩
end
end Fa

set_option Elab.async false
set_option linter.all false
set_option maxRecDepth 100000
set_option maxHeartbeats 4000000
namespace Fa
open PySem PySem.Spec PyProof.Rows L2
section
variable {K : PySem.W.Frag} {h : Heap} {mg : Str → Option Value}
theorem def_mk {x : Str} {st : Stmt} {ps : List Str} {f : Addr} {od an : Option Addr} {sl : Array (Option Value)} {oc kV dc pm cd ct : Value} (X : K.In h) (G : h.Ns mainGlobals mg)
    (b : ∀ (kV doc pm : Value) (an : Option Addr) (cdv ct : Value) (us : List Value), us.length = ps.length → bindArgs (PySem.W.fnOf x x (defArgs st) (defBody st) (defScope st) .none kV doc pm an cdv ct) ⟨us, []⟩ = pure (ps.zip us))
    (a : PySem.W.nsIn K mainGlobals x = some (some (.ref f))) (l : K.lookup f = some ⟨oc, od, .func (PySem.W.fnOf x x (defArgs st) (defBody st) (defScope st) .none kV dc pm an cd ct), sl⟩) (c : PySem.W.codeIn K cd x = true) (k : PySem.W.keepIn K (.ref f) = true) : DefAt K mg x st ps :=
  ⟨f, _, fun_mk l c k, PySem.W.mg_of X G a, (fun_mk l c k).binds b⟩
theorem int_mk {x : Str} {i : Int} {t : Tok} (X : K.In h) (G : h.Ns mainGlobals mg) (a : PySem.W.nsIn K mainGlobals x = some (some (.int i t))) : ∃ t, mg x = some (.int i t) := ⟨t, PySem.W.mg_of X G a⟩
theorem twos_mk {a : Addr} {od : Option Addr} {sl : Array (Option Value)} {n : Nat} {t0 t1 t2 t3 t4 t5 t6 t7 t8 t9 t10 t11 t12 t13 t14 t15 t16 t17 t18 t19 t20 : Tok} (X : K.In h) (G : h.Ns mainGlobals mg) (e : PySem.W.nsIn K mainGlobals "TWOS" = some (some (.ref a)))
    (l : K.lookup a = some ⟨.type "tuple", od, .seq #[.int 1 t0, .int 2 t1, .int 4 t2, .int 8 t3, .int 16 t4, .int 32 t5, .int 64 t6, .int 128 t7, .int 256 t8, .int 512 t9, .int 1024 t10, .int 2048 t11, .int 4096 t12, .int 8192 t13, .int 16384 t14, .int 32768 t15, .int 65536 t16, .int 131072 t17, .int 262144 t18, .int 524288 t19, .int 1048576 t20] n, sl⟩) : ∃ a, mg "TWOS" = some (.ref a) ∧ SqTwos K a := by
  refine ⟨a, PySem.W.mg_of X G e, _, _, _, l, rfl, rfl, (by show 21 ≤ sizeLine; decide), ?_⟩
  exact .cons ⟨_, rfl⟩ (.cons ⟨_, rfl⟩ (.cons ⟨_, rfl⟩ (.cons ⟨_, rfl⟩ (.cons ⟨_, rfl⟩ (.cons ⟨_, rfl⟩ (.cons ⟨_, rfl⟩ (.cons ⟨_, rfl⟩ (.cons ⟨_, rfl⟩ (.cons ⟨_, rfl⟩ (.cons ⟨_, rfl⟩ (.cons ⟨_, rfl⟩ (.cons ⟨_, rfl⟩ (.cons ⟨_, rfl⟩ (.cons ⟨_, rfl⟩ (.cons ⟨_, rfl⟩ (.cons ⟨_, rfl⟩ (.cons ⟨_, rfl⟩ (.cons ⟨_, rfl⟩ (.cons ⟨_, rfl⟩ (.cons ⟨_, rfl⟩ .nil))))))))))))))))))))
theorem law_mk {l : PySem.W.OpenLaw} {w : World} {fa f : Addr} {od an : Option Addr} {sl : Array (Option Value)} {oc kV dc pm cd ct : Value} (X : K.In h) (G : h.Ns mainGlobals mg) (hfa : mg "law" = some (.ref fa)) (T : Txt K mg)
    (a : PySem.W.nsIn K mainGlobals "law" = some (some (.ref f))) (lk : K.lookup f = some ⟨oc, od, .func (PySem.W.fnOf "law" "law" (defArgs s_law) (defBody s_law) (defScope s_law) .none kV dc pm an cd ct), sl⟩) (c : PySem.W.codeIn K cd "law" = true) (k : PySem.W.keepIn K (.ref f) = true) :
    ∃ fd : FuncData, (∀ (s : Shared) (u : Value), BindsTo s fd ⟨[u], []⟩ [("_law_script", u)]) ∧ ∀ base : Heap, K.In base → base.Ns mainGlobals mg → FnG l.prog w K mg base 23 fa fd ["_law_script"] (spLaw K) := by
  have e := hfa.symm.trans (PySem.W.mg_of X G a)
  cases e
  exact ⟨PySem.W.fnOf "law" "law" (defArgs s_law) (defBody s_law) (defScope s_law) .none kV dc pm an cd ct, fun s v => .of_eq rfl, fun base _ _ => ok_law (fun_mk (st := s_law) lk c k) T⟩
end
theorem end_walk {l : PySem.W.OpenLaw} {q : Program} {loose : List Str} {XP : (Str → Option Value) → Heap → Prop} {YP : World → Heap → Prop} {d : DefRec} {K : Params → PySem.W.Frag} (hn : l.most = some 63) (hdf : d.params.defaults = [])
    (hY : ∀ (w : World) (h : Heap), YP w h → (K w.params).In h)
    (F : ∀ (w : World) (mg : Str → Option Value) (fa : Addr) (h : Heap), (K w.params).In h → h.Ns mainGlobals mg → mg d.name = some (.ref fa) →
      ∃ fd : FuncData, (∀ (s : Shared) (u : Value), BindsTo s fd ⟨[u], []⟩ [("_law_script", u)]) ∧ ∀ base : Heap, (K w.params).In base → base.Ns mainGlobals mg → FnG l.prog w (K w.params) mg base 23 fa fd ["_law_script"] (spLaw (K w.params))) :
    PySem.W.WalkO q loose XP YP l.row.toRowW d [] (fun f vs => PySem.call f vs) :=
  walk_ofG (n := 63) (k := 23) (x := "_law_script") (sp := spLaw) hn (by decide) hdf ⟨rfl, by decide, by decide⟩ hY F fun _ _ a ns hl _ hS => ⟨a, ns, rfl, hS, hl, fun _ => rfl⟩
end Fa

set_option Elab.async false
set_option maxRecDepth 100000
open PySem PySem.W PyProof.Rows in
set_option maxRecDepth 100000 in
set_option maxHeartbeats 0 in
theorem PySem.Challenge.cw_saidbetween_k69_whole_the_fewest_asks_holds : PySem.Challenge.rw_saidbetween_k69_whole_the_fewest_asks.Holds := by
  w_on; o_law; k_head; (case hw => w_witness2)
  k_fill
  refine Fa.end_walk (l := PySem.Challenge.rw_saidbetween_k69_whole_the_fewest_asks) rfl rfl (fun w h Y => PySem.W.kIn_of Y) ?F
  case F =>
    intro w mg fa h KX G hmg
    refine' Fa.law_mk KX G hmg ?T ?a ?l ?c ?k
    case T =>
      refine' ⟨?d_is_from, ?d_check_many, ?d_check_values, ?d_bit_so, ?d_is_ask, ?d_walked_tree, ?d_check_tree, ?d_asked_so, ?d_tells_values, ?d_is_tree_so, ?d_cube_so, ?d_free_bits, ?d_half_so, ?d_halves_of, ?d_kinds_so, ?d_fewest_so, ?d_tree_so, ?d_entries_so, ?d_least_so, ?d_is_entry, ?d_is_entry_set, ?d_lies_within, ?d_stands_so, ?d_is_book_so, ?d_check_few, ?d_is_tree_for, ?d_least_asks, ?d_is_cube_book, ?d_law_mixed, ?d_law_begin, ?d_law_draw, ?d_law_power, ?d_law_bits_of, ?d_law_worths, ?d_law_like, ?d_law_fits, ?d_law_lines_in, ?d_law_is_both, ?d_law_half, ?d_law_asks_for, ?d_law_walk, ?d_law_high, ?d_law_wood, ?d_law_ends_right, ?d_law_less_cube, ?d_law_is_cube_entry, ?d_law_cube_stands, ?d_law_is_cube_book, ?d_law_right, ?d_law_few, ?b_bool, ?b_enumerate, ?b_int, ?b_isinstance, ?b_len, ?b_list, ?b_max, ?b_min, ?b_range, ?b_repr, ?b_set, ?b_sorted, ?b_str, ?b_sum, ?b_tuple, ?b_zip, ?c_MOST_MANY_questions, ?c_MOST_TREES, ?c_MOST_ASKS, ?c_MOST_MANY_asks, ?c_MOST_ENTRIES, ?c_FREE, ?twos⟩
      (case d_is_from => refine' Fa.def_mk KX G (fun _ _ _ _ _ _ us hl => match us, hl with | [_, _, _], _ => rfl) ?a_is_from ?l_is_from ?c_is_from ?k_is_from; (case a_is_from => k_is); (case l_is_from => k_is); (case c_is_from => k_is); (case k_is_from => k_is))
      (case d_check_many => refine' Fa.def_mk KX G (fun _ _ _ _ _ _ us hl => match us, hl with | [_], _ => rfl) ?a_check_many ?l_check_many ?c_check_many ?k_check_many; (case a_check_many => k_is); (case l_check_many => k_is); (case c_check_many => k_is); (case k_check_many => k_is))
      (case d_check_values => refine' Fa.def_mk KX G (fun _ _ _ _ _ _ us hl => match us, hl with | [_, _], _ => rfl) ?a_check_values ?l_check_values ?c_check_values ?k_check_values; (case a_check_values => k_is); (case l_check_values => k_is); (case c_check_values => k_is); (case k_check_values => k_is))
      (case d_bit_so => refine' Fa.def_mk KX G (fun _ _ _ _ _ _ us hl => match us, hl with | [_, _], _ => rfl) ?a_bit_so ?l_bit_so ?c_bit_so ?k_bit_so; (case a_bit_so => k_is); (case l_bit_so => k_is); (case c_bit_so => k_is); (case k_bit_so => k_is))
      (case d_is_ask => refine' Fa.def_mk KX G (fun _ _ _ _ _ _ us hl => match us, hl with | [_], _ => rfl) ?a_is_ask ?l_is_ask ?c_is_ask ?k_is_ask; (case a_is_ask => k_is); (case l_is_ask => k_is); (case c_is_ask => k_is); (case k_is_ask => k_is))
      (case d_walked_tree => refine' Fa.def_mk KX G (fun _ _ _ _ _ _ us hl => match us, hl with | [_, _, _, _], _ => rfl) ?a_walked_tree ?l_walked_tree ?c_walked_tree ?k_walked_tree; (case a_walked_tree => k_is); (case l_walked_tree => k_is); (case c_walked_tree => k_is); (case k_walked_tree => k_is))
      (case d_check_tree => refine' Fa.def_mk KX G (fun _ _ _ _ _ _ us hl => match us, hl with | [_, _], _ => rfl) ?a_check_tree ?l_check_tree ?c_check_tree ?k_check_tree; (case a_check_tree => k_is); (case l_check_tree => k_is); (case c_check_tree => k_is); (case k_check_tree => k_is))
      (case d_asked_so => refine' Fa.def_mk KX G (fun _ _ _ _ _ _ us hl => match us, hl with | [_, _], _ => rfl) ?a_asked_so ?l_asked_so ?c_asked_so ?k_asked_so; (case a_asked_so => k_is); (case l_asked_so => k_is); (case c_asked_so => k_is); (case k_asked_so => k_is))
      (case d_tells_values => refine' Fa.def_mk KX G (fun _ _ _ _ _ _ us hl => match us, hl with | [_, _], _ => rfl) ?a_tells_values ?l_tells_values ?c_tells_values ?k_tells_values; (case a_tells_values => k_is); (case l_tells_values => k_is); (case c_tells_values => k_is); (case k_tells_values => k_is))
      (case d_is_tree_so => refine' Fa.def_mk KX G (fun _ _ _ _ _ _ us hl => match us, hl with | [_, _, _], _ => rfl) ?a_is_tree_so ?l_is_tree_so ?c_is_tree_so ?k_is_tree_so; (case a_is_tree_so => k_is); (case l_is_tree_so => k_is); (case c_is_tree_so => k_is); (case k_is_tree_so => k_is))
      (case d_cube_so => refine' Fa.def_mk KX G (fun _ _ _ _ _ _ us hl => match us, hl with | [_], _ => rfl) ?a_cube_so ?l_cube_so ?c_cube_so ?k_cube_so; (case a_cube_so => k_is); (case l_cube_so => k_is); (case c_cube_so => k_is); (case k_cube_so => k_is))
      (case d_free_bits => refine' Fa.def_mk KX G (fun _ _ _ _ _ _ us hl => match us, hl with | [_], _ => rfl) ?a_free_bits ?l_free_bits ?c_free_bits ?k_free_bits; (case a_free_bits => k_is); (case l_free_bits => k_is); (case c_free_bits => k_is); (case k_free_bits => k_is))
      (case d_half_so => refine' Fa.def_mk KX G (fun _ _ _ _ _ _ us hl => match us, hl with | [_, _, _], _ => rfl) ?a_half_so ?l_half_so ?c_half_so ?k_half_so; (case a_half_so => k_is); (case l_half_so => k_is); (case c_half_so => k_is); (case k_half_so => k_is))
      (case d_halves_of => refine' Fa.def_mk KX G (fun _ _ _ _ _ _ us hl => match us, hl with | [_, _], _ => rfl) ?a_halves_of ?l_halves_of ?c_halves_of ?k_halves_of; (case a_halves_of => k_is); (case l_halves_of => k_is); (case c_halves_of => k_is); (case k_halves_of => k_is))
      (case d_kinds_so => refine' Fa.def_mk KX G (fun _ _ _ _ _ _ us hl => match us, hl with | [_, _, _], _ => rfl) ?a_kinds_so ?l_kinds_so ?c_kinds_so ?k_kinds_so; (case a_kinds_so => k_is); (case l_kinds_so => k_is); (case c_kinds_so => k_is); (case k_kinds_so => k_is))
      (case d_fewest_so => refine' Fa.def_mk KX G (fun _ _ _ _ _ _ us hl => match us, hl with | [_, _, _, _], _ => rfl) ?a_fewest_so ?l_fewest_so ?c_fewest_so ?k_fewest_so; (case a_fewest_so => k_is); (case l_fewest_so => k_is); (case c_fewest_so => k_is); (case k_fewest_so => k_is))
      (case d_tree_so => refine' Fa.def_mk KX G (fun _ _ _ _ _ _ us hl => match us, hl with | [_, _, _], _ => rfl) ?a_tree_so ?l_tree_so ?c_tree_so ?k_tree_so; (case a_tree_so => k_is); (case l_tree_so => k_is); (case c_tree_so => k_is); (case k_tree_so => k_is))
      (case d_entries_so => refine' Fa.def_mk KX G (fun _ _ _ _ _ _ us hl => match us, hl with | [_, _], _ => rfl) ?a_entries_so ?l_entries_so ?c_entries_so ?k_entries_so; (case a_entries_so => k_is); (case l_entries_so => k_is); (case c_entries_so => k_is); (case k_entries_so => k_is))
      (case d_least_so => refine' Fa.def_mk KX G (fun _ _ _ _ _ _ us hl => match us, hl with | [_, _], _ => rfl) ?a_least_so ?l_least_so ?c_least_so ?k_least_so; (case a_least_so => k_is); (case l_least_so => k_is); (case c_least_so => k_is); (case k_least_so => k_is))
      (case d_is_entry => refine' Fa.def_mk KX G (fun _ _ _ _ _ _ us hl => match us, hl with | [_, _], _ => rfl) ?a_is_entry ?l_is_entry ?c_is_entry ?k_is_entry; (case a_is_entry => k_is); (case l_is_entry => k_is); (case c_is_entry => k_is); (case k_is_entry => k_is))
      (case d_is_entry_set => refine' Fa.def_mk KX G (fun _ _ _ _ _ _ us hl => match us, hl with | [_, _], _ => rfl) ?a_is_entry_set ?l_is_entry_set ?c_is_entry_set ?k_is_entry_set; (case a_is_entry_set => k_is); (case l_is_entry_set => k_is); (case c_is_entry_set => k_is); (case k_is_entry_set => k_is))
      (case d_lies_within => refine' Fa.def_mk KX G (fun _ _ _ _ _ _ us hl => match us, hl with | [_, _, _, _], _ => rfl) ?a_lies_within ?l_lies_within ?c_lies_within ?k_lies_within; (case a_lies_within => k_is); (case l_lies_within => k_is); (case c_lies_within => k_is); (case k_lies_within => k_is))
      (case d_stands_so => refine' Fa.def_mk KX G (fun _ _ _ _ _ _ us hl => match us, hl with | [_, _, _, _, _], _ => rfl) ?a_stands_so ?l_stands_so ?c_stands_so ?k_stands_so; (case a_stands_so => k_is); (case l_stands_so => k_is); (case c_stands_so => k_is); (case k_stands_so => k_is))
      (case d_is_book_so => refine' Fa.def_mk KX G (fun _ _ _ _ _ _ us hl => match us, hl with | [_, _, _], _ => rfl) ?a_is_book_so ?l_is_book_so ?c_is_book_so ?k_is_book_so; (case a_is_book_so => k_is); (case l_is_book_so => k_is); (case c_is_book_so => k_is); (case k_is_book_so => k_is))
      (case d_check_few => refine' Fa.def_mk KX G (fun _ _ _ _ _ _ us hl => match us, hl with | [_, _], _ => rfl) ?a_check_few ?l_check_few ?c_check_few ?k_check_few; (case a_check_few => k_is); (case l_check_few => k_is); (case c_check_few => k_is); (case k_check_few => k_is))
      (case d_is_tree_for => refine' Fa.def_mk KX G (fun _ _ _ _ _ _ us hl => match us, hl with | [_, _, _], _ => rfl) ?a_is_tree_for ?l_is_tree_for ?c_is_tree_for ?k_is_tree_for; (case a_is_tree_for => k_is); (case l_is_tree_for => k_is); (case c_is_tree_for => k_is); (case k_is_tree_for => k_is))
      (case d_least_asks => refine' Fa.def_mk KX G (fun _ _ _ _ _ _ us hl => match us, hl with | [_, _], _ => rfl) ?a_least_asks ?l_least_asks ?c_least_asks ?k_least_asks; (case a_least_asks => k_is); (case l_least_asks => k_is); (case c_least_asks => k_is); (case k_least_asks => k_is))
      (case d_is_cube_book => refine' Fa.def_mk KX G (fun _ _ _ _ _ _ us hl => match us, hl with | [_, _, _, _], _ => rfl) ?a_is_cube_book ?l_is_cube_book ?c_is_cube_book ?k_is_cube_book; (case a_is_cube_book => k_is); (case l_is_cube_book => k_is); (case c_is_cube_book => k_is); (case k_is_cube_book => k_is))
      (case d_law_mixed => refine' Fa.def_mk KX G (fun _ _ _ _ _ _ us hl => match us, hl with | [_, _], _ => rfl) ?a_law_mixed ?l_law_mixed ?c_law_mixed ?k_law_mixed; (case a_law_mixed => k_is); (case l_law_mixed => k_is); (case c_law_mixed => k_is); (case k_law_mixed => k_is))
      (case d_law_begin => refine' Fa.def_mk KX G (fun _ _ _ _ _ _ us hl => match us, hl with | [_], _ => rfl) ?a_law_begin ?l_law_begin ?c_law_begin ?k_law_begin; (case a_law_begin => k_is); (case l_law_begin => k_is); (case c_law_begin => k_is); (case k_law_begin => k_is))
      (case d_law_draw => refine' Fa.def_mk KX G (fun _ _ _ _ _ _ us hl => match us, hl with | [_, _], _ => rfl) ?a_law_draw ?l_law_draw ?c_law_draw ?k_law_draw; (case a_law_draw => k_is); (case l_law_draw => k_is); (case c_law_draw => k_is); (case k_law_draw => k_is))
      (case d_law_power => refine' Fa.def_mk KX G (fun _ _ _ _ _ _ us hl => match us, hl with | [_], _ => rfl) ?a_law_power ?l_law_power ?c_law_power ?k_law_power; (case a_law_power => k_is); (case l_law_power => k_is); (case c_law_power => k_is); (case k_law_power => k_is))
      (case d_law_bits_of => refine' Fa.def_mk KX G (fun _ _ _ _ _ _ us hl => match us, hl with | [_, _], _ => rfl) ?a_law_bits_of ?l_law_bits_of ?c_law_bits_of ?k_law_bits_of; (case a_law_bits_of => k_is); (case l_law_bits_of => k_is); (case c_law_bits_of => k_is); (case k_law_bits_of => k_is))
      (case d_law_worths => refine' Fa.def_mk KX G (fun _ _ _ _ _ _ us hl => match us, hl with | [_, _], _ => rfl) ?a_law_worths ?l_law_worths ?c_law_worths ?k_law_worths; (case a_law_worths => k_is); (case l_law_worths => k_is); (case c_law_worths => k_is); (case k_law_worths => k_is))
      (case d_law_like => refine' Fa.def_mk KX G (fun _ _ _ _ _ _ us hl => match us, hl with | [_, _], _ => rfl) ?a_law_like ?l_law_like ?c_law_like ?k_law_like; (case a_law_like => k_is); (case l_law_like => k_is); (case c_law_like => k_is); (case k_law_like => k_is))
      (case d_law_fits => refine' Fa.def_mk KX G (fun _ _ _ _ _ _ us hl => match us, hl with | [_, _], _ => rfl) ?a_law_fits ?l_law_fits ?c_law_fits ?k_law_fits; (case a_law_fits => k_is); (case l_law_fits => k_is); (case c_law_fits => k_is); (case k_law_fits => k_is))
      (case d_law_lines_in => refine' Fa.def_mk KX G (fun _ _ _ _ _ _ us hl => match us, hl with | [_], _ => rfl) ?a_law_lines_in ?l_law_lines_in ?c_law_lines_in ?k_law_lines_in; (case a_law_lines_in => k_is); (case l_law_lines_in => k_is); (case c_law_lines_in => k_is); (case k_law_lines_in => k_is))
      (case d_law_is_both => refine' Fa.def_mk KX G (fun _ _ _ _ _ _ us hl => match us, hl with | [_, _], _ => rfl) ?a_law_is_both ?l_law_is_both ?c_law_is_both ?k_law_is_both; (case a_law_is_both => k_is); (case l_law_is_both => k_is); (case c_law_is_both => k_is); (case k_law_is_both => k_is))
      (case d_law_half => refine' Fa.def_mk KX G (fun _ _ _ _ _ _ us hl => match us, hl with | [_, _, _], _ => rfl) ?a_law_half ?l_law_half ?c_law_half ?k_law_half; (case a_law_half => k_is); (case l_law_half => k_is); (case c_law_half => k_is); (case k_law_half => k_is))
      (case d_law_asks_for => refine' Fa.def_mk KX G (fun _ _ _ _ _ _ us hl => match us, hl with | [_, _, _], _ => rfl) ?a_law_asks_for ?l_law_asks_for ?c_law_asks_for ?k_law_asks_for; (case a_law_asks_for => k_is); (case l_law_asks_for => k_is); (case c_law_asks_for => k_is); (case k_law_asks_for => k_is))
      (case d_law_walk => refine' Fa.def_mk KX G (fun _ _ _ _ _ _ us hl => match us, hl with | [_, _], _ => rfl) ?a_law_walk ?l_law_walk ?c_law_walk ?k_law_walk; (case a_law_walk => k_is); (case l_law_walk => k_is); (case c_law_walk => k_is); (case k_law_walk => k_is))
      (case d_law_high => refine' Fa.def_mk KX G (fun _ _ _ _ _ _ us hl => match us, hl with | [_], _ => rfl) ?a_law_high ?l_law_high ?c_law_high ?k_law_high; (case a_law_high => k_is); (case l_law_high => k_is); (case c_law_high => k_is); (case k_law_high => k_is))
      (case d_law_wood => refine' Fa.def_mk KX G (fun _ _ _ _ _ _ us hl => match us, hl with | [_, _, _], _ => rfl) ?a_law_wood ?l_law_wood ?c_law_wood ?k_law_wood; (case a_law_wood => k_is); (case l_law_wood => k_is); (case c_law_wood => k_is); (case k_law_wood => k_is))
      (case d_law_ends_right => refine' Fa.def_mk KX G (fun _ _ _ _ _ _ us hl => match us, hl with | [_, _, _], _ => rfl) ?a_law_ends_right ?l_law_ends_right ?c_law_ends_right ?k_law_ends_right; (case a_law_ends_right => k_is); (case l_law_ends_right => k_is); (case c_law_ends_right => k_is); (case k_law_ends_right => k_is))
      (case d_law_less_cube => refine' Fa.def_mk KX G (fun _ _ _ _ _ _ us hl => match us, hl with | [_, _], _ => rfl) ?a_law_less_cube ?l_law_less_cube ?c_law_less_cube ?k_law_less_cube; (case a_law_less_cube => k_is); (case l_law_less_cube => k_is); (case c_law_less_cube => k_is); (case k_law_less_cube => k_is))
      (case d_law_is_cube_entry => refine' Fa.def_mk KX G (fun _ _ _ _ _ _ us hl => match us, hl with | [_, _], _ => rfl) ?a_law_is_cube_entry ?l_law_is_cube_entry ?c_law_is_cube_entry ?k_law_is_cube_entry; (case a_law_is_cube_entry => k_is); (case l_law_is_cube_entry => k_is); (case c_law_is_cube_entry => k_is); (case k_law_is_cube_entry => k_is))
      (case d_law_cube_stands => refine' Fa.def_mk KX G (fun _ _ _ _ _ _ us hl => match us, hl with | [_, _, _], _ => rfl) ?a_law_cube_stands ?l_law_cube_stands ?c_law_cube_stands ?k_law_cube_stands; (case a_law_cube_stands => k_is); (case l_law_cube_stands => k_is); (case c_law_cube_stands => k_is); (case k_law_cube_stands => k_is))
      (case d_law_is_cube_book => refine' Fa.def_mk KX G (fun _ _ _ _ _ _ us hl => match us, hl with | [_, _, _, _], _ => rfl) ?a_law_is_cube_book ?l_law_is_cube_book ?c_law_is_cube_book ?k_law_is_cube_book; (case a_law_is_cube_book => k_is); (case l_law_is_cube_book => k_is); (case c_law_is_cube_book => k_is); (case k_law_is_cube_book => k_is))
      (case d_law_right => refine' Fa.def_mk KX G (fun _ _ _ _ _ _ us hl => match us, hl with | [_, _], _ => rfl) ?a_law_right ?l_law_right ?c_law_right ?k_law_right; (case a_law_right => k_is); (case l_law_right => k_is); (case c_law_right => k_is); (case k_law_right => k_is))
      (case d_law_few => refine' Fa.def_mk KX G (fun _ _ _ _ _ _ us hl => match us, hl with | [_, _], _ => rfl) ?a_law_few ?l_law_few ?c_law_few ?k_law_few; (case a_law_few => k_is); (case l_law_few => k_is); (case c_law_few => k_is); (case k_law_few => k_is))
      (case b_bool => refine' PySem.W.mg_none_of KX G ?n_bool; (case n_bool => k_is))
      (case b_enumerate => refine' PySem.W.mg_none_of KX G ?n_enumerate; (case n_enumerate => k_is))
      (case b_int => refine' PySem.W.mg_none_of KX G ?n_int; (case n_int => k_is))
      (case b_isinstance => refine' PySem.W.mg_none_of KX G ?n_isinstance; (case n_isinstance => k_is))
      (case b_len => refine' PySem.W.mg_none_of KX G ?n_len; (case n_len => k_is))
      (case b_list => refine' PySem.W.mg_none_of KX G ?n_list; (case n_list => k_is))
      (case b_max => refine' PySem.W.mg_none_of KX G ?n_max; (case n_max => k_is))
      (case b_min => refine' PySem.W.mg_none_of KX G ?n_min; (case n_min => k_is))
      (case b_range => refine' PySem.W.mg_none_of KX G ?n_range; (case n_range => k_is))
      (case b_repr => refine' PySem.W.mg_none_of KX G ?n_repr; (case n_repr => k_is))
      (case b_set => refine' PySem.W.mg_none_of KX G ?n_set; (case n_set => k_is))
      (case b_sorted => refine' PySem.W.mg_none_of KX G ?n_sorted; (case n_sorted => k_is))
      (case b_str => refine' PySem.W.mg_none_of KX G ?n_str; (case n_str => k_is))
      (case b_sum => refine' PySem.W.mg_none_of KX G ?n_sum; (case n_sum => k_is))
      (case b_tuple => refine' PySem.W.mg_none_of KX G ?n_tuple; (case n_tuple => k_is))
      (case b_zip => refine' PySem.W.mg_none_of KX G ?n_zip; (case n_zip => k_is))
      (case c_MOST_MANY_questions => refine' Fa.int_mk KX G ?i_MOST_MANY_questions; (case i_MOST_MANY_questions => k_is))
      (case c_MOST_TREES => refine' Fa.int_mk KX G ?i_MOST_TREES; (case i_MOST_TREES => k_is))
      (case c_MOST_ASKS => refine' Fa.int_mk KX G ?i_MOST_ASKS; (case i_MOST_ASKS => k_is))
      (case c_MOST_MANY_asks => refine' Fa.int_mk KX G ?i_MOST_MANY_asks; (case i_MOST_MANY_asks => k_is))
      (case c_MOST_ENTRIES => refine' Fa.int_mk KX G ?i_MOST_ENTRIES; (case i_MOST_ENTRIES => k_is))
      (case c_FREE => refine' Fa.int_mk KX G ?i_FREE; (case i_FREE => k_is))
      (case twos => refine' Fa.twos_mk KX G ?t1 ?t2; (case t1 => k_is); (case t2 => k_is))
    (case a => k_is)
    (case l => k_is)
    (case c => k_is)
    (case k => k_is)
