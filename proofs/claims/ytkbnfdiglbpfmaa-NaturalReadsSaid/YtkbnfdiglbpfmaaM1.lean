/- Numbers by limbs of 32 bits: the value of a list of limbs, the normal list of a number, and the laws that the walks of the limb functions need. Plain Lean: no program in sight. -/
namespace Go.Proofs.Ytkbnfdiglbpfmaa.M

/-- Every limb is one. -/
def Lim (l : List Int) : Prop := ∀ x ∈ l, 0 ≤ x ∧ x < 4294967296
/-- The value of a list of limbs, the least one first. -/
def val : List Int → Nat
  | [] => 0
  | x :: l => x.toNat + 4294967296 * val l
/-- The limbs of a number, none of them a zero at the end. -/
def ofN (n : Nat) : List Int := if h : n = 0 then [] else ((n % 4294967296 : Nat) : Int) :: ofN (n / 4294967296)
termination_by n
decreasing_by omega
/-- 2^(32 k). -/
def P (k : Nat) : Nat := 4294967296 ^ k

theorem P_zero : P 0 = 1 := rfl
theorem P_succ (k : Nat) : P (k + 1) = 4294967296 * P k := by unfold P; rw [Nat.pow_succ, Nat.mul_comm]
theorem P_pos (k : Nat) : 0 < P k := Nat.pow_pos (by decide)
theorem P_add (a b : Nat) : P (a + b) = P a * P b := Nat.pow_add _ _ _
theorem P_mono {a b : Nat} (h : a ≤ b) : P a ≤ P b := Nat.pow_le_pow_right (by decide) h

theorem lim_nil : Lim [] := by intro x h; cases h
theorem lim_cons {x : Int} {l : List Int} : Lim (x :: l) ↔ (0 ≤ x ∧ x < 4294967296) ∧ Lim l := by
  unfold Lim; simp
theorem lim_append {a b : List Int} : Lim (a ++ b) ↔ Lim a ∧ Lim b := by
  unfold Lim; simp only [List.mem_append]
  constructor
  · intro h; exact ⟨fun x hx => h x (.inl hx), fun x hx => h x (.inr hx)⟩
  · rintro ⟨h, g⟩ x (hx | hx)
    · exact h x hx
    · exact g x hx
theorem lim_take {l : List Int} (h : Lim l) (n : Nat) : Lim (l.take n) := fun x hx => h x (List.mem_of_mem_take hx)
theorem lim_set {l : List Int} (h : Lim l) (n : Nat) {v : Int} (h0 : 0 ≤ v) (h1 : v < 4294967296) : Lim (l.set n v) := by
  intro x hx
  rcases List.mem_or_eq_of_mem_set hx with hx | rfl
  · exact h x hx
  · exact ⟨h0, h1⟩
theorem lim_rep (n : Nat) : Lim (List.replicate n 0) := by
  intro x hx
  rw [(List.mem_replicate.1 hx).2]
  decide
theorem lim_getD {l : List Int} (h : Lim l) (i : Nat) : 0 ≤ l.getD i 0 ∧ l.getD i 0 < 4294967296 := by
  rcases Nat.lt_or_ge i l.length with hi | hi
  · rw [List.getD_eq_getElem?_getD, List.getElem?_eq_getElem hi]; exact h _ (List.getElem_mem hi)
  · rw [List.getD_eq_getElem?_getD, List.getElem?_eq_none hi]; decide

theorem ofN_zero : ofN 0 = [] := by unfold ofN; simp
theorem ofN_pos {n : Nat} (h : n ≠ 0) : ofN n = ((n % 4294967296 : Nat) : Int) :: ofN (n / 4294967296) := by
  rw [ofN]; simp [h]
theorem lim_ofN (n : Nat) : Lim (ofN n) := by
  induction n using Nat.strongRecOn with
  | _ n ih =>
    by_cases h : n = 0
    · subst h; rw [ofN_zero]; exact lim_nil
    · rw [ofN_pos h, lim_cons]
      exact ⟨by omega, ih _ (by omega)⟩
theorem val_ofN (n : Nat) : val (ofN n) = n := by
  induction n using Nat.strongRecOn with
  | _ n ih =>
    by_cases h : n = 0
    · subst h; rw [ofN_zero]; rfl
    · rw [ofN_pos h]
      show _ + 4294967296 * val _ = _
      rw [ih _ (by omega)]
      omega
theorem ofN_inj {a b : Nat} (h : ofN a = ofN b) : a = b := by rw [← val_ofN a, h, val_ofN]
theorem ofN_eq_nil {n : Nat} : ofN n = [] ↔ n = 0 := by
  constructor
  · intro h; apply ofN_inj; rw [h, ofN_zero]
  · rintro rfl; exact ofN_zero
theorem ofN_length_pos {n : Nat} : 0 < (ofN n).length ↔ 0 < n := by
  rw [List.length_pos_iff, ne_eq, ofN_eq_nil]; omega
theorem ofN_cons {x : Int} {m : Nat} (h0 : 0 ≤ x) (h1 : x < 4294967296) (h : 0 < x ∨ 0 < m) : ofN (x.toNat + 4294967296 * m) = x :: ofN m := by
  rw [ofN_pos (by omega)]
  congr 1
  · omega
  · congr 1; omega
theorem ofN_single {x : Int} (h0 : 0 < x) (h1 : x < 4294967296) : ofN x.toNat = [x] := by
  have := ofN_cons (x := x) (m := 0) (by omega) h1 (.inl h0)
  simpa [ofN_zero] using this

theorem val_append (a b : List Int) : val (a ++ b) = val a + P a.length * val b := by
  induction a with
  | nil => simp [val, P_zero]
  | cons x a ih =>
    show x.toNat + 4294967296 * val (a ++ b) = _
    rw [ih, List.length_cons, P_succ]
    show _ = x.toNat + 4294967296 * val a + _
    rw [Nat.mul_add, Nat.mul_assoc]; omega
theorem val_lt {l : List Int} (h : Lim l) : val l < P l.length := by
  induction l with
  | nil => exact P_pos 0
  | cons x l ih =>
    rw [lim_cons] at h
    have := ih h.2
    show x.toNat + 4294967296 * val l < _
    rw [List.length_cons, P_succ]
    omega
theorem val_rep (n : Nat) : val (List.replicate n 0) = 0 := by
  induction n with
  | zero => rfl
  | succ n ih => rw [List.replicate_succ]; show 0 + 4294967296 * val _ = 0; rw [ih]
theorem val_snoc_zero (l : List Int) : val (l ++ [0]) = val l := by rw [val_append]; simp [val]
theorem val_snoc (l : List Int) (x : Int) : val (l ++ [x]) = val l + P l.length * x.toNat := by rw [val_append]; simp [val]
theorem val_pos_last {l : List Int} {x : Int} (hx : 0 < x) : 0 < val (l ++ [x]) := by
  rw [val_snoc]
  have := Nat.mul_pos (P_pos l.length) (show 0 < x.toNat by omega)
  omega
/-- A list that ends in no zero is its number's. -/
theorem ofN_val_snoc {l : List Int} {x : Int} (h : Lim (l ++ [x])) (hx : x ≠ 0) : ofN (val (l ++ [x])) = l ++ [x] := by
  induction l with
  | nil =>
    have hx2 := h x (by simp)
    show ofN (x.toNat + 4294967296 * 0) = _
    rw [ofN_cons hx2.1 hx2.2 (.inl (by omega)), ofN_zero]; rfl
  | cons y l ih =>
    rw [List.cons_append, lim_cons] at h
    show ofN (y.toNat + 4294967296 * val (l ++ [x])) = _
    have hx2 := h.2 x (by simp)
    rw [ofN_cons h.1.1 h.1.2 (.inr (val_pos_last (by omega))), ih h.2]; rfl
theorem take_succ_snoc {l : List Int} {i : Nat} (h : i < l.length) : l.take (i + 1) = l.take i ++ [l.getD i 0] := by
  rw [List.take_succ_eq_append_getElem h, List.getD_eq_getElem?_getD, List.getElem?_eq_getElem h]; rfl

theorem val_set {l : List Int} {i : Nat} (h : i < l.length) (v : Int) : val (l.set i v) + P i * (l.getD i 0).toNat = val l + P i * v.toNat := by
  induction l generalizing i with
  | nil => simp at h
  | cons x l ih =>
    cases i with
    | zero => simp [val, P_zero]; omega
    | succ i =>
      have := ih (i := i) (by simpa using h)
      rw [List.set_cons_succ, P_succ]
      show x.toNat + 4294967296 * val _ + _ = x.toNat + 4294967296 * val l + _
      simp only [List.getD_cons_succ]
      rw [Nat.mul_assoc, Nat.mul_assoc]; omega
theorem getD_set_ne {l : List Int} {i j : Nat} {v : Int} (h : i ≠ j) : (l.set i v).getD j 0 = l.getD j 0 := by
  rw [List.getD_eq_getElem?_getD, List.getD_eq_getElem?_getD, List.getElem?_set_ne h]
theorem getD_set_eq {l : List Int} {i : Nat} {v : Int} (h : i < l.length) : (l.set i v).getD i 0 = v := by
  rw [List.getD_eq_getElem?_getD, List.getElem?_set_self h]; rfl
theorem getD_rep (n i : Nat) : (List.replicate n (0 : Int)).getD i 0 = 0 := by
  rw [List.getD_eq_getElem?_getD, List.getElem?_replicate]; split <;> rfl
theorem take_set_self {l : List Int} {i : Nat} (v : Int) : (l.set i v).take i = l.take i := by
  rw [List.take_set_of_le (by omega)]

theorem len_ofN_le {n k : Nat} (h : n < P k) : (ofN n).length ≤ k := by
  induction k generalizing n with
  | zero => rw [P_zero] at h; have : n = 0 := by omega
            subst this; rw [ofN_zero]; exact Nat.le_refl _
  | succ k ih =>
    by_cases hn : n = 0
    · subst hn; rw [ofN_zero]; exact Nat.zero_le _
    · rw [ofN_pos hn, List.length_cons]
      rw [P_succ] at h
      have := ih (n := n / 4294967296) (by omega)
      omega
theorem lt_P_len (n : Nat) : n < P (ofN n).length := by
  have := val_lt (lim_ofN n)
  rwa [val_ofN] at this
theorem P_len_le {n : Nat} (h : n ≠ 0) : P ((ofN n).length - 1) ≤ n := by
  rcases Nat.lt_or_ge n (P ((ofN n).length - 1)) with g | g
  · have := len_ofN_le g
    have h2 := ofN_length_pos (n := n)
    omega
  · exact g
theorem len_mono {a b : Nat} (h : a ≤ b) : (ofN a).length ≤ (ofN b).length := len_ofN_le (Nat.lt_of_le_of_lt h (lt_P_len b))
theorem lt_of_len_lt {a b : Nat} (h : (ofN a).length < (ofN b).length) : a < b := by
  rcases Nat.lt_or_ge a b with g | g
  · exact g
  · have := len_mono g; omega
theorem len_val_le {l : List Int} (h : Lim l) : (ofN (val l)).length ≤ l.length := len_ofN_le (val_lt h)
theorem len_add (a b : Nat) : (ofN (a + b)).length ≤ max (ofN a).length (ofN b).length + 1 := by
  apply len_ofN_le
  rw [P_succ]
  have h1 := lt_P_len a
  have h2 := lt_P_len b
  have h3 := P_mono (Nat.le_max_left (ofN a).length (ofN b).length)
  have h4 := P_mono (Nat.le_max_right (ofN a).length (ofN b).length)
  omega
theorem len_mul (a b : Nat) : (ofN (a * b)).length ≤ (ofN a).length + (ofN b).length := by
  apply len_ofN_le
  rw [P_add]
  exact Nat.mul_lt_mul'' (lt_P_len a) (lt_P_len b)
theorem len_succ_le (a : Nat) : (ofN (a + 1)).length ≤ (ofN a).length + 1 := by
  apply len_ofN_le
  rw [P_succ]
  have h1 := lt_P_len a
  omega
/-- The lists of the numbers below the base. -/
theorem len_small {n : Nat} (h : n < 4294967296) : (ofN n).length ≤ 1 := len_ofN_le (by rw [P_succ, P_zero]; omega)
theorem len_u64 {n : Nat} (h : n < 18446744073709551616) : (ofN n).length ≤ 2 := len_ofN_le (by rw [P_succ, P_succ, P_zero]; omega)

theorem eq_of_val {a b : List Int} (ha : Lim a) (hb : Lim b) (hn : a.length = b.length) (hv : val a = val b) : a = b := by
  induction a generalizing b with
  | nil => exact (List.eq_nil_of_length_eq_zero hn.symm).symm
  | cons x a ih =>
    cases b with
    | nil => simp at hn
    | cons y b =>
      rw [lim_cons] at ha hb
      have h : x.toNat + 4294967296 * val a = y.toNat + 4294967296 * val b := hv
      have h1 : x = y := by omega
      have h2 : val a = val b := by omega
      rw [h1, ih ha.2 hb.2 (by simpa using hn) h2]
/-- A list as long as its number needs. -/
theorem normal {r : List Int} (h : Lim r) (hn : r.length = 0 ∨ P (r.length - 1) ≤ val r) : r = ofN (val r) := by
  refine eq_of_val h (lim_ofN _) ?_ (val_ofN _).symm
  have h1 := len_val_le h
  rcases hn with hn | hn
  · omega
  · rcases Nat.lt_or_ge (ofN (val r)).length r.length with g | g
    · have h2 := lt_P_len (val r)
      have h3 := P_mono (show (ofN (val r)).length ≤ r.length - 1 by omega)
      omega
    · omega
/-- Limb i of a number. -/
theorem val_take_drop (l : List Int) (i : Nat) : val l = val (l.take i) + P (min i l.length) * val (l.drop i) := by
  conv => lhs; rw [← List.take_append_drop i l]
  rw [val_append, List.length_take]
theorem val_lt_take {l : List Int} (h : Lim l) (i : Nat) : val (l.take i) < P i := by
  have := val_lt (lim_take h i)
  rw [List.length_take] at this
  exact Nat.lt_of_lt_of_le this (P_mono (Nat.min_le_left _ _))
theorem val_take_succ {l : List Int} {i : Nat} (h : i < l.length) : val (l.take (i + 1)) = val (l.take i) + P i * (l.getD i 0).toNat := by
  rw [take_succ_snoc h, val_snoc, List.length_take, Nat.min_eq_left (by omega)]
theorem val_take_all {l : List Int} {i : Nat} (h : l.length ≤ i) : val (l.take i) = val l := by rw [List.take_of_length_le h]
/-- Beyond the end there are zeros. -/
theorem val_take_step {l : List Int} (i : Nat) : val (l.take (i + 1)) = val (l.take i) + P i * (l.getD i 0).toNat := by
  rcases Nat.lt_or_ge i l.length with h | h
  · exact val_take_succ h
  · rw [val_take_all h, val_take_all (by omega), List.getD_eq_getElem?_getD, List.getElem?_eq_none h]; simp

/-- The order of two numbers as an int. -/
def cmp (a b : Nat) : Int := if a < b then -1 else if a = b then 0 else 1
theorem cmp_lt {a b : Nat} (h : a < b) : cmp a b = -1 := if_pos h
theorem cmp_eq (a : Nat) : cmp a a = 0 := by unfold cmp; simp
theorem cmp_gt {a b : Nat} (h : b < a) : cmp a b = 1 := by unfold cmp; rw [if_neg (by omega), if_neg (by omega)]
theorem cmp_zero {a b : Nat} : cmp a b = 0 ↔ a = b := by unfold cmp; split <;> (try split) <;> omega
theorem cmp_neg {a b : Nat} : cmp a b < 0 ↔ a < b := by unfold cmp; split <;> (try split) <;> omega
theorem cmp_le {a b : Nat} : cmp a b ≤ 0 ↔ a ≤ b := by unfold cmp; split <;> (try split) <;> omega
theorem cmp_pos {a b : Nat} : 0 < cmp a b ↔ b < a := by unfold cmp; split <;> (try split) <;> omega
theorem cmp_nonneg {a b : Nat} : 0 ≤ cmp a b ↔ b ≤ a := by unfold cmp; split <;> (try split) <;> omega
theorem cmp_range (a b : Nat) : -1 ≤ cmp a b ∧ cmp a b ≤ 1 := by unfold cmp; split <;> (try split) <;> omega
theorem cmp_swap (a b : Nat) : cmp b a = -cmp a b := by unfold cmp; repeat' split
                                                        all_goals omega
/-- By the greatest limb that differs. -/
theorem lt_of_top {a b : List Int} (ha : Lim a) (i : Nat) (h : (a.getD i 0).toNat < (b.getD i 0).toNat) : val (a.take (i + 1)) < val (b.take (i + 1)) := by
  rw [val_take_step, val_take_step]
  have h1 := val_lt_take ha i
  have h2 : P i * ((a.getD i 0).toNat + 1) ≤ P i * (b.getD i 0).toNat := Nat.mul_le_mul_left _ h
  rw [Nat.mul_add, Nat.mul_one] at h2
  omega
theorem cmp_step {a b : List Int} (i : Nat) (h : (a.getD i 0).toNat = (b.getD i 0).toNat) : cmp (val (a.take (i + 1))) (val (b.take (i + 1))) = cmp (val (a.take i)) (val (b.take i)) := by
  rw [val_take_step, val_take_step, h]
  unfold cmp
  repeat' split
  all_goals omega
theorem add_arith (p vo va vb c ai bi s1 s2 : Nat) (hv : vo + p * c = va + vb) (hs : s1 + 4294967296 * s2 = c + ai + bi) : vo + p * s1 + 4294967296 * p * s2 = va + p * ai + (vb + p * bi) := by
  have h : p * (s1 + 4294967296 * s2) = p * (c + ai + bi) := by rw [hs]
  grind
theorem borrow {a b c s t : Int} (a0 : 0 ≤ a) (a1 : a < 4294967296) (b0 : 0 ≤ b) (b1 : b < 4294967296) (c0 : 0 ≤ c) (c1 : c ≤ 1) (hs : s = (a - c - b) % 18446744073709551616) (ht : t = s / 9223372036854775808) :
    0 ≤ t ∧ t ≤ 1 ∧ (s % 4294967296).toNat + c.toNat + b.toNat = a.toNat + 4294967296 * t.toNat := by
  by_cases h : 0 ≤ a - c - b
  · have h1 : s = a - c - b := by rw [hs, Int.emod_eq_of_lt h (by omega)]
    have h2 : t = 0 := by rw [ht]; exact Int.ediv_eq_zero_of_lt (by omega) (by omega)
    have h3 : s % 4294967296 = a - c - b := by rw [h1]; exact Int.emod_eq_of_lt h (by omega)
    rw [h3, h2]
    clear hs ht h3
    omega
  · have h1 : s = a - c - b + 18446744073709551616 := by
      rw [hs, ← Int.add_emod_right, Int.emod_eq_of_lt (by omega) (by omega)]
    have h2 : t = 1 := by
      rw [ht, show s = (s - 9223372036854775808) + 9223372036854775808 * 1 from by omega, Int.add_mul_ediv_left _ _ (by decide), Int.ediv_eq_zero_of_lt (by omega) (by omega)]; rfl
    have h3 : s % 4294967296 = a - c - b + 4294967296 := by
      rw [h1, show a - c - b + 18446744073709551616 = (a - c - b + 4294967296) + 4294967296 * 4294967295 from by omega, Int.add_mul_emod_self_left, Int.emod_eq_of_lt (by omega) (by omega)]
    rw [h3, h2]
    clear hs ht h3
    omega
theorem less_arith (p vo va vb c ai bi s t : Nat) (hv : vo + vb = va + p * c) (hs : s + c + bi = ai + 4294967296 * t) : vo + p * s + (vb + p * bi) = va + p * ai + 4294967296 * p * t := by
  have h : p * (s + c + bi) = p * (ai + 4294967296 * t) := by rw [hs]
  grind
end Go.Proofs.Ytkbnfdiglbpfmaa.M
