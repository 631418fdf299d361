/- Numbers by decimal digits: the digits of a number, their bytes, and the number that a string's bytes tell. Plain Lean: no program in sight. -/
import Derived.Laws.Strings
import Derived.Test.YtkbnfdiglbpfmaaM4
namespace Go.Proofs.Ytkbnfdiglbpfmaa.M
open Go.RowKit Go.Proofs.YtkbnfdiglbpfmaaW.PrintWords

/-- The digits of a number as bytes, the last one first. -/
def rdigs (n : Nat) : List Int := if h : n = 0 then [] else ((48 + n % 10 : Nat) : Int) :: rdigs (n / 10)
termination_by n
decreasing_by omega
def digs (n : Nat) : List Int := (rdigs n).reverse
/-- The text of a number: its digits, and one zero for nought. -/
def textN (n : Nat) : List Int := if n = 0 then [48] else digs n
theorem rdigs_zero : rdigs 0 = [] := by unfold rdigs; simp
theorem rdigs_pos {n : Nat} (h : n ≠ 0) : rdigs n = ((48 + n % 10 : Nat) : Int) :: rdigs (n / 10) := by
  rw [rdigs]; simp [h]
theorem digs_zero : digs 0 = [] := by unfold digs; rw [rdigs_zero]; rfl
theorem digs_pos {n : Nat} (h : n ≠ 0) : digs n = digs (n / 10) ++ [((48 + n % 10 : Nat) : Int)] := by
  unfold digs; rw [rdigs_pos h, List.reverse_cons]
/-- Bytes that are digits. -/
def Ch (l : List Int) : Prop := ∀ x ∈ l, 48 ≤ x ∧ x ≤ 57
theorem ch_digs (n : Nat) : Ch (digs n) := by
  induction n using Nat.strongRecOn with
  | _ n ih =>
    by_cases h : n = 0
    · subst h; rw [digs_zero]; intro x hx; cases hx
    · rw [digs_pos h]
      intro x hx
      rcases List.mem_append.1 hx with hx | hx
      · exact ih _ (by omega) x hx
      · have := List.mem_singleton.1 hx
        subst this
        omega
theorem ch_textN (n : Nat) : Ch (textN n) := by
  unfold textN
  split
  · intro x hx
    have := List.mem_singleton.1 hx
    subst this
    decide
  · exact ch_digs n
theorem rdigs_lt {k : Nat} : ∀ {n : Nat}, n < 2 ^ k → (rdigs n).length ≤ k := by
  induction k with
  | zero => intro n h; have : n = 0 := by simpa using h
            subst this; rw [rdigs_zero]; exact Nat.le_refl _
  | succ k ih =>
    intro n h
    by_cases hn : n = 0
    · subst hn; rw [rdigs_zero]; exact Nat.zero_le _
    · rw [rdigs_pos hn, List.length_cons]
      rw [Nat.pow_succ] at h
      have := ih (n := n / 10) (by omega)
      omega
theorem rdigs_len (n : Nat) : (rdigs n).length ≤ 32 * (ofN n).length := by
  apply rdigs_lt
  rw [← P_two]; exact lt_P_len n
theorem digs_length (n : Nat) : (digs n).length = (rdigs n).length := List.length_reverse
theorem textN_len (n : Nat) : (textN n).length ≤ 32 * (ofN n).length + 1 := by
  unfold textN
  split
  · exact Nat.le_add_left _ _
  · have := rdigs_len n
    rw [digs_length]; omega
theorem digs_ne {n : Nat} (h : n ≠ 0) : 0 < (digs n).length := by
  rw [digs_pos h, List.length_append]; exact Nat.lt_of_lt_of_le (Nat.lt_add_one 0) (Nat.le_add_left 1 _)
theorem textN_pos (n : Nat) : 0 < (textN n).length := by
  unfold textN
  split
  · decide
  · exact digs_ne ‹_›

/-! lists and bytes -/
theorem eq_of_getD {a b : List Int} (hl : a.length = b.length) (h : ∀ i, i < a.length → a.getD i 0 = b.getD i 0) : a = b := by
  apply List.ext_getElem hl
  intro i h1 h2
  have := h i h1
  rwa [List.getD_eq_getElem?_getD, List.getD_eq_getElem?_getD, List.getElem?_eq_getElem h1, List.getElem?_eq_getElem h2] at this
theorem bt_str {xs : List Int} (h : ∀ x ∈ xs, 0 ≤ x ∧ x < 256) (i : Nat) : bt (strOfNums xs) (i : Int) = xs.getD i 0 := by
  unfold bt
  have hs := strOfNums_size xs
  by_cases hi : i < xs.length
  · rw [dif_pos (by rw [hs]; exact hi)]
    rw [List.getD_eq_getElem?_getD, List.getElem?_eq_getElem hi]
    have hx := h _ (List.getElem_mem hi)
    have hd : i < (strOfNums xs).data.size := by have : (strOfNums xs).data.size = xs.length := hs
                                                 omega
    show ((((strOfNums xs).data)[i]'hd).toNat : Int) = xs[i]
    have e : ((strOfNums xs).data)[i]'hd = UInt8.ofNat (xs[i]).toNat := by
      show ((xs.map fun n => UInt8.ofNat n.toNat))[i]'(by simpa using hi) = _
      exact List.getElem_map ..
    have : (UInt8.ofNat (xs[i]).toNat).toNat = (xs[i]).toNat := by
      rw [UInt8.toNat_ofNat']; omega
    rw [e, this]; omega
  · rw [dif_neg (by rw [hs]; exact hi), List.getD_eq_getElem?_getD, List.getElem?_eq_none (by omega)]; rfl
theorem str_of_bt {s : ByteArray} {xs : List Int} (hl : xs.length = s.size) (h : ∀ i : Nat, i < xs.length → xs.getD i 0 = bt s (i : Int)) : strOfNums xs = s := by
  cases s with
  | mk d =>
    show ByteArray.mk _ = _
    congr 1
    apply Array.ext
    · have : xs.length = d.size := hl
      simpa using this
    · intro i h1 h2
      have hi : i < xs.length := by simpa using h1
      have := h i hi
      rw [List.getD_eq_getElem?_getD, List.getElem?_eq_getElem hi] at this
      simp only [List.getElem_toArray, List.getElem_map]
      have e : xs[i] = ((d[i]).toNat : Int) := by
        refine Eq.trans this ?_
        unfold bt
        rw [dif_pos (show ((i : Int)).toNat < (ByteArray.mk d).size from h2)]
        rfl
      rw [e, Int.toNat_natCast]
      exact UInt8.ofNat_toNat
theorem ch_bytes {l : List Int} (h : Ch l) : ∀ x ∈ l, 0 ≤ x ∧ x < 256 := by
  intro x hx; have := h x hx; omega
theorem bt_range (s : ByteArray) (i : Int) : 0 ≤ bt s i ∧ bt s i < 256 := by
  unfold bt
  split
  · have := UInt8.toNat_lt (s[i.toNat])
    omega
  · omega
theorem empty_iff (s : ByteArray) : s.toList = ([] : List UInt8) ↔ s.size = 0 := by
  rw [ByteArray.toList_eq, Array.toList_eq_nil_iff, ← Array.size_eq_zero_iff]; rfl

/-! the number of a string of digits -/
/-- A byte that is a digit. -/
def dg (s : ByteArray) (i : Nat) : Prop := 48 ≤ bt s (i : Int) ∧ bt s (i : Int) ≤ 57
instance (s i) : Decidable (dg s i) := by unfold dg; exact inferInstance
/-- The number that the first bytes of a string tell. -/
def num (s : ByteArray) : Nat → Nat
  | 0 => 0
  | i + 1 => num s i * 10 + (bt s (i : Int) - 48).toNat
/-- A string that is a number: digits alone, and no zero ahead. -/
def Good (s : ByteArray) : Prop := 0 < s.size ∧ (∀ i, i < s.size → dg s i) ∧ (s.size = 1 ∨ bt s 0 ≠ 48)
def numL (l : List Int) : Nat := l.foldl (fun v x => v * 10 + (x - 48).toNat) 0
theorem numL_snoc (l : List Int) (x : Int) : numL (l ++ [x]) = numL l * 10 + (x - 48).toNat := by unfold numL; rw [List.foldl_append]; rfl
theorem numL_digs (n : Nat) : numL (digs n) = n := by
  induction n using Nat.strongRecOn with
  | _ n ih =>
    by_cases h : n = 0
    · subst h; rw [digs_zero]; rfl
    · rw [digs_pos h, numL_snoc, ih _ (by omega)]; omega
theorem numL_textN (n : Nat) : numL (textN n) = n := by
  unfold textN
  split
  · subst_vars; rfl
  · exact numL_digs n
theorem num_str {xs : List Int} (h : Ch xs) : ∀ i, i ≤ xs.length → num (strOfNums xs) i = numL (xs.take i) := by
  intro i
  induction i with
  | zero => intro _; rfl
  | succ i ih =>
    intro hi
    rw [take_succ_snoc (by omega), numL_snoc, ← ih (by omega), ← bt_str (ch_bytes h)]; rfl
theorem num_text (n : Nat) : num (strOfNums (textN n)) (strOfNums (textN n)).size = n := by
  rw [strOfNums_size, num_str (ch_textN n) _ (Nat.le_refl _), List.take_length, numL_textN]
theorem ch_getD {l : List Int} (h : Ch l) {i : Nat} (hi : i < l.length) : 48 ≤ l.getD i 0 ∧ l.getD i 0 ≤ 57 := by
  rw [List.getD_eq_getElem?_getD, List.getElem?_eq_getElem hi]; exact h _ (List.getElem_mem hi)
theorem digs_head {n : Nat} (h : n ≠ 0) : (digs n).getD 0 0 ≠ 48 := by
  induction n using Nat.strongRecOn with
  | _ n ih =>
    rw [digs_pos h]
    by_cases h1 : n / 10 = 0
    · rw [h1, digs_zero]
      show ((48 + n % 10 : Nat) : Int) ≠ 48
      omega
    · have h2 := digs_ne h1
      have := ih _ (by omega) h1
      rw [List.getD_eq_getElem?_getD, List.getElem?_append_left h2, ← List.getD_eq_getElem?_getD]
      exact this
theorem good_text (n : Nat) : Good (strOfNums (textN n)) := by
  have hb := ch_bytes (ch_textN n)
  refine ⟨by rw [strOfNums_size]; exact textN_pos n, ?_, ?_⟩
  · intro i hi
    rw [strOfNums_size] at hi
    unfold dg
    rw [bt_str hb]
    exact ch_getD (ch_textN n) hi
  · by_cases h : n = 0
    · subst h; left; rw [strOfNums_size]; rfl
    · right
      have := bt_str hb 0
      rw [show ((0 : Nat) : Int) = 0 from rfl] at this
      rw [this]
      unfold textN
      rw [if_neg h]
      exact digs_head h
theorem num_ne {s : ByteArray} (h : 0 < s.size) (hd : ∀ i, i < s.size → dg s i) (h0 : bt s 0 ≠ 48) : ∀ i, num s (i + 1) ≠ 0 := by
  intro i
  induction i with
  | zero =>
    have := (hd 0 h).1
    show 0 * 10 + (bt s ((0 : Nat) : Int) - 48).toNat ≠ 0
    rw [show ((0 : Nat) : Int) = 0 from rfl] at *
    omega
  | succ i ih =>
    show num s (i + 1) * 10 + _ ≠ 0
    omega
theorem digs_num {s : ByteArray} (h : 0 < s.size) (hd : ∀ i, i < s.size → dg s i) (h0 : bt s 0 ≠ 48) : ∀ i, i ≤ s.size → digs (num s i) = (List.range i).map (fun j : Nat => bt s (j : Int)) := by
  intro i
  induction i with
  | zero => intro _; exact digs_zero
  | succ i ih =>
    intro hi
    have hc := hd i (by omega)
    unfold dg at hc
    have hn : num s (i + 1) = num s i * 10 + (bt s (i : Int) - 48).toNat := rfl
    rw [digs_pos (num_ne h hd h0 i), hn, show (num s i * 10 + (bt s (i : Int) - 48).toNat) / 10 = num s i by omega, ih (by omega), List.range_succ, List.map_append]
    congr 1
    show [_] = [bt s (i : Int)]
    congr 1
    omega
/-- A number's string is the text of the number that it tells. -/
theorem text_num {s : ByteArray} (h : Good s) : strOfNums (textN (num s s.size)) = s := by
  obtain ⟨h1, hd, h2⟩ := h
  by_cases h0 : bt s 0 = 48
  · have h3 : s.size = 1 := by
      rcases h2 with h2 | h2
      · exact h2
      · exact absurd h0 h2
    have hn : num s s.size = 0 := by
      rw [h3]
      show 0 * 10 + (bt s ((0 : Nat) : Int) - 48).toNat = 0
      rw [show ((0 : Nat) : Int) = 0 from rfl, h0]; rfl
    rw [hn]
    refine str_of_bt (by rw [h3]; rfl) ?_
    intro i hi
    have hi0 : i = 0 := by
      have : (textN 0).length = 1 := rfl
      omega
    subst hi0
    rw [show ((0 : Nat) : Int) = 0 from rfl, h0]; rfl
  · have hne : num s s.size ≠ 0 := by
      have := num_ne h1 hd h0 (s.size - 1)
      rwa [Nat.sub_add_cancel h1] at this
    have e := digs_num h1 hd h0 s.size (Nat.le_refl _)
    unfold textN
    rw [if_neg hne, e]
    refine str_of_bt (by simp) ?_
    intro i hi
    have hi : i < s.size := by simpa using hi
    rw [List.getD_eq_getElem?_getD, List.getElem?_map, List.getElem?_range hi]; rfl
end Go.Proofs.Ytkbnfdiglbpfmaa.M
