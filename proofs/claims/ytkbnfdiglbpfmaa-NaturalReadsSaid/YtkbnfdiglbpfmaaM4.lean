/- Bits of numbers by limbs: the length in bits, a limb, a bit. And what size and DivMod of the program come to. -/
import Derived.Test.YtkbnfdiglbpfmaaM3
import Derived.Test.YtkbnfdiglbpfmaaP1
import Derived.Test.YtkbnfdiglbpfmaaP2
namespace Go.Proofs.Ytkbnfdiglbpfmaa.M
open Go.RowKit Go.Proofs.Ytkbnfdiglbpfmaa.P Go.Proofs.YtkbnfdiglbpfmaaW.PrintWords Go.Proofs.YtkbnfdiglbpfmaaW.PrintLast Go.Proofs.YtkbnfdiglbpfmaaW.PrintMore

/-- The number of binary digits. -/
def blen (n : Nat) : Nat := if h : n = 0 then 0 else blen (n / 2) + 1
termination_by n
decreasing_by omega
theorem blen_zero : blen 0 = 0 := by unfold blen; simp
theorem blen_pos {n : Nat} (h : n ≠ 0) : blen n = blen (n / 2) + 1 := by rw [blen]; simp [h]
theorem blen_shift (k : Nat) : ∀ n, n / 2 ^ k ≠ 0 → blen n = blen (n / 2 ^ k) + k := by
  induction k with
  | zero => intro n _; simp
  | succ k ih =>
    intro n h
    have hn : n ≠ 0 := by rintro rfl; simp at h
    have h2 : n / 2 ^ (k + 1) = n / 2 / 2 ^ k := by rw [Nat.pow_succ, Nat.mul_comm, Nat.div_div_eq_div_mul]
    rw [h2] at h ⊢
    rw [blen_pos hn, ih _ h]; omega
theorem lt_blen (n : Nat) : n < 2 ^ blen n := by
  induction n using Nat.strongRecOn with
  | _ n ih =>
    by_cases h : n = 0
    · subst h; rw [blen_zero]; decide
    · rw [blen_pos h, Nat.pow_succ]
      have := ih (n / 2) (by omega)
      omega
theorem blen_le {n : Nat} (h : n ≠ 0) : 2 ^ (blen n - 1) ≤ n := by
  induction n using Nat.strongRecOn with
  | _ n ih =>
    rw [blen_pos h, Nat.add_sub_cancel]
    by_cases h2 : n / 2 = 0
    · rw [h2, blen_zero]; show 1 ≤ n; omega
    · have := ih (n / 2) (by omega) h2
      have h3 : blen (n / 2) = (blen (n / 2) - 1) + 1 := by rw [blen_pos h2]; omega
      rw [h3, Nat.pow_succ]
      omega
theorem blen_le_iff {n k : Nat} : blen n ≤ k ↔ n < 2 ^ k := by
  constructor
  · intro h; exact Nat.lt_of_lt_of_le (lt_blen n) (Nat.pow_le_pow_right (by decide) h)
  · intro h
    by_cases hn : n = 0
    · subst hn; rw [blen_zero]; exact Nat.zero_le _
    · rcases Nat.lt_or_ge k (blen n) with g | g
      · have h1 := blen_le hn
        have h2 := Nat.pow_le_pow_right (show 0 < 2 by decide) (show k ≤ blen n - 1 by omega)
        omega
      · exact g
theorem P_two (m : Nat) : P m = 2 ^ (32 * m) := by unfold P; rw [Nat.pow_mul]
theorem blen_len {n : Nat} : blen n ≤ 32 * (ofN n).length := by
  rw [blen_le_iff, ← P_two]; exact lt_P_len n
theorem len_blen {n : Nat} (h : n ≠ 0) : 32 * ((ofN n).length - 1) < blen n := by
  rcases Nat.lt_or_ge (32 * ((ofN n).length - 1)) (blen n) with g | g
  · exact g
  · have g := blen_le_iff.1 g
    rw [← P_two] at g
    have := P_len_le h
    omega
/-- A limb of a number. -/
theorem limb_eq {l : List Int} (h : Lim l) (i : Nat) : (l.getD i 0).toNat = val l / P i % 4294967296 := by
  induction l generalizing i with
  | nil => simp [val]
  | cons x l ih =>
    rw [lim_cons] at h
    have hv : val (x :: l) = x.toNat + 4294967296 * val l := rfl
    cases i with
    | zero => rw [hv, P_zero, Nat.div_one]; show x.toNat = _; omega
    | succ i =>
      rw [hv, P_succ, ← Nat.div_div_eq_div_mul, show (x.toNat + 4294967296 * val l) / 4294967296 = val l from by omega]
      exact ih h.2 i
theorem pow_split (i : Nat) : 2 ^ i = P (i / 32) * 2 ^ (i % 32) := by
  rw [P_two, ← Nat.pow_add]; congr 1; omega
/-- A bit of a number, by its limb. -/
theorem bit_eq {l : List Int} (h : Lim l) (i : Nat) : (l.getD (i / 32) 0).toNat / 2 ^ (i % 32) % 2 = val l / 2 ^ i % 2 := by
  rw [limb_eq h, pow_split i, ← Nat.div_div_eq_div_mul]
  generalize val l / P (i / 32) = z
  generalize ht : i % 32 = t
  have htl : t < 32 := by omega
  have e : (4294967296 : Nat) = 2 ^ t * (2 * 2 ^ (31 - t)) := by
    have : (4294967296 : Nat) = 2 ^ 32 := rfl
    rw [this, ← Nat.pow_succ', ← Nat.pow_add]; congr 1; omega
  rw [e, Nat.mod_mul_right_div_self, Nat.mod_mul_right_mod]

/-- The same, by rounds. -/
def blenF : Nat → Nat → Nat
  | 0, _ => 0
  | f + 1, n => if n = 0 then 0 else blenF f (n / 2) + 1
theorem blenF_eq (f : Nat) : ∀ n, n < 2 ^ f → blenF f n = blen n := by
  induction f with
  | zero => intro n h; have : n = 0 := by simpa using h
            subst this; rw [blen_zero]; rfl
  | succ f ih =>
    intro n h
    rw [Nat.pow_succ] at h
    show (if n = 0 then 0 else blenF f (n / 2) + 1) = _
    by_cases hn : n = 0
    · rw [if_pos hn, hn, blen_zero]
    · rw [if_neg hn, blen_pos hn, ih _ (by omega)]
theorem tab_eq : ∀ n : Fin 256, bt (⟨#[0, 1, 2, 2, 3, 3, 3, 3, 4, 4, 4, 4, 4, 4, 4, 4, 5, 5, 5, 5, 5, 5, 5, 5, 5, 5, 5, 5, 5, 5, 5, 5, 6, 6, 6, 6, 6, 6, 6, 6, 6, 6, 6, 6, 6, 6, 6, 6, 6, 6, 6, 6, 6, 6, 6, 6, 6, 6, 6, 6, 6, 6, 6, 6, 7, 7, 7, 7, 7, 7, 7, 7, 7, 7, 7, 7, 7, 7, 7, 7, 7, 7, 7, 7, 7, 7, 7, 7, 7, 7, 7, 7, 7, 7, 7, 7, 7, 7, 7, 7, 7, 7, 7, 7, 7, 7, 7, 7, 7, 7, 7, 7, 7, 7, 7, 7, 7, 7, 7, 7, 7, 7, 7, 7, 7, 7, 7, 7, 8, 8, 8, 8, 8, 8, 8, 8, 8, 8, 8, 8, 8, 8, 8, 8, 8, 8, 8, 8, 8, 8, 8, 8, 8, 8, 8, 8, 8, 8, 8, 8, 8, 8, 8, 8, 8, 8, 8, 8, 8, 8, 8, 8, 8, 8, 8, 8, 8, 8, 8, 8, 8, 8, 8, 8, 8, 8, 8, 8, 8, 8, 8, 8, 8, 8, 8, 8, 8, 8, 8, 8, 8, 8, 8, 8, 8, 8, 8, 8, 8, 8, 8, 8, 8, 8, 8, 8, 8, 8, 8, 8, 8, 8, 8, 8, 8, 8, 8, 8, 8, 8, 8, 8, 8, 8, 8, 8, 8, 8, 8, 8, 8, 8, 8, 8, 8, 8, 8, 8, 8, 8, 8, 8, 8, 8, 8, 8]⟩ : ByteArray) (n.val : Int) = ((blenF 8 n.val : Nat) : Int) := by
  decide +kernel
theorem tab {n : Nat} (hn : n < 256) : bt (⟨#[0, 1, 2, 2, 3, 3, 3, 3, 4, 4, 4, 4, 4, 4, 4, 4, 5, 5, 5, 5, 5, 5, 5, 5, 5, 5, 5, 5, 5, 5, 5, 5, 6, 6, 6, 6, 6, 6, 6, 6, 6, 6, 6, 6, 6, 6, 6, 6, 6, 6, 6, 6, 6, 6, 6, 6, 6, 6, 6, 6, 6, 6, 6, 6, 7, 7, 7, 7, 7, 7, 7, 7, 7, 7, 7, 7, 7, 7, 7, 7, 7, 7, 7, 7, 7, 7, 7, 7, 7, 7, 7, 7, 7, 7, 7, 7, 7, 7, 7, 7, 7, 7, 7, 7, 7, 7, 7, 7, 7, 7, 7, 7, 7, 7, 7, 7, 7, 7, 7, 7, 7, 7, 7, 7, 7, 7, 7, 7, 8, 8, 8, 8, 8, 8, 8, 8, 8, 8, 8, 8, 8, 8, 8, 8, 8, 8, 8, 8, 8, 8, 8, 8, 8, 8, 8, 8, 8, 8, 8, 8, 8, 8, 8, 8, 8, 8, 8, 8, 8, 8, 8, 8, 8, 8, 8, 8, 8, 8, 8, 8, 8, 8, 8, 8, 8, 8, 8, 8, 8, 8, 8, 8, 8, 8, 8, 8, 8, 8, 8, 8, 8, 8, 8, 8, 8, 8, 8, 8, 8, 8, 8, 8, 8, 8, 8, 8, 8, 8, 8, 8, 8, 8, 8, 8, 8, 8, 8, 8, 8, 8, 8, 8, 8, 8, 8, 8, 8, 8, 8, 8, 8, 8, 8, 8, 8, 8, 8, 8, 8, 8, 8, 8, 8, 8, 8, 8]⟩ : ByteArray) (n : Int) = ((blen n : Nat) : Int) := (tab_eq ⟨n, hn⟩).trans (congrArg (fun x : Nat => (x : Int)) (blenF_eq 8 n hn))
theorem len32_eq {a : Nat} (h : a < 4294967296) : bits_Len32.f (a : Int) = some ((blen a : Nat) : Int) := by
  have nz : ∀ n : Nat, n < 256 → blen n ≤ 8 := fun n hn => blen_le_iff.2 hn
  unfold bits_Len32.f
  by_cases h1 : (a : Int) ≥ 65536
  · rw [if_pos h1]
    have q1 : (a : Int) / 65536 = ((a / 65536 : Nat) : Int) := by omega
    rw [q1]
    by_cases h2 : ((a / 65536 : Nat) : Int) ≥ 256
    · have q2 : ((a / 65536 : Nat) : Int) / 256 % 256 = ((a / 16777216 : Nat) : Int) := by omega
      have hn : a / 16777216 < 256 := by omega
      rw [if_pos h2, q2, if_pos (by omega), if_pos (by omega), tab hn, blen_shift 24 a (by show a / 16777216 ≠ 0; omega)]
      have hb : a / 2 ^ 24 = a / 16777216 := rfl
      have := nz _ hn
      rw [hb, w64 (x := ((blen (a / 16777216) : Nat) : Int)) (by omega) (by omega), w64 (by omega) (by omega)]
      congr 1; omega
    · have q2 : ((a / 65536 : Nat) : Int) % 256 = ((a / 65536 : Nat) : Int) := by omega
      have hn : a / 65536 < 256 := by omega
      rw [if_neg h2, q2, if_pos (by omega), if_pos (by omega), tab hn, blen_shift 16 a (by show a / 65536 ≠ 0; omega)]
      have hb : a / 2 ^ 16 = a / 65536 := rfl
      have := nz _ hn
      rw [hb, w64 (x := ((blen (a / 65536) : Nat) : Int)) (by omega) (by omega), w64 (by omega) (by omega)]
      congr 1; omega
  · rw [if_neg h1]
    by_cases h2 : (a : Int) ≥ 256
    · have q2 : (a : Int) / 256 % 256 = ((a / 256 : Nat) : Int) := by omega
      have hn : a / 256 < 256 := by omega
      rw [if_pos h2, q2, if_pos (by omega), if_pos (by omega), tab hn, blen_shift 8 a (by show a / 256 ≠ 0; omega)]
      have hb : a / 2 ^ 8 = a / 256 := rfl
      have := nz _ hn
      rw [hb, w64 (x := ((blen (a / 256) : Nat) : Int)) (by omega) (by omega), w64 (by omega) (by omega)]
      congr 1; omega
    · have q2 : (a : Int) % 256 = (a : Int) := by omega
      have hn : a < 256 := by omega
      rw [if_neg h2, q2, if_pos (by omega), if_pos (by omega), tab hn]
      have := nz _ hn
      rw [w64 (x := ((blen a : Nat) : Int)) (by omega) (by omega), w64 (by omega) (by omega)]
      congr 1; omega
theorem size_ev {a : List Int} (ha : Lim a) (sa : a.length ≤ 1000000000) : Ev (fun k => natural_size.f k a) ((blen (val a) : Nat) : Int) := by
  refine Ev.bind (trim_ev ha sa) ?_
  have h1 := len_val_le ha
  by_cases h0 : val a = 0
  · rw [h0, ofN_zero, blen_zero]
    exact pos rfl (Ev.now _)
  · have hp : 0 < (ofN (val a)).length := ofN_length_pos.2 (by omega)
    have lb := lim_getD (lim_ofN (val a)) ((ofN (val a)).length - 1)
    have w1 : wrap64 (((ofN (val a)).length : Int) - 1) = (((ofN (val a)).length - 1 : Nat) : Int) := by rw [w64 (by omega) (by omega)]; omega
    refine neg (by omega) ?_
    rw [w1]
    refine pos (by omega) (pos (by omega) ?_)
    have hl := limb_eq (lim_ofN (val a)) ((ofN (val a)).length - 1)
    rw [val_ofN] at hl
    generalize hm : (ofN (val a)).length - 1 = m at *
    generalize hx : (ofN (val a)).getD m 0 = x at *
    have hlt : val a < P (m + 1) := by have := lt_P_len (val a); rwa [show (ofN (val a)).length = m + 1 by omega] at this
    have hge : P m ≤ val a := by have := P_len_le h0; rwa [hm] at this
    have hq : val a / P m < 4294967296 := by
      rw [Nat.div_lt_iff_lt_mul (P_pos m), ← P_succ]; exact hlt
    have hq0 : val a / P m ≠ 0 := by
      have := Nat.div_pos hge (P_pos m); omega
    rw [Nat.mod_eq_of_lt hq] at hl
    have hxx : x = ((val a / P m : Nat) : Int) := by omega
    have hb : blen (val a) = blen (val a / P m) + 32 * m := by
      rw [P_two] at hq0 ⊢; exact blen_shift _ _ hq0
    have h32 : blen (val a / P m) ≤ 32 := blen_le_iff.2 hq
    rw [rd_nat, hx, hxx]
    refine bind0 (len32_eq hq) (now ?_)
    rw [hb]
    clear hb hl hxx hq0 hlt hge hq
    rw [w64 (x := 32 * (m : Int)) (by omega) (by omega), w64 (by omega) (by omega)]
    omega
end Go.Proofs.Ytkbnfdiglbpfmaa.M
