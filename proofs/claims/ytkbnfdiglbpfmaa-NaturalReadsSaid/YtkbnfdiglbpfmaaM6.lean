/- What Sqrt of the program comes to, in numbers. -/
import Derived.Test.YtkbnfdiglbpfmaaM5
import Derived.Test.YtkbnfdiglbpfmaaP4
namespace Go.Proofs.Ytkbnfdiglbpfmaa.M
open Go.RowKit Go.Proofs.Ytkbnfdiglbpfmaa.P Go.Proofs.YtkbnfdiglbpfmaaW.PrintWords Go.Proofs.YtkbnfdiglbpfmaaW.PrintLast Go.Proofs.YtkbnfdiglbpfmaaW.PrintMore

/-- r is the root of n, rounded down. -/
def IsRoot (n r : Nat) : Prop := r * r ≤ n ∧ n < (r + 1) * (r + 1)
theorem sq_lt {a b : Nat} (h : a < b) : a * a < b * b := Nat.mul_self_lt_mul_self h
theorem le_of_sq {a b : Nat} (h : a * a ≤ b * b) : a ≤ b := by
  rcases Nat.lt_or_ge b a with g | g
  · have := sq_lt g; omega
  · exact g
theorem root_unique {n r s : Nat} (hr : IsRoot n r) (hs : IsRoot n s) : r = s := by
  obtain ⟨a, b⟩ := hr
  obtain ⟨c, d⟩ := hs
  have h1 : r < s + 1 := by
    rcases Nat.lt_or_ge r (s + 1) with g | g
    · exact g
    · have := Nat.mul_self_le_mul_self g; omega
  have h2 : s < r + 1 := by
    rcases Nat.lt_or_ge s (r + 1) with g | g
    · exact g
    · have := Nat.mul_self_le_mul_self g; omega
  omega
/-- Newton's step stays at or above the root. -/
theorem newton {a x s : Nat} (hx : 0 < x) (hs : s * s ≤ a) (hxs : s ≤ x) : s ≤ (x + a / x) / 2 := by
  obtain ⟨e, rfl⟩ := Nat.exists_eq_add_of_le hxs
  rcases Nat.lt_or_ge s e with g | g
  · have : s + s ≤ s + e := by omega
    have := Nat.zero_le (a / (s + e)); omega
  · obtain ⟨f, rfl⟩ := Nat.exists_eq_add_of_le g
    have h1 : f * (e + f + e) ≤ a := by
      refine Nat.le_trans ?_ hs
      have : (e + f) * (e + f) = e * e + f * (e + f + e) := by grind
      omega
    have h2 : f ≤ a / (e + f + e) := (Nat.le_div_iff_mul_le hx).2 h1
    omega
theorem newton_above {a x : Nat} (hx : 0 < x) (h : a < (x + 1) * (x + 1)) : a < ((x + a / x) / 2 + 1) * ((x + a / x) / 2 + 1) := by
  rcases Nat.lt_or_ge a (((x + a / x) / 2 + 1) * ((x + a / x) / 2 + 1)) with g | g
  · exact g
  · have h1 : (x + a / x) / 2 + 1 ≤ x := by
      rcases Nat.lt_or_ge x ((x + a / x) / 2 + 1) with g2 | g2
      · have := Nat.mul_self_le_mul_self g2
        have e : x.succ * x.succ = (x + 1) * (x + 1) := rfl
        omega
      · exact g2
    have := newton hx g h1
    omega
theorem newton_end {a x : Nat} (hx : 0 < x) (h : x ≤ (x + a / x) / 2) : x * x ≤ a := by
  have h1 : x ≤ a / x := by omega
  exact (Nat.le_div_iff_mul_le hx).1 h1
theorem sqrt_l0 {a : Nat} (ha : a ≠ 0) (sa : (ofN a).length ≤ 100000000) : ∀ x : Nat, a < (x + 1) * (x + 1) → ∀ l : List Int, Lim l → l.length ≤ 100000000 → val l = x → ∃ r, Ev (fun k => natural_Sqrt.l0 k (ofN a) l) (ofN r) ∧ IsRoot a r := by
  intro x
  induction x using Nat.strongRecOn with
  | _ x ih =>
    intro hx l hl sl hv
    have hx0 : x ≠ 0 := by rintro rfl; omega
    have hd := divmod_ev (lim_ofN a) hl sa sl
    rw [val_ofN, hv, if_neg hx0] at hd
    have hq : a / x ≤ a := Nat.div_le_self _ _
    have sq : (ofN (a / x)).length ≤ 100000000 := Nat.le_trans (len_mono hq) sa
    have hA := add_ev hl (lim_ofN (a / x)) (by omega) (by omega)
    rw [val_ofN, hv] at hA
    have slx : (ofN x).length ≤ 100000000 := by rw [← hv]; exact Nat.le_trans (len_val_le hl) sl
    have sadd : (ofN (x + a / x)).length ≤ 100000001 := by
      have := len_add x (a / x); omega
    have hH := half_ev (lim_ofN (x + a / x)) (by omega)
    rw [val_ofN] at hH
    have shalf : (ofN ((x + a / x) / 2)).length ≤ 100000001 := Nat.le_trans (len_mono (Nat.div_le_self _ _)) sadd
    have hC := cmp_ev (lim_ofN ((x + a / x) / 2)) hl (by omega) (by omega)
    rw [val_ofN, hv] at hC
    by_cases hge : x ≤ (x + a / x) / 2
    · have hN := norm_ev hl (by omega)
      rw [hv] at hN
      refine ⟨x, Ev.step (fun k => by rw [natural_Sqrt.l0]) (Ev.bind hd (Ev.bind hA (Ev.bind hH (Ev.bind hC (pos (cmp_nonneg.2 hge) (Ev.bind hN (Ev.now _))))))), newton_end (by omega) hge, hx⟩
    · have hlt : (x + a / x) / 2 < x := by omega
      obtain ⟨r, h1, h2⟩ := ih _ hlt (newton_above (by omega) hx) (ofN ((x + a / x) / 2)) (lim_ofN _) (Nat.le_trans (len_mono (Nat.le_of_lt hlt)) slx) (val_ofN _)
      exact ⟨r, Ev.step (fun k => by rw [natural_Sqrt.l0]) (Ev.bind hd (Ev.bind hA (Ev.bind hH (Ev.bind hC (neg (fun h => hge (cmp_nonneg.1 h)) h1))))), h2⟩
theorem sqrt_ev {a : List Int} (ha : Lim a) (sa : a.length ≤ 50000000) : ∃ r, Ev (fun k => natural_Sqrt.f k a) (ofN r) ∧ IsRoot (val a) r := by
  have h1 := len_val_le ha
  have hn := norm_ev ha (by omega)
  generalize val a = α at *
  by_cases h0 : α = 0
  · subst h0
    refine ⟨0, Ev.bind hn ?_, by decide, by decide⟩
    rw [ofN_zero]
    exact pos rfl (Ev.now _)
  · have hp : 0 < (ofN α).length := ofN_length_pos.2 (by omega)
    have hsz := size_ev (lim_ofN α) (by omega)
    rw [val_ofN] at hsz
    have hbl := blen_len (n := α)
    have hn2 : ∃ n, n = (blen α + 1) / 2 := ⟨_, rfl⟩
    obtain ⟨n, hn2⟩ := hn2
    have hn5 : n / 32 + 1 ≤ 50000001 := by clear hsz hn; omega
    have w1 : wrap64 (((blen α : Nat) : Int) + 1) = ((blen α + 1 : Nat) : Int) := by rw [w64 (by omega) (by omega)]; omega
    have t1 : Int.tdiv ((blen α + 1 : Nat) : Int) 2 = (n : Int) := by rw [Int.tdiv_eq_ediv_of_nonneg (by omega)]; omega
    have w2 : wrap64 (n : Int) = (n : Int) := w64 (by omega) (by omega)
    have w3 : wrap64 ((n / 32 : Nat) : Int) = ((n / 32 : Nat) : Int) := w64 (by omega) (by omega)
    have w4 : wrap64 (((n / 32 : Nat) : Int) + 1) = ((n / 32 + 1 : Nat) : Int) := by rw [w64 (by omega) (by omega)]; omega
    have hlim : α < (2 ^ n + 1) * (2 ^ n + 1) := by
      have h2 := lt_blen α
      have h3 : 2 ^ blen α ≤ 2 ^ (n + n) := Nat.pow_le_pow_right (by decide) (by omega)
      rw [Nat.pow_add] at h3
      have h4 := Nat.mul_le_mul (Nat.le_succ (2 ^ n)) (Nat.le_succ (2 ^ n))
      have e : (2 ^ n).succ * (2 ^ n).succ = (2 ^ n + 1) * (2 ^ n + 1) := rfl
      omega
    have hrep : (List.replicate (n / 32 + 1) (0 : Int)).length = n / 32 + 1 := List.length_replicate
    have hvs := val_set (l := List.replicate (n / 32 + 1) 0) (i := n / 32) (by rw [hrep]; omega) ((2 ^ (n % 32) : Nat) : Int)
    rw [val_rep, getD_rep, Int.toNat_natCast, ← pow_split] at hvs
    have hv : val ((List.replicate (n / 32 + 1) (0 : Int)).set (n / 32) ((2 ^ (n % 32) : Nat) : Int)) = 2 ^ n := by simpa using hvs
    obtain ⟨r, h2, h3⟩ := sqrt_l0 h0 (by omega) (2 ^ n) hlim _ (lim_set (lim_rep _) (n / 32) (Int.natCast_nonneg _) (Int.ofNat_lt.2 (two_pow_lt (Nat.mod_lt n (by decide))))) (by rw [List.length_set, hrep]; exact Nat.le_trans hn5 (by decide)) hv
    refine ⟨r, Ev.bind hn (neg (by omega) (Ev.bind hsz ?_)), h3⟩
    rw [w1, t1, w2, tdiv32, w3, w4, tmod32, shl_one (Nat.mod_lt _ (by decide))]
    refine pos (Int.natCast_nonneg _) (pos ?_ (bind0 rfl (pos (Int.natCast_nonneg _) (pos (Int.natCast_nonneg _) (pos ?_ h2)))))
    · rw [Int.toNat_natCast]; exact Nat.le_trans hn5 (by decide)
    · rw [Int.toNat_natCast, hrep]; exact Int.ofNat_lt.2 (Nat.lt_succ_self _)
end Go.Proofs.Ytkbnfdiglbpfmaa.M
