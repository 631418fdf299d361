/- What the limb functions of the program come to, in numbers: Mul, small, half, size. -/
import Derived.Test.YtkbnfdiglbpfmaaM2
import Derived.Test.YtkbnfdiglbpfmaaP1
import Derived.Test.YtkbnfdiglbpfmaaP2
import Derived.Test.YtkbnfdiglbpfmaaP3
namespace Go.Proofs.Ytkbnfdiglbpfmaa.M
open Go.RowKit Go.Proofs.Ytkbnfdiglbpfmaa.P Go.Proofs.YtkbnfdiglbpfmaaW.PrintWords Go.Proofs.YtkbnfdiglbpfmaaW.PrintLast Go.Proofs.YtkbnfdiglbpfmaaW.PrintMore

/-! products -/
/-- One limb of the first, times the second, added from place i on: k limbs are done. -/
theorem mul_l1 {a b : List Int} (ha : Lim a) (hb : Lim b) (sab : a.length + b.length ≤ 1000000000) {i : Nat} (hi : i < a.length) {r : List Int}
    (next : ∀ o : List Int, Lim o → o.length = a.length + b.length → (∀ j, i + 1 + b.length ≤ j → o.getD j 0 = 0) → val o = val (a.take (i + 1)) * val b → Ev (fun k => natural_Mul.l0 k a b o (a.length : Int) ((i + 1 : Nat) : Int)) r) :
    ∀ d k, d + k = b.length → ∀ (o : List Int) (c : Int), Lim o → o.length = a.length + b.length → 0 ≤ c → c < 4294967296 → (∀ j, i + b.length ≤ j → o.getD j 0 = 0) →
    val o + P (i + k) * c.toNat = val (a.take i) * val b + P i * (a.getD i 0).toNat * val (b.take k) →
    Ev (fun n => natural_Mul.l1 n a b o (i : Int) c (a.length : Int) (i : Int) (b.length : Int) (k : Int)) r := by
  intro d
  induction d with
  | zero =>
    intro k hd o c ho hol h0 h1 hz hv
    have hk : k = b.length := by clear hv hz next; omega
    have w1 : wrap64 ((i : Int) + (b.length : Int)) = ((i + b.length : Nat) : Int) := by clear hv hz next; rw [w64 (by omega) (by omega)]; omega
    have w2 : wrap64 ((i : Int) + 1) = ((i + 1 : Nat) : Int) := by clear hv hz next; rw [w64 (by omega) (by omega)]; omega
    have hlt : i + b.length < o.length := by clear hv hz next; omega
    have c1 : ¬ (k : Int) < (b.length : Int) := by clear hv hz next; omega
    have c2 : (0 : Int) ≤ ((i + b.length : Nat) : Int) := Int.natCast_nonneg _
    have c3 : ((i + b.length : Nat) : Int) < (o.length : Int) := Int.ofNat_lt.2 hlt
    refine Ev.step (fun k => by rw [natural_Mul.l1]) ?_
    rw [w1, w2]
    refine neg c1 (pos c2 (pos c3 ?_))
    refine next _ (lim_set ho _ (Int.emod_nonneg _ (by decide)) (Int.emod_lt_of_pos _ (by decide))) (by rw [List.length_set, hol]) ?_ ?_
    · intro j hj
      have hne : i + b.length ≠ j := by clear hv hz next; omega
      exact (getD_set_ne hne).trans (hz j (by clear hv hz next; omega))
    · have hs := val_set hlt (c % 4294967296)
      rw [hz _ (Nat.le_refl _)] at hs
      have ec : c % 4294967296 = c := Int.emod_eq_of_lt h0 h1
      rw [ec] at hs
      have hx : (((i + b.length : Nat) : Int)).toNat = i + b.length := rfl
      rw [hx, ec, val_take_succ hi]
      rw [hk, List.take_length] at hv
      clear next hz w1 w2 ec hx ho
      have : ((0 : Int)).toNat = 0 := rfl
      rw [this] at hs
      grind
  | succ d ih =>
    intro k hd o c ho hol h0 h1 hz hv
    have la := lim_getD ha i
    have lb := lim_getD hb k
    have lo := lim_getD ho (i + k)
    have w1 : wrap64 ((i : Int) + (k : Int)) = ((i + k : Nat) : Int) := by clear hv hz next ih la lb lo; rw [w64 (by omega) (by omega)]; omega
    have w2 : wrap64 ((k : Int) + 1) = ((k + 1 : Nat) : Int) := by clear hv hz next ih la lb lo; rw [w64 (by omega) (by omega)]; omega
    have c1 : (k : Int) < (b.length : Int) := by clear hv hz next ih la lb lo; omega
    have c2 : (0 : Int) ≤ (i : Int) := Int.natCast_nonneg _
    have c3 : (i : Int) < (a.length : Int) := Int.ofNat_lt.2 hi
    have c4 : (0 : Int) ≤ (k : Int) := Int.natCast_nonneg _
    have c5 : (0 : Int) ≤ ((i + k : Nat) : Int) := Int.natCast_nonneg _
    have hlt : i + k < o.length := by clear hv hz next ih la lb lo; omega
    have c6 : ((i + k : Nat) : Int) < (o.length : Int) := Int.ofNat_lt.2 hlt
    have step : ∀ s : Int, s = c + (a.getD i 0 * b.getD k 0 + o.getD (i + k) 0) → 0 ≤ s → s < 18446744073709551616 → Ev (fun n => natural_Mul.l1 n a b (o.set (i + k) (s % 4294967296)) (i : Int) (s / 4294967296) (a.length : Int) (i : Int) (b.length : Int) ((k + 1 : Nat) : Int)) r := by
      intro s hs s0 s1
      refine ih (k + 1) (by clear hv hz next ih la lb lo hs; omega) _ _ (lim_set ho _ (Int.emod_nonneg _ (by decide)) (Int.emod_lt_of_pos _ (by decide))) (by rw [List.length_set, hol]) (by clear hv hz next ih la lb lo hs; omega) (by clear hv hz next ih la lb lo hs; omega) ?_ ?_
      · intro j hj
        have hne : i + k ≠ j := by clear hv hz next ih la lb lo hs; omega
        exact (getD_set_ne hne).trans (hz j hj)
      · have hvs := val_set hlt (s % 4294967296)
        have htk := val_take_succ (l := b) (i := k) (Int.ofNat_lt.1 c1)
        have hsn : (s % 4294967296).toNat + 4294967296 * (s / 4294967296).toNat = c.toNat + (a.getD i 0).toNat * (b.getD k 0).toNat + (o.getD (i + k) 0).toNat := by
          have e : (a.getD i 0 * b.getD k 0).toNat = (a.getD i 0).toNat * (b.getD k 0).toNat := Int.toNat_mul la.1 lb.1
          have e0 : 0 ≤ a.getD i 0 * b.getD k 0 := Int.mul_nonneg la.1 lb.1
          rw [← e]
          clear hvs htk hv hz ih next
          omega
        rw [htk, show i + (k + 1) = (i + k) + 1 from rfl, P_succ]
        have hp := P_add i k
        clear ih hz next w1 w2 c1 c2 c3 c4 c5 c6 htk hs s0 s1 la lb lo
        generalize (s % 4294967296).toNat = u1 at *
        generalize (s / 4294967296).toNat = u2 at *
        generalize (a.getD i 0).toNat = x at *
        generalize (b.getD k 0).toNat = y at *
        generalize (o.getD (i + k) 0).toNat = z at *
        generalize c.toNat = cc at *
        generalize val (o.set (i + k) (s % 4294967296)) = vo2 at *
        generalize val o = vo at *
        generalize val (a.take i) * val b = A at *
        generalize val (b.take k) = B at *
        rw [hp] at hvs hv ⊢
        have h9 : P i * P k * (u1 + 4294967296 * u2) = P i * P k * (cc + x * y + z) := by rw [hsn]
        generalize P i = p at *
        generalize P k = q at *
        clear hp hsn
        grind
    clear ih hv hz next
    have hprod : a.getD i 0 * b.getD k 0 ≤ 4294967295 * 4294967295 := Int.mul_le_mul (by omega) (by omega) lb.1 (by omega)
    have hprod0 : 0 ≤ a.getD i 0 * b.getD k 0 := Int.mul_nonneg la.1 lb.1
    refine Ev.step (fun k => by rw [natural_Mul.l1]) ?_
    rw [w1, w2, rd_nat, rd_nat, rd_nat, u64 la.1 (by omega), u64 lb.1 (by omega), u64 lo.1 (by omega)]
    generalize hab : a.getD i 0 * b.getD k 0 = ab at *
    rw [u64 (x := ab) (by omega) (by omega), u64 (x := ab + o.getD (i + k) 0) (by omega) (by omega), u64 (x := c + (ab + o.getD (i + k) 0)) (by omega) (by omega)]
    exact pos c1 (pos c2 (pos c3 (pos c4 (pos c1 (pos c5 (pos c6 (step _ rfl (by omega) (by omega))))))))
theorem mul_l0 {a b : List Int} (ha : Lim a) (hb : Lim b) (sab : a.length + b.length ≤ 1000000000) : ∀ d i, d + i = a.length → ∀ o : List Int, Lim o → o.length = a.length + b.length → (∀ j, i + b.length ≤ j → o.getD j 0 = 0) → val o = val (a.take i) * val b → Ev (fun k => natural_Mul.l0 k a b o (a.length : Int) (i : Int)) (ofN (val a * val b)) := by
  intro d
  induction d with
  | zero =>
    intro i hd o ho hol hz hv
    have hi : i = a.length := by clear hv hz; omega
    rw [hi, List.take_length] at hv
    refine Ev.step (fun k => by rw [natural_Mul.l0]) (neg (by clear hv hz; omega) (Ev.bind (trim_ev ho (by clear hv hz; omega)) (now ?_)))
    rw [hv]
  | succ d ih =>
    intro i hd o ho hol hz hv
    refine Ev.step (fun k => by rw [natural_Mul.l0]) (pos (by clear hv hz ih; omega) ?_)
    refine mul_l1 ha hb sab (i := i) (by clear hv hz ih; omega) (fun o h1 h2 hz2 h3 => ih (i + 1) (by clear hv hz ih h3 hz2; omega) o h1 h2 hz2 h3) b.length 0 (by omega) o 0 ho hol (by omega) (by omega) hz ?_
    rw [hv]; simp [val]
theorem mul_norm (x y : Nat) (h : (ofN x).length + (ofN y).length ≤ 1000000000) {l : List Int} (hl : l = List.replicate ((ofN x).length + (ofN y).length) 0) : Ev (fun k => natural_Mul.l0 k (ofN x) (ofN y) l ((ofN x).length : Int) 0) (ofN (x * y)) := by
  have := mul_l0 (lim_ofN x) (lim_ofN y) h (ofN x).length 0 (by omega) l (by rw [hl]; exact lim_rep _) (by rw [hl]; simp) (by intro j _; rw [hl]; exact getD_rep _ _) (by rw [hl, val_rep]; simp [val])
  rw [val_ofN, val_ofN] at this
  exact this
theorem mul_ev {a b : List Int} (ha : Lim a) (hb : Lim b) (sab : a.length + b.length ≤ 1000000000) : Ev (fun k => natural_Mul.f k a b) (ofN (val a * val b)) := by
  have h1 := len_val_le ha
  have h2 := len_val_le hb
  refine Ev.bind (trim_ev ha (by omega)) (Ev.bind (trim_ev hb (by omega)) ?_)
  have w : wrap64 (((ofN (val a)).length : Int) + ((ofN (val b)).length : Int)) = (((ofN (val a)).length + (ofN (val b)).length : Nat) : Int) := by rw [w64 (by omega) (by omega)]; omega
  rw [w]
  exact pos (by omega) (pos (by omega) (mul_norm _ _ (by omega) rfl))

/-! division by a limb -/
theorem or_low (x y : Int) (hx : 0 ≤ x) (hx2 : x < 4294967296) (hy : 0 ≤ y) (hy2 : y < 4294967296) : Go.bits .or .u64 (x * 4294967296) y = x * 4294967296 + y := by
  refine Go.bits_join .u64 64 (by decide) (fun n h1 h2 => u64 h1 (by simpa using h2)) 32 _ _ (by omega) ?_ ?_ hy ?_ ?_
  · show x * 4294967296 % 4294967296 = 0; omega
  · show x * 4294967296 < 18446744073709551616; omega
  · show y < 4294967296; exact hy2
  · show y < 18446744073709551616; omega
theorem small_l0 {a : List Int} (ha : Lim a) (sa : a.length ≤ 1000000000) {d : Int} (d0 : 0 < d) (d1 : d < 4294967296) : ∀ i, i ≤ a.length → ∀ (o : List Int) (c : Int), Lim o → o.length = a.length → 0 ≤ c → c < d → (∀ j, j < i → o.getD j 0 = 0) →
    val a = val o * d.toNat + (val (a.take i) + P i * c.toNat) →
    Ev (fun k => natural_small.l0 k a d o c ((i : Int) - 1)) (ofN (val a / d.toNat), ((val a % d.toNat : Nat) : Int)) := by
  intro i
  induction i with
  | zero =>
    intro hi o c ho hol c0 cd hz hv
    simp only [List.take_zero, val, P_zero, Nat.one_mul, Nat.zero_add] at hv
    have hcd : c.toNat < d.toNat := by clear hv hz; omega
    have h1 : val a / d.toNat = val o := by rw [hv, Nat.add_comm, Nat.add_mul_div_right _ _ (by omega), Nat.div_eq_of_lt hcd, Nat.zero_add]
    have h2 : val a % d.toNat = c.toNat := by rw [hv, Nat.add_comm, Nat.add_mul_mod_self_right, Nat.mod_eq_of_lt hcd]
    rw [h1, h2]
    clear h1 h2 hv hz
    refine Ev.step (fun k => by rw [natural_small.l0]) (neg (by omega) (Ev.bind (trim_ev ho (by omega)) (now ?_)))
    congr 1
    omega
  | succ i ih =>
    intro hi o c ho hol c0 cd hz hv
    have e0 : ((i + 1 : Nat) : Int) - 1 = (i : Int) := by clear hv hz ih; omega
    have hia : i < a.length := hi
    have la := lim_getD ha i
    have ew : wrap64 ((i : Int) - 1) = (i : Int) - 1 := w64 (by clear hv hz ih; omega) (by clear hv hz ih; omega)
    have hlt : i < o.length := by clear hv hz ih; omega
    have c1 : (i : Int) ≥ 0 := Int.natCast_nonneg _
    have c2 : (i : Int) < (a.length : Int) := Int.ofNat_lt.2 hia
    have c3 : (i : Int) < (o.length : Int) := Int.ofNat_lt.2 hlt
    have hc9 : c < 4294967296 := by clear hv hz ih; omega
    have ed : IntKind.u64.wrap d = d := u64 (by clear hv hz ih; omega) (by clear hv hz ih; omega)
    have ec : IntKind.u64.wrap (c * 4294967296) = c * 4294967296 := u64 (by clear hv hz ih; omega) (by clear hv hz ih; omega)
    have ea : IntKind.u64.wrap (a.getD i 0) = a.getD i 0 := u64 la.1 (by clear hv hz ih; omega)
    have ex := or_low c (a.getD i 0) c0 hc9 la.1 la.2
    rw [e0]
    refine Ev.step (fun k => by rw [natural_small.l0]) ?_
    rw [rd_nat, ed, ec, ea, ex, ew]
    generalize hs : c * 4294967296 + a.getD i 0 = s
    have s0 : 0 ≤ s := by clear hv hz ih; omega
    have hq0 : 0 ≤ s / d := Int.ediv_nonneg s0 (by clear hv hz ih; omega)
    have hq1 : s / d < 4294967296 := by
      rw [Int.ediv_lt_iff_lt_mul d0, ← hs]
      clear hv hz ih
      have : (c + 1) * 4294967296 ≤ d * 4294967296 := Int.mul_le_mul_of_nonneg_right (by omega) (by decide)
      rw [Int.mul_comm 4294967296 d]
      omega
    rw [Int.tdiv_eq_ediv_of_nonneg s0, Int.tmod_eq_emod_of_nonneg s0, u64 hq0 (by omega), Int.emod_eq_of_lt hq0 hq1]
    have hm0 := Int.emod_nonneg s (show d ≠ 0 by omega)
    have hm1 := Int.emod_lt_of_pos s d0
    have hdm := Int.mul_ediv_add_emod s d
    refine pos c1 (pos c1 (pos c2 (neg (by omega) (pos c3 ?_))))
    refine ih (by omega) _ _ (lim_set ho i hq0 hq1) (by rw [List.length_set, hol]) hm0 hm1 ?_ ?_
    · intro j hj
      exact (getD_set_ne (by clear hv hz ih; omega)).trans (hz j (by clear hv hz ih; omega))
    · have hvs := val_set hlt (s / d)
      rw [hz i (by omega)] at hvs
      have hx : ((i : Int)).toNat = i := rfl
      rw [hx]
      rw [val_take_succ hia, P_succ] at hv
      have hN : s.toNat = d.toNat * (s / d).toNat + (s % d).toNat := by
        have e1 : (d * (s / d)).toNat = d.toNat * (s / d).toNat := Int.toNat_mul (by omega) hq0
        have e2 : 0 ≤ d * (s / d) := Int.mul_nonneg (by omega) hq0
        rw [← e1]
        clear hv hvs hz ih
        omega
      have hS : s.toNat = c.toNat * 4294967296 + (a.getD i 0).toNat := by clear hv hvs hz ih hN hdm; omega
      have h9 : P i * (d.toNat * (s / d).toNat + (s % d).toNat) = P i * (c.toNat * 4294967296 + (a.getD i 0).toNat) := by rw [← hN, hS]
      have h00 : ((0 : Int)).toNat = 0 := rfl
      rw [h00] at hvs
      generalize val (o.set i (s / d)) = vo2 at *
      generalize val o = vo at *
      generalize val (a.take i) = A at *
      generalize (s / d).toNat = q at *
      generalize (s % d).toNat = m at *
      generalize (a.getD i 0).toNat = x at *
      generalize d.toNat = dd at *
      generalize c.toNat = cc at *
      generalize P i = p at *
      generalize val a = V at *
      clear ih hz hN hS hdm ex ea ec ed
      grind
theorem small_ev {a : List Int} (ha : Lim a) (sa : a.length ≤ 1000000000) {d : Int} (d0 : 0 < d) (d1 : d < 4294967296) : Ev (fun k => natural_small.f k a d) (ofN (val a / d.toNat), ((val a % d.toNat : Nat) : Int)) := by
  refine Ev.congr (fun k => by rw [natural_small.f]) (pos (by omega) (pos (by omega) ?_))
  have w : wrap64 ((a.length : Int) - 1) = (a.length : Int) - 1 := w64 (by omega) (by omega)
  rw [w]
  refine small_l0 ha sa d0 d1 a.length (Nat.le_refl _) _ 0 (lim_rep _) (by simp) (by omega) d0 ?_ ?_
  · intro j _; exact getD_rep _ _
  · rw [val_rep, List.take_length]; simp
theorem half_ev {a : List Int} (ha : Lim a) (sa : a.length ≤ 1000000000) : Ev (fun k => natural_half.f k a) (ofN (val a / 2)) := by
  have h1 := len_val_le ha
  refine Ev.bind (trim_ev ha sa) ?_
  have := small_ev (lim_ofN (val a)) (by omega) (d := 2) (by decide) (by decide)
  rw [val_ofN] at this
  exact Ev.bind this (Ev.now _)
end Go.Proofs.Ytkbnfdiglbpfmaa.M
