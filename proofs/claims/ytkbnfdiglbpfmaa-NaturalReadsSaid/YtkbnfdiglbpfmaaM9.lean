/- What the reference's limb functions come to, in numbers: Mul, Bits, Shift, Half, DivMod, Gcd, Sqrt. -/
import Derived.Test.YtkbnfdiglbpfmaaM6
import Derived.Test.YtkbnfdiglbpfmaaM8
import Derived.Test.YtkbnfdiglbpfmaaP15
import Derived.Test.YtkbnfdiglbpfmaaP16
import Derived.Test.YtkbnfdiglbpfmaaP17
import Derived.Test.YtkbnfdiglbpfmaaP18
import Derived.Test.YtkbnfdiglbpfmaaP19
import Derived.Test.YtkbnfdiglbpfmaaP21
import Derived.Test.YtkbnfdiglbpfmaaP22
namespace Go.Proofs.Ytkbnfdiglbpfmaa.M
open Go.RowKit Go.Proofs.Ytkbnfdiglbpfmaa.P Go.Proofs.YtkbnfdiglbpfmaaW.PrintWords Go.Proofs.YtkbnfdiglbpfmaaW.PrintLast Go.Proofs.YtkbnfdiglbpfmaaW.PrintMore

/-! products -/
theorem rmul_l1 {a b : List Int} (ha : Lim a) (hb : Lim b) (sab : a.length + b.length ≤ 1000000000) {i : Nat} (hi : i < a.length) {r : List Int}
    (next : ∀ o : List Int, Lim o → o.length = a.length + b.length → (∀ j, i + 1 + b.length ≤ j → o.getD j 0 = 0) → val o = val (a.take (i + 1)) * val b → Ev (fun k => garmentref01_Mul.l0 k a b o ((i + 1 : Nat) : Int)) r) :
    ∀ d k, d + k = b.length → ∀ (o : List Int) (c : Int), Lim o → o.length = a.length + b.length → 0 ≤ c → c < 4294967296 → (∀ j, i + b.length ≤ j → o.getD j 0 = 0) →
    val o + P (i + k) * c.toNat = val (a.take i) * val b + P i * (a.getD i 0).toNat * val (b.take k) →
    Ev (fun n => garmentref01_Mul.l1 n a b o (i : Int) c (k : Int)) r := by
  intro d
  induction d with
  | zero =>
    intro k hd o c ho hol h0 h1 hz hv
    have hk : k = b.length := by clear hv hz next; omega
    have w1 : wrap64 ((i : Int) + (b.length : Int)) = ((i + b.length : Nat) : Int) := by clear hv hz next; rw [w64 (by omega) (by omega)]; omega
    have w2 : wrap64 ((i : Int) + 1) = ((i + 1 : Nat) : Int) := by clear hv hz next; rw [w64 (by omega) (by omega)]; omega
    have hlt : i + b.length < o.length := by clear hv hz next; omega
    have c1 : ¬ (k : Int) < (b.length : Int) := by clear hv hz next; omega
    have c2 : (0 : Int) ≤ ((i + b.length : Nat) : Int) := Int.natCast_nonneg _
    have c3 : ((i + b.length : Nat) : Int) < (o.length : Int) := Int.ofNat_lt.2 hlt
    refine Ev.step (fun k => by rw [garmentref01_Mul.l1]) ?_
    rw [w1, w2]
    refine neg c1 (pos c2 (pos c3 ?_))
    refine next _ (lim_set ho _ (Int.emod_nonneg _ (by decide)) (Int.emod_lt_of_pos _ (by decide))) (by rw [List.length_set, hol]) ?_ ?_
    · intro j hj
      have hne : i + b.length ≠ j := by clear hv hz next; omega
      exact (getD_set_ne hne).trans (hz j (by clear hv hz next; omega))
    · have hs := val_set hlt (c % 4294967296)
      rw [hz _ (Nat.le_refl _)] at hs
      have ec : c % 4294967296 = c := Int.emod_eq_of_lt h0 h1
      rw [ec] at hs
      have hx : (((i + b.length : Nat) : Int)).toNat = i + b.length := rfl
      rw [hx, ec, val_take_succ hi]
      rw [hk, List.take_length] at hv
      clear next hz w1 w2 ec hx ho
      have : ((0 : Int)).toNat = 0 := rfl
      rw [this] at hs
      grind
  | succ d ih =>
    intro k hd o c ho hol h0 h1 hz hv
    have la := lim_getD ha i
    have lb := lim_getD hb k
    have lo := lim_getD ho (i + k)
    have w1 : wrap64 ((i : Int) + (k : Int)) = ((i + k : Nat) : Int) := by clear hv hz next ih la lb lo; rw [w64 (by omega) (by omega)]; omega
    have w2 : wrap64 ((k : Int) + 1) = ((k + 1 : Nat) : Int) := by clear hv hz next ih la lb lo; rw [w64 (by omega) (by omega)]; omega
    have c1 : (k : Int) < (b.length : Int) := by clear hv hz next ih la lb lo; omega
    have c5 : (0 : Int) ≤ ((i + k : Nat) : Int) := Int.natCast_nonneg _
    have hlt : i + k < o.length := by clear hv hz next ih la lb lo; omega
    have c6 : ((i + k : Nat) : Int) < (o.length : Int) := Int.ofNat_lt.2 hlt
    have step : ∀ s : Int, s = a.getD i 0 * b.getD k 0 + o.getD (i + k) 0 + c → 0 ≤ s → s < 18446744073709551616 → Ev (fun n => garmentref01_Mul.l1 n a b (o.set (i + k) (s % 4294967296)) (i : Int) (s / 4294967296) ((k + 1 : Nat) : Int)) r := by
      intro s hs s0 s1
      refine ih (k + 1) (by clear hv hz next ih la lb lo hs; omega) _ _ (lim_set ho _ (Int.emod_nonneg _ (by decide)) (Int.emod_lt_of_pos _ (by decide))) (by rw [List.length_set, hol]) (by clear hv hz next ih la lb lo hs; omega) (by clear hv hz next ih la lb lo hs; omega) ?_ ?_
      · intro j hj
        have hne : i + k ≠ j := by clear hv hz next ih la lb lo hs; omega
        exact (getD_set_ne hne).trans (hz j hj)
      · have hvs := val_set hlt (s % 4294967296)
        have htk := val_take_succ (l := b) (i := k) (Int.ofNat_lt.1 c1)
        have hsn : (s % 4294967296).toNat + 4294967296 * (s / 4294967296).toNat = c.toNat + (a.getD i 0).toNat * (b.getD k 0).toNat + (o.getD (i + k) 0).toNat := by
          have e : (a.getD i 0 * b.getD k 0).toNat = (a.getD i 0).toNat * (b.getD k 0).toNat := Int.toNat_mul la.1 lb.1
          have e0 : 0 ≤ a.getD i 0 * b.getD k 0 := Int.mul_nonneg la.1 lb.1
          rw [← e]
          clear hvs htk hv hz ih next
          omega
        rw [htk, show i + (k + 1) = (i + k) + 1 from rfl, P_succ]
        have hp := P_add i k
        clear ih hz next w1 w2 c1 c5 c6 htk hs s0 s1 la lb lo
        generalize (s % 4294967296).toNat = u1 at *
        generalize (s / 4294967296).toNat = u2 at *
        generalize (a.getD i 0).toNat = x at *
        generalize (b.getD k 0).toNat = y at *
        generalize (o.getD (i + k) 0).toNat = z at *
        generalize c.toNat = cc at *
        generalize val (o.set (i + k) (s % 4294967296)) = vo2 at *
        generalize val o = vo at *
        generalize val (a.take i) * val b = A at *
        generalize val (b.take k) = B at *
        rw [hp] at hvs hv ⊢
        have h9 : P i * P k * (u1 + 4294967296 * u2) = P i * P k * (cc + x * y + z) := by rw [hsn]
        generalize P i = p at *
        generalize P k = q at *
        clear hp hsn
        grind
    clear ih hv hz next
    have hprod : a.getD i 0 * b.getD k 0 ≤ 4294967295 * 4294967295 := Int.mul_le_mul (by omega) (by omega) lb.1 (by omega)
    have hprod0 : 0 ≤ a.getD i 0 * b.getD k 0 := Int.mul_nonneg la.1 lb.1
    refine Ev.step (fun k => by rw [garmentref01_Mul.l1]) ?_
    rw [w1, w2]
    refine pos c1 (bind0 (limb_at ha i) (bind0 (limb_at hb k) (bind0 (limb_at ho (i + k)) (pos c5 (pos c6 ?_)))))
    generalize hab : a.getD i 0 * b.getD k 0 = ab at *
    rw [u64 (x := ab) (by omega) (by omega), u64 (x := ab + o.getD (i + k) 0) (by omega) (by omega), u64 (x := ab + o.getD (i + k) 0 + c) (by omega) (by omega)]
    generalize hS : ab + o.getD (i + k) 0 + c = S at *
    have s0 : 0 ≤ S := by omega
    have s1 : S < 18446744073709551616 := by omega
    rw [Int.tmod_eq_emod_of_nonneg s0, Int.tdiv_eq_ediv_of_nonneg s0, Int.emod_emod_of_dvd _ (Int.dvd_refl _), u64 (x := S / 4294967296) (by omega) (by omega)]
    exact step _ rfl s0 s1
theorem rmul_l0 {a b : List Int} (ha : Lim a) (hb : Lim b) (sab : a.length + b.length ≤ 1000000000) : ∀ d i, d + i = a.length → ∀ o : List Int, Lim o → o.length = a.length + b.length → (∀ j, i + b.length ≤ j → o.getD j 0 = 0) → val o = val (a.take i) * val b → Ev (fun k => garmentref01_Mul.l0 k a b o (i : Int)) (ofN (val a * val b)) := by
  intro d
  induction d with
  | zero =>
    intro i hd o ho hol hz hv
    have hi : i = a.length := by clear hv hz; omega
    rw [hi, List.take_length] at hv
    refine Ev.step (fun k => by rw [garmentref01_Mul.l0]) (neg (by clear hv hz; omega) (Ev.bind (rnorm_ev ho (by clear hv hz; omega)) (now ?_)))
    rw [hv]
  | succ d ih =>
    intro i hd o ho hol hz hv
    refine Ev.step (fun k => by rw [garmentref01_Mul.l0]) (pos (by clear hv hz ih; omega) ?_)
    refine rmul_l1 ha hb sab (i := i) (by clear hv hz ih; omega) (fun o h1 h2 hz2 h3 => ih (i + 1) (by clear hv hz ih h3 hz2; omega) o h1 h2 hz2 h3) b.length 0 (by omega) o 0 ho hol (by omega) (by omega) hz ?_
    rw [hv]; simp [val]
theorem rmul_ev {a b : List Int} (ha : Lim a) (hb : Lim b) (sab : a.length + b.length ≤ 1000000000) : Ev (fun k => garmentref01_Mul.f k a b) (ofN (val a * val b)) := by
  have w : wrap64 ((a.length : Int) + (b.length : Int)) = ((a.length + b.length : Nat) : Int) := by rw [w64 (by omega) (by omega)]; omega
  refine Ev.congr (fun k => by rw [garmentref01_Mul.f, w]) (pos (by omega) (pos (by omega) ?_))
  exact rmul_l0 ha hb sab a.length 0 (by omega) _ (lim_rep _) (by rw [List.length_replicate, Int.toNat_natCast]) (fun j _ => getD_rep _ _) (by simp [val_rep, val])

/-! bits -/
theorem rbits_go : ∀ f n : Nat, n < 2 ^ f → f ≤ 32 → ∀ m : Nat, m ≤ 100000000000 + (32 - f) → Ev (fun k => garmentref01_Bits.l0 k (m : Int) (n : Int)) (((m + blen n : Nat)) : Int) := by
  intro f
  induction f with
  | zero =>
    intro n hn _ m _
    have : n = 0 := by simpa using hn
    subst this
    rw [blen_zero]
    refine Ev.step (fun k => by rw [garmentref01_Bits.l0]) ?_
    exact neg (by decide) (now rfl)
  | succ f ih =>
    intro n hn hf m hm
    refine Ev.step (fun k => by rw [garmentref01_Bits.l0]) ?_
    by_cases h0 : n = 0
    · subst h0; rw [blen_zero]; exact neg (by decide) (now rfl)
    · have hn2 : n < 2 ^ 32 := Nat.lt_of_lt_of_le hn (Nat.pow_le_pow_right (by decide) hf)
      have hn3 : n < 4294967296 := hn2
      have e1 : Int.tdiv (n : Int) 2 % 4294967296 = ((n / 2 : Nat) : Int) := by rw [Int.tdiv_eq_ediv_of_nonneg (by omega)]; omega
      have w : wrap64 ((m : Int) + 1) = ((m + 1 : Nat) : Int) := by rw [w64 (by omega) (by omega)]; omega
      rw [e1, w, blen_pos h0, show m + (blen (n / 2) + 1) = m + 1 + blen (n / 2) from by omega]
      rw [Nat.pow_succ] at hn
      exact pos (by omega) (ih (n / 2) (by omega) (by omega) (m + 1) (by omega))
theorem rbits_ev {a : List Int} (ha : Lim a) (sa : a.length ≤ 1000000000) : Ev (fun k => garmentref01_Bits.f k a) ((blen (val a) : Nat) : Int) := by
  refine Ev.bind (rnorm_ev ha sa) ?_
  have h1 := len_val_le ha
  by_cases h0 : val a = 0
  · rw [h0, ofN_zero, blen_zero]
    exact pos rfl (Ev.now _)
  · have hp : 0 < (ofN (val a)).length := ofN_length_pos.2 (by omega)
    have lb := lim_getD (lim_ofN (val a)) ((ofN (val a)).length - 1)
    have w1 : wrap64 (((ofN (val a)).length : Int) - 1) = (((ofN (val a)).length - 1 : Nat) : Int) := by rw [w64 (by omega) (by omega)]; omega
    refine neg (by omega) ?_
    rw [w1]
    refine pos (by omega) (pos (by omega) ?_)
    have hl := limb_eq (lim_ofN (val a)) ((ofN (val a)).length - 1)
    rw [val_ofN] at hl
    generalize hm : (ofN (val a)).length - 1 = m at *
    generalize hx : (ofN (val a)).getD m 0 = x at *
    have hlt : val a < P (m + 1) := by have := lt_P_len (val a); rwa [show (ofN (val a)).length = m + 1 by omega] at this
    have hge : P m ≤ val a := by have := P_len_le h0; rwa [hm] at this
    have hq : val a / P m < 4294967296 := by
      rw [Nat.div_lt_iff_lt_mul (P_pos m), ← P_succ]; exact hlt
    have hq0 : val a / P m ≠ 0 := by
      have := Nat.div_pos hge (P_pos m); omega
    rw [Nat.mod_eq_of_lt hq] at hl
    have hxx : x = ((val a / P m : Nat) : Int) := by omega
    have hb : blen (val a) = blen (val a / P m) + 32 * m := by
      rw [P_two] at hq0 ⊢; exact blen_shift _ _ hq0
    rw [rd_nat, hx, hxx, hb, Nat.add_comm]
    have w2 : wrap64 (32 * (m : Int)) = ((32 * m : Nat) : Int) := by clear hb hl hxx hq0 hlt hge hq; rw [w64 (by omega) (by omega)]; omega
    rw [w2]
    exact rbits_go 32 _ hq (Nat.le_refl _) (32 * m) (by clear hb hl hxx hq0 hlt hge hq; omega)

/-! shifts -/
theorem shl64 {x t : Nat} (hx : x < 4294967296) (ht : t < 32) : shl .u64 (x : Int) (t : Int) = ((x * 2 ^ t : Nat) : Int) := by
  unfold shl
  have e : min ((t : Int)).toNat IntKind.u64.bits = t := by show min t 64 = t; omega
  rw [e]
  have e2 : ((x : Int) * 2 ^ t) = ((x * 2 ^ t : Nat) : Int) := by simp
  rw [e2]
  have h2 := two_pow_lt ht
  have h3 : x * 2 ^ t < 4294967296 * 4294967296 := Nat.mul_lt_mul'' hx h2
  exact u64 (Int.natCast_nonneg _) (by omega)
theorem rshift_l0 {a : List Int} (ha : Lim a) (sa : a.length ≤ 100000000) {n : Nat} (hn : n ≤ 3200000000) : ∀ d i, d + i = a.length + 1 → ∀ (o : List Int) (c : Int), Lim o → o.length = n / 32 + i → 0 ≤ c → c < 4294967296 → (a.length < i → c = 0) →
    val o + P (n / 32) * (P i * c.toNat) = P (n / 32) * (val (a.take i) * 2 ^ (n % 32)) →
    Ev (fun k => garmentref01_Shift.l0 k a (n : Int) o c (i : Int)) (ofN (val a * 2 ^ n)) := by
  intro d
  induction d with
  | zero =>
    intro i hd o c ho hoi h0 h1 hc hv
    have hc0 : c = 0 := hc (by omega)
    subst hc0
    rw [val_take_all (by omega)] at hv
    have e := rnorm_ev ho (by omega)
    have : val o = val a * 2 ^ n := by
      rw [pow_split n]
      have : P (n / 32) * (P i * (0 : Int).toNat) = 0 := by simp
      rw [this] at hv
      rw [Nat.mul_left_comm]; exact hv
    rw [this] at e
    exact Ev.step (fun k => by rw [garmentref01_Shift.l0]) (neg (by clear hv; omega) (Ev.bind e (Ev.now _)))
  | succ d ih =>
    intro i hd o c ho hoi h0 h1 hc hv
    have la := lim_getD ha i
    have va := val_take_step (l := a) i
    have ht : n % 32 < 32 := Nat.mod_lt _ (by decide)
    have ew : wrap64 ((i : Int) + 1) = ((i + 1 : Nat) : Int) := by clear ih va hv; rw [w64 (by omega) (by omega)]; omega
    have e0 : IntKind.u64.wrap ((n % 32 : Nat) : Int) = ((n % 32 : Nat) : Int) := by clear ih va hv ew; exact u64 (by omega) (by omega)
    have ea : a.getD i 0 = ((a.getD i 0).toNat : Int) := (Int.toNat_of_nonneg la.1).symm
    have hla : (a.getD i 0).toNat < 4294967296 := by clear ih va hv ew e0; omega
    have c3 : o.length < 35184372088832 := by clear ih va hv ew e0; omega
    have h2 := two_pow_lt ht
    have h3 : (a.getD i 0).toNat * 2 ^ (n % 32) ≤ 4294967295 * 2147483648 := by
      have h4 : 2 ^ (n % 32) ≤ 2 ^ 31 := Nat.pow_le_pow_right (by decide) (by omega)
      exact Nat.mul_le_mul (by omega) h4
    refine Ev.step (fun k => by rw [garmentref01_Shift.l0]) ?_
    rw [tmod32, e0, ew]
    refine pos (by clear ih va hv ew e0 h3; omega) (bind0 (limb_at ha i) (pos (Int.natCast_nonneg _) (pos c3 ?_)))
    rw [ea, shl64 hla ht]
    generalize hX : (a.getD i 0).toNat * 2 ^ (n % 32) = X at *
    have eT : IntKind.u64.wrap ((X : Int) + c) = (X : Int) + c := by clear ih va hv ew e0; exact u64 (by omega) (by omega)
    rw [eT]
    generalize hT : (X : Int) + c = T at *
    have hT0 : 0 ≤ T := by clear ih va hv ew e0 eT; omega
    have hT1 : T < 18446744073709551616 := by clear ih va hv ew e0 eT; omega
    rw [Int.tmod_eq_emod_of_nonneg hT0, Int.tdiv_eq_ediv_of_nonneg hT0, Int.emod_emod_of_dvd _ (Int.dvd_refl _), u64 (x := T / 4294967296) (by clear ih va hv ew e0 eT; omega) (by clear ih va hv ew e0 eT; omega)]
    refine ih (i + 1) (by clear ih va hv ew e0 eT; omega) _ _ ?_ (by rw [List.length_append, hoi]; rfl) (by clear ih va hv ew e0 eT; omega) (by clear ih va hv ew e0 eT; omega) ?_ ?_
    · rw [lim_append, lim_cons]; exact ⟨ho, ⟨Int.emod_nonneg _ (by decide), Int.emod_lt_of_pos _ (by decide)⟩, lim_nil⟩
    · intro hi
      have z1 : a.getD i 0 = 0 := getD_out (by clear ih va hv ew e0 eT; omega)
      rw [z1] at hX
      have hX0 : X = 0 := by rw [← hX]; simp
      clear ih va hv ew e0 eT h3
      omega
    · have hs : T.toNat = X + c.toNat := by clear ih va hv ew e0 eT; omega
      have hs2 : (T % 4294967296).toNat + 4294967296 * (T / 4294967296).toNat = T.toNat := by clear ih va hv ew e0 eT; omega
      rw [val_snoc, hoi, P_add, P_succ, va]
      clear ih ew e0 eT hT hT0 hT1 hc ea hla la h3
      generalize (T % 4294967296).toNat = s1 at *
      generalize (T / 4294967296).toNat = s2 at *
      generalize (a.getD i 0).toNat = x at *
      have h9 : P (n / 32) * (P i * (s1 + 4294967296 * s2)) = P (n / 32) * (P i * (x * 2 ^ (n % 32) + c.toNat)) := by rw [hs2, hs, hX]
      clear hs hs2 hX
      generalize 2 ^ (n % 32) = z at *
      generalize P (n / 32) = q at *
      generalize P i = p at *
      generalize val (a.take i) = A at *
      grind
theorem rshift_ev {a : List Int} (ha : Lim a) (sa : a.length ≤ 100000000) {n : Nat} (hn : n ≤ 3200000000) : Ev (fun k => garmentref01_Shift.f k a (n : Int)) (ofN (val a * 2 ^ n)) := by
  have w : wrap64 ((n / 32 : Nat) : Int) = ((n / 32 : Nat) : Int) := w64 (by omega) (by omega)
  refine Ev.congr (fun k => by rw [garmentref01_Shift.f, tdiv32, w]) (pos (Int.natCast_nonneg _) (pos (by omega) ?_))
  exact rshift_l0 ha sa hn (a.length + 1) 0 (by omega) _ 0 (lim_rep _) (by rw [List.length_replicate, Int.toNat_natCast]; rfl) (by omega) (by omega) (fun _ => rfl) (by simp [val_rep, val])
end Go.Proofs.Ytkbnfdiglbpfmaa.M
