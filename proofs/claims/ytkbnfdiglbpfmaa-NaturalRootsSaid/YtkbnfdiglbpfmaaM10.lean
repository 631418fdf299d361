/- What the reference's limb functions come to, in numbers: Half, DivMod, Gcd, Sqrt. -/
import Derived.Test.YtkbnfdiglbpfmaaM9
import Derived.Test.YtkbnfdiglbpfmaaP17
import Derived.Test.YtkbnfdiglbpfmaaP18
import Derived.Test.YtkbnfdiglbpfmaaP21
import Derived.Test.YtkbnfdiglbpfmaaP22
namespace Go.Proofs.Ytkbnfdiglbpfmaa.M
open Go.RowKit Go.Proofs.Ytkbnfdiglbpfmaa.P Go.Proofs.YtkbnfdiglbpfmaaW.PrintWords Go.Proofs.YtkbnfdiglbpfmaaW.PrintLast Go.Proofs.YtkbnfdiglbpfmaaW.PrintMore

theorem rhalf_l0 {a : List Int} (ha : Lim a) (sa : a.length ≤ 1000000000) : ∀ d i, d + i = a.length → ∀ o : List Int, Lim o → o.length = i →
    2 * val o + (a.getD 0 0).toNat % 2 = val (a.take i) + P i * ((a.getD i 0).toNat % 2) →
    Ev (fun k => garmentref01_Half.l0 k a o (i : Int)) (ofN (val a / 2)) := by
  intro d
  induction d with
  | zero =>
    intro i hd o ho hoi hv
    have hi : i = a.length := by clear hv; omega
    rw [hi, List.take_length, getD_out (Nat.le_refl a.length)] at hv
    have e : val o = val a / 2 := by
      have h0 : ((0 : Int)).toNat % 2 = 0 := rfl
      rw [h0, Nat.mul_zero] at hv
      omega
    have hn := rnorm_ev ho (by clear hv; omega)
    rw [e] at hn
    exact Ev.step (fun k => by rw [garmentref01_Half.l0]) (neg (by clear hv; omega) (Ev.bind hn (Ev.now _)))
  | succ d ih =>
    intro i hd o ho hoi hv
    have la := lim_getD ha i
    have lb := lim_getD ha (i + 1)
    have va := val_take_step (l := a) i
    have w : wrap64 ((i : Int) + 1) = ((i + 1 : Nat) : Int) := by clear ih va hv la lb; rw [w64 (by omega) (by omega)]; omega
    refine Ev.step (fun k => by rw [garmentref01_Half.l0]) ?_
    rw [w]
    refine pos (by clear ih va hv la lb; omega) (bind0 (limb_at ha i) (bind0 (limb_at ha (i + 1)) (pos (by clear ih va hv la lb; omega) ?_)))
    generalize a.getD i 0 = x at *
    generalize hyy : a.getD (i + 1) 0 = y at *
    have e1 : Int.tdiv x 2 = x / 2 := Int.tdiv_eq_ediv_of_nonneg la.1
    have e2 : Int.tmod y 2 = y % 2 := Int.tmod_eq_emod_of_nonneg lb.1
    rw [e1, e2]
    have u1 : IntKind.u64.wrap (x / 2) = x / 2 := by clear ih va hv; exact u64 (by omega) (by omega)
    have u2 : IntKind.u64.wrap (y % 2 * 2147483648) = y % 2 * 2147483648 := by clear ih va hv; exact u64 (by omega) (by omega)
    have u3 : IntKind.u64.wrap (x / 2 + y % 2 * 2147483648) = x / 2 + y % 2 * 2147483648 := by clear ih va hv; exact u64 (by omega) (by omega)
    have u4 : (x / 2 + y % 2 * 2147483648) % 4294967296 = x / 2 + y % 2 * 2147483648 := by clear ih va hv; omega
    rw [u1, u2, u3, u4]
    have b0 : 0 ≤ x / 2 + y % 2 * 2147483648 := by clear ih va hv; omega
    have b1 : x / 2 + y % 2 * 2147483648 < 4294967296 := by clear ih va hv; omega
    have hn : 2 * (x / 2 + y % 2 * 2147483648).toNat + x.toNat % 2 = x.toNat + 4294967296 * (y.toNat % 2) := by clear ih va hv; omega
    refine ih (i + 1) (by clear ih va hv; omega) _ ?_ (by rw [List.length_append, hoi]; rfl) ?_
    · rw [lim_append, lim_cons]; exact ⟨ho, ⟨b0, b1⟩, lim_nil⟩
    · rw [val_snoc, hoi, va, P_succ, hyy]
      clear ih va la lb w e1 e2 u1 u2 u3 u4 b0 b1
      generalize (x / 2 + y % 2 * 2147483648).toNat = s at *
      generalize x.toNat % 2 = xm at *
      generalize x.toNat = xx at *
      generalize y.toNat % 2 = ym at *
      generalize (a.getD 0 0).toNat % 2 = z at *
      generalize P i = p at *
      have h9 : p * (2 * s + xm) = p * (xx + 4294967296 * ym) := by rw [hn]
      clear hn
      grind
theorem rhalf_ev {a : List Int} (ha : Lim a) (sa : a.length ≤ 1000000000) : Ev (fun k => garmentref01_Half.f k a) (ofN (val a / 2)) :=
  rhalf_l0 ha sa a.length 0 (by omega) [] lim_nil rfl (by simp [val, P_zero])

theorem rdm_math (α β j : Nat) (hβ : 0 < β) : (β * 2 ^ j ≤ α % (β * 2 ^ (j + 1)) → α / (β * 2 ^ j) = 2 * (α / (β * 2 ^ (j + 1))) + 1 ∧ α % (β * 2 ^ j) = α % (β * 2 ^ (j + 1)) - β * 2 ^ j) ∧ (α % (β * 2 ^ (j + 1)) < β * 2 ^ j → α / (β * 2 ^ j) = 2 * (α / (β * 2 ^ (j + 1))) ∧ α % (β * 2 ^ j) = α % (β * 2 ^ (j + 1))) := by
  have hD : 0 < β * 2 ^ j := Nat.mul_pos hβ (Nat.pow_pos (by decide))
  have e : β * 2 ^ (j + 1) = 2 * (β * 2 ^ j) := by rw [Nat.pow_succ]; grind
  rw [e]
  generalize β * 2 ^ j = D at *
  have h1 := Nat.div_add_mod α (2 * D)
  have h2 := Nat.mod_lt α (show 0 < 2 * D by omega)
  generalize α / (2 * D) = q at *
  generalize α % (2 * D) = m at *
  have h3 : 2 * D * q = D * (2 * q) := by grind
  constructor
  · intro h
    refine (Nat.div_mod_unique hD).2 ⟨?_, by omega⟩
    rw [Nat.mul_add, ← h3]; omega
  · intro h
    refine (Nat.div_mod_unique hD).2 ⟨?_, h⟩
    rw [← h3]; omega
theorem rdm_l0 {α β n : Nat} (hβ : β ≠ 0) (sa : (ofN α).length ≤ 100000000) (sp : ∀ j, j ≤ n → (ofN (β * 2 ^ j)).length ≤ 100000000) (hn : n ≤ 3200000000) : ∀ i, i ≤ n + 1 → ∀ x9 part : List Int, Lim x9 → x9.length = n / 32 + 1 → val x9 = α / (β * 2 ^ i) * 2 ^ i → (0 < i → part = ofN (β * 2 ^ (i - 1))) →
    Ev (fun k => garmentref01_DivMod.l0 k (ofN (α % (β * 2 ^ i))) x9 part ((i : Int) - 1)) (ofN (α / β), ofN (α % β), true) := by
  intro i
  induction i with
  | zero =>
    intro hi x9 part h9 hl hv _
    simp only [Nat.pow_zero, Nat.mul_one] at hv ⊢
    refine Ev.step (fun k => by rw [garmentref01_DivMod.l0]) (neg (by omega) (Ev.bind (rnorm_ev h9 (by omega)) (now ?_)))
    rw [hv]
  | succ i ih =>
    intro hi x9 part h9 hl hv hp
    have hp := hp (Nat.succ_pos _)
    rw [Nat.add_sub_cancel] at hp
    subst hp
    have e0 : ((i + 1 : Nat) : Int) - 1 = (i : Int) := by clear hv ih; omega
    have hj9 : i / 32 < x9.length := by clear hv ih; omega
    have ht : i % 32 < 32 := by clear hv ih; omega
    have l9 := lim_getD h9 (i / 32)
    have w1 : wrap64 ((i / 32 : Nat) : Int) = ((i / 32 : Nat) : Int) := by clear hv ih l9; exact w64 (by omega) (by omega)
    have w2 : wrap64 ((i : Int) - 1) = (i : Int) - 1 := by clear hv ih l9 w1; exact w64 (by omega) (by omega)
    have w3 : IntKind.u64.wrap ((i % 32 : Nat) : Int) = ((i % 32 : Nat) : Int) := by clear hv ih l9 w1; exact u64 (by omega) (by omega)
    have hmath := rdm_math α β i (Nat.pos_of_ne_zero hβ)
    have hm0 : α % (β * 2 ^ (i + 1)) ≤ α := Nat.mod_le _ _
    have hS := rsub_ev (lim_ofN (α % (β * 2 ^ (i + 1)))) (lim_ofN (β * 2 ^ i)) (Nat.le_trans (len_mono hm0) sa) (sp i (by clear hv ih; omega))
    rw [val_ofN, val_ofN] at hS
    have hH := rhalf_ev (lim_ofN (β * 2 ^ i)) (Nat.le_trans (sp i (by clear hv ih; omega)) (by decide))
    rw [val_ofN] at hH
    have hnext : 0 < i → ofN (β * 2 ^ i / 2) = ofN (β * 2 ^ (i - 1)) := by
      intro hi0
      obtain ⟨m, rfl⟩ : ∃ m, i = m + 1 := ⟨i - 1, by clear hv ih; omega⟩
      rw [Nat.add_sub_cancel, Nat.pow_succ, ← Nat.mul_assoc, Nat.mul_div_cancel _ (by decide)]
    have hi2 : i ≤ n + 1 := Nat.le_of_succ_le hi
    rw [e0]
    refine Ev.step (fun k => by rw [garmentref01_DivMod.l0]) ?_
    refine pos (Int.natCast_nonneg _) (Ev.bind hS ?_)
    by_cases hlt : α % (β * 2 ^ (i + 1)) < β * 2 ^ i
    · obtain ⟨hq, hm⟩ := hmath.2 hlt
      rw [if_pos hlt]
      refine neg (by decide) (Ev.bind hH ?_)
      rw [w2, ← hm]
      refine ih hi2 _ _ h9 hl ?_ hnext
      rw [hv, hq, Nat.pow_succ]
      generalize α / (β * 2 ^ (i + 1)) = q at *
      clear ih hmath hm hS hH hnext hm0 hq
      grind
    · obtain ⟨hq, hm⟩ := hmath.1 (Nat.le_of_not_lt hlt)
      rw [if_neg hlt]
      refine pos rfl ?_
      rw [tdiv32, tmod32, w1, w2, w3]
      refine pos (Int.natCast_nonneg _) (pos (Int.ofNat_lt.2 hj9) (pos (Int.natCast_nonneg _) (Ev.bind hH ?_)))
      have hroom := bit_room h9 hv
      have h1 : (x9.getD (i / 32) 0).toNat < 4294967296 := by clear hv ih hmath; omega
      have hfit : (x9.getD (i / 32) 0).toNat + 2 ^ (i % 32) < 4294967296 := by
        have h2 : 2 ^ (i % 32) < 2 ^ (i % 32 + 1) := Nat.pow_lt_pow_right (by decide) (by clear hv ih; omega)
        obtain ⟨y, hy⟩ := Nat.dvd_of_mod_eq_zero hroom
        have e2 : (4294967296 : Nat) = 2 ^ (i % 32 + 1) * 2 ^ (31 - i % 32) := by
          have : (4294967296 : Nat) = 2 ^ 32 := rfl
          rw [this, ← Nat.pow_add]; congr 1; clear hv ih; omega
        rw [hy, e2] at h1 ⊢
        have h3 : y < 2 ^ (31 - i % 32) := Nat.lt_of_mul_lt_mul_left h1
        have h4 : 2 ^ (i % 32 + 1) * (y + 1) ≤ 2 ^ (i % 32 + 1) * 2 ^ (31 - i % 32) := Nat.mul_le_mul_left _ h3
        rw [Nat.mul_add, Nat.mul_one] at h4
        clear hv ih hmath hq hm hroom h1 h3 hy e2 hS hH hnext hm0
        omega
      have ex9 : x9.getD (i / 32) 0 = ((x9.getD (i / 32) 0).toNat : Int) := (Int.toNat_of_nonneg l9.1).symm
      have esum : (rd x9 ((i / 32 : Nat) : Int) + shl .u32 1 ((i % 32 : Nat) : Int)) % 4294967296 = (((x9.getD (i / 32) 0).toNat + 2 ^ (i % 32) : Nat) : Int) := by
        rw [rd_nat, shl_one ht]
        generalize 2 ^ (i % 32) = z at *
        clear hv ih hmath hq hm hroom hS hH hnext hm0
        omega
      have hx : (((i / 32 : Nat) : Int)).toNat = i / 32 := rfl
      rw [esum, hx]
      show Ev (fun k => garmentref01_DivMod.l0 k (ofN (α % (β * 2 ^ (i + 1)) - β * 2 ^ i)) _ _ _) _
      rw [← hm]
      refine ih hi2 _ _ (lim_set h9 _ (Int.natCast_nonneg _) (Int.ofNat_lt.2 hfit)) (by rw [List.length_set, hl]) ?_ hnext
      have hvs := val_set hj9 (((x9.getD (i / 32) 0).toNat + 2 ^ (i % 32) : Nat) : Int)
      rw [Int.toNat_natCast, Nat.mul_add, ← pow_split, hv] at hvs
      rw [hq]
      clear ih hmath hroom hfit hm hS hH hnext hm0 esum ex9 hq
      generalize α / (β * 2 ^ (i + 1)) = q at *
      generalize val (x9.set (i / 32) (((x9.getD (i / 32) 0).toNat + 2 ^ (i % 32) : Nat) : Int)) = v at *
      rw [Nat.pow_succ] at hvs
      generalize P (i / 32) * (x9.getD (i / 32) 0).toNat = z at *
      generalize 2 ^ i = u at *
      clear hv h9 l9 hj9 sp hlt hp
      grind

theorem rdivmod_ev {a b : List Int} (ha : Lim a) (hb : Lim b) (sa : a.length ≤ 10000000) (sb : b.length ≤ 10000000) :
    Ev (fun k => garmentref01_DivMod.f k a b) (if val b = 0 then ([], [], false) else (ofN (val a / val b), ofN (val a % val b), true)) := by
  have h1 := len_val_le ha
  have h2 := len_val_le hb
  have hBb := rbits_ev hb (by omega)
  refine Ev.bind hBb ?_
  by_cases h0 : val b = 0
  · rw [if_pos h0, h0, blen_zero]
    exact pos rfl (Ev.now _)
  · rw [if_neg h0]
    have hb0 : ((blen (val b) : Nat) : Int) ≠ 0 := by rw [blen_pos h0]; omega
    refine neg hb0 (Ev.bind (rnorm_ev ha (by omega)) ?_)
    have hBa := rbits_ev (lim_ofN (val a)) (by omega)
    rw [val_ofN] at hBa
    refine Ev.bind hBa (Ev.bind hBb ?_)
    have la := blen_len (n := val a)
    have lb := blen_len (n := val b)
    have w1 : wrap64 (((blen (val a) : Nat) : Int) - ((blen (val b) : Nat) : Int)) = ((blen (val a) : Nat) : Int) - ((blen (val b) : Nat) : Int) := w64 (by omega) (by omega)
    rw [w1]
    by_cases hlt : blen (val a) < blen (val b)
    · refine pos (by omega) (now ?_)
      have : val a < val b := by
        have h3 := lt_blen (val a)
        have h4 := blen_le h0
        have h5 : 2 ^ blen (val a) ≤ 2 ^ (blen (val b) - 1) := Nat.pow_le_pow_right (by decide) (by omega)
        omega
      rw [Nat.div_eq_of_lt this, Nat.mod_eq_of_lt this, ofN_zero]
    · obtain ⟨n, hn⟩ := Nat.exists_eq_add_of_le (Nat.le_of_not_lt hlt)
      have e1 : ((blen (val a) : Nat) : Int) - ((blen (val b) : Nat) : Int) = (n : Int) := by rw [hn]; omega
      rw [e1]
      have hnn : n ≤ 3200000000 := by omega
      have w2 : wrap64 ((n / 32 : Nat) : Int) = ((n / 32 : Nat) : Int) := w64 (by omega) (by omega)
      have w3 : wrap64 (((n / 32 : Nat) : Int) + 1) = ((n / 32 + 1 : Nat) : Int) := by rw [w64 (by omega) (by omega)]; omega
      rw [tdiv32, w2, w3, Int.toNat_natCast]
      have hsh := rshift_ev hb (by omega) hnn
      have hcap : n / 32 + 1 ≤ 70368744177664 := by clear hsh hBa hBb w1 w2 w3 e1 la lb hn hlt hb0 h0 h1 h2 sa sb; omega
      refine neg (by clear hsh hBa hBb w1 w2 w3 e1 la lb hn hlt hb0 h0 h1 h2 sa sb hcap; omega) (pos (Int.natCast_nonneg _) (pos hcap (Ev.bind hsh ?_)))
      clear hsh hBa hBb hcap
      have hbig : ∀ j, j ≤ n → (ofN (val b * 2 ^ j)).length ≤ (ofN (val a)).length := by
        intro j hj
        apply len_ofN_le
        rw [P_two]
        have h3 := lt_blen (val b)
        have h4 : val b * 2 ^ j < 2 ^ blen (val b) * 2 ^ j := Nat.mul_lt_mul_of_pos_right h3 (Nat.pow_pos (by decide))
        rw [← Nat.pow_add] at h4
        exact Nat.lt_of_lt_of_le h4 (Nat.pow_le_pow_right (by decide) (by omega))
      have ha2 : val a < val b * 2 ^ (n + 1) := by
        have h3 := lt_blen (val a)
        have h4 := blen_le h0
        have h5 := Nat.mul_le_mul_right (2 ^ (n + 1)) h4
        rw [← Nat.pow_add] at h5
        have h6 : blen (val b) ≠ 0 := by omega
        rw [show blen (val b) - 1 + (n + 1) = blen (val a) by omega] at h5
        omega
      have := rdm_l0 (α := val a) (n := n) h0 (by omega) (fun j hj => Nat.le_trans (hbig j hj) (by omega)) hnn (n + 1) (Nat.le_refl _) (List.replicate (n / 32 + 1) 0) (ofN (val b * 2 ^ n)) (lim_rep _) (by simp) (by rw [val_rep, Nat.div_eq_of_lt ha2]; simp) (fun _ => rfl)
      rw [Nat.mod_eq_of_lt ha2, show ((n + 1 : Nat) : Int) - 1 = (n : Int) by omega] at this
      exact this
theorem rgcd_l0 : ∀ y x : Nat, (ofN x).length ≤ 10000000 → (ofN y).length ≤ 10000000 → Ev (fun k => garmentref01_Gcd.l0 k (ofN x) (ofN y)) (ofN (Nat.gcd x y)) := by
  intro y
  induction y using Nat.strongRecOn with
  | _ y ih =>
    intro x sx sy
    refine Ev.step (fun k => by rw [garmentref01_Gcd.l0]) ?_
    by_cases h0 : y = 0
    · subst h0
      rw [ofN_zero, Nat.gcd_zero_right]
      exact neg (by simp) (Ev.now _)
    · have hp : 0 < (ofN y).length := ofN_length_pos.2 (by omega)
      have hd := rdivmod_ev (lim_ofN x) (lim_ofN y) sx sy
      rw [val_ofN, val_ofN, if_neg h0] at hd
      refine pos (by omega) (Ev.bind hd ?_)
      have hm : x % y < y := Nat.mod_lt _ (by omega)
      rw [Nat.gcd_comm, Nat.gcd_rec, Nat.gcd_comm]
      exact ih (x % y) hm y sy (Nat.le_trans (len_mono (Nat.le_of_lt hm)) sy)
theorem rgcd_ev {a b : List Int} (ha : Lim a) (hb : Lim b) (sa : a.length ≤ 10000000) (sb : b.length ≤ 10000000) : Ev (fun k => garmentref01_Gcd.f k a b) (ofN (Nat.gcd (val a) (val b))) := by
  have h1 := len_val_le ha
  have h2 := len_val_le hb
  exact Ev.bind (rnorm_ev ha (by omega)) (Ev.bind (rnorm_ev hb (by omega)) (rgcd_l0 _ _ (by omega) (by omega)))

theorem two_pow_len {i m : Nat} (h : i < 32 * m) : (ofN (2 ^ i)).length ≤ m := by
  apply len_ofN_le
  rw [P_two]
  exact Nat.pow_lt_pow_right (by decide) h
theorem rsqrt_l0 {a : List Int} (ha : Lim a) (sa : a.length ≤ 1000000) {α : Nat} (hα : val a = α) : ∀ i : Nat, i ≤ 100000000 → ∀ ρ : Nat, ρ * ρ ≤ α → α < (ρ + 2 ^ i) * (ρ + 2 ^ i) →
    ∃ r, Ev (fun k => garmentref01_Sqrt.l0 k a (ofN ρ) ((i : Int) - 1)) (ofN r) ∧ IsRoot α r := by
  intro i
  induction i with
  | zero =>
    intro _ ρ h1 h2
    exact ⟨ρ, Ev.step (fun k => by rw [garmentref01_Sqrt.l0]) (neg (by omega) (Ev.now _)), h1, h2⟩
  | succ i ih =>
    intro hi ρ h1 h2
    have hi2 : i ≤ 100000000 := by omega
    have e0 : ((i + 1 : Nat) : Int) - 1 = (i : Int) := by clear h2; omega
    have w2 : wrap64 ((i : Int) - 1) = (i : Int) - 1 := by clear h2; exact w64 (by omega) (by omega)
    rw [e0]
    have sα : (ofN α).length ≤ 1000000 := by rw [← hα]; exact Nat.le_trans (len_val_le ha) sa
    have hρ : ρ ≤ α := by
      rcases Nat.eq_zero_or_pos ρ with h | h
      · omega
      · exact Nat.le_trans (Nat.le_mul_of_pos_left ρ h) h1
    have sρ := len_mono hρ
    have s1 : (ofN 1).length ≤ 1 := len_small (by decide)
    have sp := two_pow_len (i := i) (m := 3200000) (by clear h1 h2 sα sρ hρ; omega)
    have hO := rof_ev (a := 1) (by decide) (by decide)
    have hS := rshift_ev (lim_ofN 1) (n := i) (by omega) (by omega)
    rw [val_ofN, Nat.one_mul] at hS
    have hA := radd_ev (lim_ofN ρ) (lim_ofN (2 ^ i)) (by omega) (by omega)
    rw [val_ofN, val_ofN] at hA
    have sA := len_add ρ (2 ^ i)
    have hM := rmul_ev (lim_ofN (ρ + 2 ^ i)) (lim_ofN (ρ + 2 ^ i)) (by omega)
    rw [val_ofN] at hM
    have sM := len_mul (ρ + 2 ^ i) (ρ + 2 ^ i)
    have hC := rcmp_ev (lim_ofN ((ρ + 2 ^ i) * (ρ + 2 ^ i))) ha (by omega) (by omega)
    rw [val_ofN, hα] at hC
    by_cases hle : (ρ + 2 ^ i) * (ρ + 2 ^ i) ≤ α
    · obtain ⟨r, h3, h4⟩ := ih hi2 (ρ + 2 ^ i) hle (by rw [Nat.pow_succ, Nat.mul_two, ← Nat.add_assoc] at h2; exact h2)
      refine ⟨r, Ev.step (fun k => by rw [garmentref01_Sqrt.l0]) (pos (Int.natCast_nonneg _) (Ev.bind hO (Ev.bind hS (Ev.bind hA (Ev.bind hM (Ev.bind hC (pos (cmp_le.2 hle) ?_))))))), h4⟩
      rw [w2]; exact h3
    · obtain ⟨r, h3, h4⟩ := ih hi2 ρ h1 (by omega)
      refine ⟨r, Ev.step (fun k => by rw [garmentref01_Sqrt.l0]) (pos (Int.natCast_nonneg _) (Ev.bind hO (Ev.bind hS (Ev.bind hA (Ev.bind hM (Ev.bind hC (neg (fun h => hle (cmp_le.1 h)) ?_))))))), h4⟩
      rw [w2]; exact h3
theorem rsqrt_ev {a : List Int} (ha : Lim a) (sa : a.length ≤ 1000000) : ∃ r, Ev (fun k => garmentref01_Sqrt.f k a) (ofN r) ∧ IsRoot (val a) r := by
  have h1 := len_val_le ha
  have hb := rbits_ev ha (by omega)
  have la := blen_len (n := val a)
  have t1 : Int.tdiv ((blen (val a) : Nat) : Int) 2 = ((blen (val a) / 2 : Nat) : Int) := by rw [Int.tdiv_eq_ediv_of_nonneg (by omega)]; rfl
  have w : wrap64 ((blen (val a) / 2 : Nat) : Int) = ((blen (val a) / 2 + 1 : Nat) : Int) - 1 := by rw [w64 (by omega) (by omega)]; omega
  obtain ⟨r, h2, h3⟩ := rsqrt_l0 ha sa rfl (blen (val a) / 2 + 1) (by omega) 0 (Nat.zero_le _) (by
    rw [Nat.zero_add, ← Nat.pow_add]
    exact Nat.lt_of_lt_of_le (lt_blen _) (Nat.pow_le_pow_right (by decide) (by omega)))
  refine ⟨r, Ev.bind hb ?_, h3⟩
  rw [t1, w]
  rw [ofN_zero] at h2
  exact h2
end Go.Proofs.Ytkbnfdiglbpfmaa.M
