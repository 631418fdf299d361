/- What DivMod and Gcd of the program come to, in numbers. -/
import Derived.Test.YtkbnfdiglbpfmaaM4
import Derived.Test.YtkbnfdiglbpfmaaP1
import Derived.Test.YtkbnfdiglbpfmaaP2
import Derived.Test.YtkbnfdiglbpfmaaP3
namespace Go.Proofs.Ytkbnfdiglbpfmaa.M
open Go.RowKit Go.Proofs.Ytkbnfdiglbpfmaa.P Go.Proofs.YtkbnfdiglbpfmaaW.PrintWords Go.Proofs.YtkbnfdiglbpfmaaW.PrintLast Go.Proofs.YtkbnfdiglbpfmaaW.PrintMore

theorem u32_fix (n : Int) (h1 : 0 ≤ n) (h2 : n < 2 ^ 32) : IntKind.u32.wrap n = n := by
  have h3 : n < 4294967296 := h2
  simp [IntKind.wrap, IntKind.bits, IntKind.signed]; omega
theorem or_one {x c : Int} (hx : 0 ≤ x) (hx2 : x < 4294967296) (he : x % 2 = 0) (c0 : 0 ≤ c) (c1 : c ≤ 1) : Go.bits .or .u32 x c = x + c := by
  refine Go.bits_join .u32 32 (by decide) u32_fix 1 _ _ hx ?_ ?_ c0 ?_ ?_
  · show x % 2 = 0; exact he
  · show x < 4294967296; exact hx2
  · show c < 2; omega
  · show c < 4294967296; omega
theorem and_one {x : Int} (hx : 0 ≤ x) (hx2 : x < 4294967296) : Go.bits .and .u32 x 1 = x % 2 := by
  have := Go.bits_mask .u32 32 (by decide) u32_fix 1 (by decide) x hx (by show x < 4294967296; exact hx2)
  exact this
theorem two_pow_lt {t : Nat} (h : t < 32) : 2 ^ t < 4294967296 := by
  have := Nat.pow_lt_pow_right (show 1 < 2 by decide) h
  exact this
theorem shl_one {t : Nat} (h : t < 32) : shl .u32 1 (t : Int) = ((2 ^ t : Nat) : Int) := by
  have h2 := two_pow_lt h
  unfold shl
  have e : min ((t : Int)).toNat IntKind.u32.bits = t := by show min t 32 = t; omega
  rw [e, Int.one_mul]
  have e2 : ((2 : Int) ^ t) = ((2 ^ t : Nat) : Int) := by simp
  rw [e2]
  exact u32_fix _ (Int.natCast_nonneg _) (by show ((2 ^ t : Nat) : Int) < ((4294967296 : Nat) : Int); exact Int.ofNat_lt.2 h2)
theorem or_bit {x : Nat} {t : Nat} (h : t < 32) (hx : x < 4294967296) (he : x % 2 ^ (t + 1) = 0) : Go.bits .or .u32 (x : Int) ((2 ^ t : Nat) : Int) = ((x + 2 ^ t : Nat) : Int) := by
  have h2 := two_pow_lt h
  rw [Go.bits_join .u32 32 (by decide) u32_fix (t + 1) _ _ (Int.natCast_nonneg _) ?_ (by show _ < (4294967296 : Int); omega) (Int.natCast_nonneg _) ?_ (by show ((2 ^ t : Nat) : Int) < ((4294967296 : Nat) : Int); exact Int.ofNat_lt.2 h2)]
  · rfl
  · have : ((x : Int)) % ((2 ^ (t + 1) : Nat) : Int) = ((x % 2 ^ (t + 1) : Nat) : Int) := rfl
    rw [he] at this
    simpa using this
  · have : (2 ^ t : Nat) < 2 ^ (t + 1) := Nat.pow_lt_pow_right (by decide) (by omega)
    exact_mod_cast this
theorem shr_nat (x : Nat) {t : Nat} (h : t < 32) : shr .u32 (x : Int) (t : Int) = ((x / 2 ^ t : Nat) : Int) := by
  unfold shr
  have e : min ((t : Int)).toNat IntKind.u32.bits = t := by show min t 32 = t; omega
  rw [e]
  simp
theorem tdiv32 (i : Nat) : Int.tdiv (i : Int) 32 = ((i / 32 : Nat) : Int) := by rw [Int.tdiv_eq_ediv_of_nonneg (by omega)]; rfl
theorem tmod32 (i : Nat) : Int.tmod (i : Int) 32 = ((i % 32 : Nat) : Int) := by rw [Int.tmod_eq_emod_of_nonneg (by omega)]; rfl

/-- The rest, doubled, and a bit added. -/
theorem dm_l1 {x0 x1 x9 : List Int} {x11 : Int} {ρ : Nat} (hs : (ofN ρ).length ≤ 1000000000) {bit : Int} (b0 : 0 ≤ bit) (b1 : bit ≤ 1) {r : List Int × List Int × Bool}
    (next : Ev (fun k => natural_DivMod.j2 k x0 x1 x9 (ofN (2 * ρ + bit.toNat)) x11) r) :
    ∀ d k, d + k = (ofN ρ).length → ∀ (o : List Int) (c : Int), Lim o → o.length = (ofN ρ).length → (∀ j, k ≤ j → o.getD j 0 = (ofN ρ).getD j 0) → 0 ≤ c → c ≤ 1 →
    val (o.take k) + P k * c.toNat = 2 * val ((ofN ρ).take k) + bit.toNat →
    Ev (fun n => natural_DivMod.l1 n x0 x1 x9 o x11 c ((ofN ρ).length : Int) (k : Int)) r := by
  intro d
  induction d with
  | zero =>
    intro k hd o c ho hol hj c0 c1 hv
    have hk : k = (ofN ρ).length := by clear hv hj next; omega
    rw [hk, List.take_length, ← hol, List.take_length, val_ofN] at hv
    have fin : ∀ q : List Int, Lim q → val q = 2 * ρ + bit.toNat → (q.length = 0 ∨ P (q.length - 1) ≤ val q) → Ev (fun k => natural_DivMod.j2 k x0 x1 x9 q x11) r := by
      intro q h1 h2 h3
      have := normal h1 h3
      rw [h2] at this
      rw [this]; exact next
    refine Ev.step (fun k => by rw [natural_DivMod.l1]) (neg (by clear hv hj next fin; omega) ?_)
    by_cases hc : c > 0
    · refine pos hc (pos (by clear hv hj next fin; omega) (fin _ ?_ ?_ (.inr ?_)))
      · rw [lim_append, lim_cons]; exact ⟨ho, by omega, lim_nil⟩
      · rw [val_snoc]; exact hv
      · rw [val_snoc]
        have : c.toNat = 1 := by clear hv hj next fin; omega
        rw [this]; simp
    · have hc0 : c.toNat = 0 := by clear hv hj next fin; omega
      rw [hc0] at hv
      refine neg hc (fin _ ho (by omega) ?_)
      by_cases h0 : ρ = 0
      · left; rw [hol, h0, ofN_zero]; rfl
      · right
        rw [hol]
        have := P_len_le h0
        clear hj next fin; omega
  | succ d ih =>
    intro k hd o c ho hol hj c0 c1 hv
    have lr := lim_getD (lim_ofN ρ) k
    have hlt : k < (ofN ρ).length := by clear hv hj next ih; omega
    have hlo : k < o.length := by clear hv hj next ih; omega
    have w : wrap64 ((k : Int) + 1) = ((k + 1 : Nat) : Int) := by clear hv hj next ih; rw [w64 (by omega) (by omega)]; omega
    have e1 : rd o (k : Int) = (ofN ρ).getD k 0 := by rw [rd_nat]; exact hj k (Nat.le_refl _)
    have hlen : (o.take k).length = k := by rw [List.length_take]; exact Nat.min_eq_left (Nat.le_of_lt hlo)
    have hva := val_take_succ hlt
    refine Ev.step (fun k => by rw [natural_DivMod.l1]) ?_
    rw [e1, w]
    generalize (ofN ρ).getD k 0 = x at *
    have hx2 : x * 2 % 4294967296 % 2 = 0 := by clear hv hj next ih hva; omega
    rw [or_one (Int.emod_nonneg _ (by decide)) (Int.emod_lt_of_pos _ (by decide)) hx2 c0 c1]
    refine pos (Int.ofNat_lt.2 hlt) (pos (Int.natCast_nonneg _) (pos (Int.ofNat_lt.2 hlo) ?_))
    have hs1 : 0 ≤ x * 2 % 4294967296 + c ∧ x * 2 % 4294967296 + c < 4294967296 := by clear hv hj next ih hva; omega
    refine ih (k + 1) (by clear hv hj next ih hva; omega) _ _ (lim_set ho _ hs1.1 hs1.2) (by rw [List.length_set, hol]) ?_ (by clear hv hj next ih hva; omega) (by clear hv hj next ih hva; omega) ?_
    · intro j hjj
      exact (getD_set_ne (Nat.ne_of_lt hjj)).trans (hj j (Nat.le_of_succ_le hjj))
    · have ht : (o.set k (x * 2 % 4294967296 + c)).take (k + 1) = o.take k ++ [x * 2 % 4294967296 + c] := by
        rw [take_succ_snoc (by rw [List.length_set]; exact hlo), take_set_self, getD_set_eq hlo]
      have hx : ((k : Int)).toNat = k := rfl
      rw [hx, ht, val_snoc, hlen, P_succ, hva]
      have hn : (x * 2 % 4294967296 + c).toNat + 4294967296 * (x / 2147483648).toNat = 2 * x.toNat + c.toNat := by clear hv hj next ih hva ht; omega
      clear ih hj next hva ht hx hs1 hx2
      generalize (x * 2 % 4294967296 + c).toNat = s1 at *
      generalize (x / 2147483648).toNat = s2 at *
      have h9 : P k * (s1 + 4294967296 * s2) = P k * (2 * x.toNat + c.toNat) := by rw [hn]
      clear hn
      grind
theorem dm_shift {x0 x1 x9 : List Int} {x11 : Int} {ρ : Nat} (hs : (ofN ρ).length ≤ 1000000000) {bit : Int} (b0 : 0 ≤ bit) (b1 : bit ≤ 1) {r : List Int × List Int × Bool}
    (next : Ev (fun k => natural_DivMod.j2 k x0 x1 x9 (ofN (2 * ρ + bit.toNat)) x11) r) :
    Ev (fun n => natural_DivMod.l1 n x0 x1 x9 (ofN ρ) x11 bit ((ofN ρ).length : Int) 0) r :=
  dm_l1 hs b0 b1 next (ofN ρ).length 0 (by omega) (ofN ρ) bit (lim_ofN ρ) rfl (fun _ _ => rfl) b0 b1 (by simp [val, P_zero])

/-- One bit of the quotient. -/
theorem dm_math (X B : Nat) (hB : 0 < B) : (B ≤ 2 * (X / 2 % B) + X % 2 → X / B = 2 * (X / 2 / B) + 1 ∧ X % B = 2 * (X / 2 % B) + X % 2 - B) ∧ (2 * (X / 2 % B) + X % 2 < B → X / B = 2 * (X / 2 / B) ∧ X % B = 2 * (X / 2 % B) + X % 2) := by
  have h1 := Nat.div_add_mod (X / 2) B
  have h2 := Nat.mod_lt (X / 2) hB
  have h3 : X = 2 * (X / 2) + X % 2 := by omega
  generalize hq : X / 2 / B = q at *
  generalize hm : X / 2 % B = m at *
  constructor
  · intro h
    refine (Nat.div_mod_unique hB).2 ⟨?_, by omega⟩
    rw [Nat.mul_add, Nat.mul_left_comm]; omega
  · intro h
    refine (Nat.div_mod_unique hB).2 ⟨?_, by omega⟩
    rw [Nat.mul_left_comm]; omega
theorem bit_room {l : List Int} (h : Lim l) {i Q : Nat} (hv : val l = Q * 2 ^ (i + 1)) : (l.getD (i / 32) 0).toNat % 2 ^ (i % 32 + 1) = 0 := by
  rw [limb_eq h, hv, Nat.pow_succ, pow_split i]
  generalize ht : i % 32 = t
  have htl : t < 32 := by omega
  have e1 : Q * (P (i / 32) * 2 ^ t * 2) = P (i / 32) * (Q * 2 ^ (t + 1)) := by rw [Nat.pow_succ]; grind
  rw [e1, Nat.mul_div_cancel_left _ (P_pos _)]
  have e2 : (4294967296 : Nat) = 2 ^ (t + 1) * 2 ^ (31 - t) := by
    have : (4294967296 : Nat) = 2 ^ 32 := rfl
    rw [this, ← Nat.pow_add]; congr 1; omega
  rw [e2, Nat.mod_mul_right_mod, Nat.mul_mod_left]
theorem dm_l0 {α β : Nat} (hβ : β ≠ 0) (sa : (ofN α).length ≤ 100000000) (sb : (ofN β).length ≤ 100000000) : ∀ i, i ≤ 32 * (ofN α).length → ∀ x9 : List Int, Lim x9 → x9.length = (ofN α).length → val x9 = α / 2 ^ i / β * 2 ^ i →
    Ev (fun k => natural_DivMod.l0 k (ofN α) (ofN β) x9 (ofN (α / 2 ^ i % β)) ((i : Int) - 1)) (ofN (α / β), ofN (α % β), true) := by
  intro i
  induction i with
  | zero =>
    intro hi x9 h9 hl hv
    simp only [Nat.pow_zero, Nat.div_one, Nat.mul_one] at hv ⊢
    refine Ev.step (fun k => by rw [natural_DivMod.l0]) (neg (by omega) (Ev.bind (trim_ev h9 (by omega)) (now ?_)))
    rw [hv]
  | succ i ih =>
    intro hi x9 h9 hl hv
    have e0 : ((i + 1 : Nat) : Int) - 1 = (i : Int) := by clear hv ih; omega
    have hj : i / 32 < (ofN α).length := by clear hv ih; omega
    have hj9 : i / 32 < x9.length := by clear hv ih; omega
    have ht : i % 32 < 32 := by clear hv ih; omega
    have hi2 : i ≤ 32 * (ofN α).length := by clear hv ih; omega
    have hX : α / 2 ^ (i + 1) = α / 2 ^ i / 2 := by rw [Nat.pow_succ, ← Nat.div_div_eq_div_mul]
    have la := lim_getD (lim_ofN α) (i / 32)
    have l9 := lim_getD h9 (i / 32)
    have w1 : wrap64 ((i / 32 : Nat) : Int) = ((i / 32 : Nat) : Int) := by clear hv ih la l9; exact w64 (by omega) (by omega)
    have w2 : wrap64 ((i : Int) - 1) = (i : Int) - 1 := by clear hv ih la l9 w1; exact w64 (by omega) (by omega)
    have hbit := bit_eq (lim_ofN α) i
    rw [val_ofN] at hbit
    have hmath := dm_math (α / 2 ^ i) β (Nat.pos_of_ne_zero hβ)
    have hρ : α / 2 ^ (i + 1) % β < β := Nat.mod_lt _ (Nat.pos_of_ne_zero hβ)
    have hlρ : (ofN (α / 2 ^ (i + 1) % β)).length ≤ 100000000 := Nat.le_trans (len_mono (Nat.le_of_lt hρ)) sb
    rw [e0]
    refine Ev.step (fun k => by rw [natural_DivMod.l0]) ?_
    rw [tdiv32, tmod32, w1, rd_nat]
    have ex : (ofN α).getD (i / 32) 0 = (((ofN α).getD (i / 32) 0).toNat : Int) := (Int.toNat_of_nonneg la.1).symm
    have hla : ((ofN α).getD (i / 32) 0).toNat < 4294967296 := by clear hv ih l9 hbit hmath hρ hlρ; omega
    have hq : ((ofN α).getD (i / 32) 0).toNat / 2 ^ (i % 32) < 4294967296 := Nat.lt_of_le_of_lt (Nat.div_le_self _ _) hla
    rw [ex, shr_nat _ ht, and_one (Int.natCast_nonneg _) (Int.ofNat_lt.2 hq)]
    have hb2 : ((((ofN α).getD (i / 32) 0).toNat / 2 ^ (i % 32) : Nat) : Int) % 2 = ((α / 2 ^ i % 2 : Nat) : Int) := by rw [← hbit]; rfl
    rw [hb2]
    have hmod : α / 2 ^ i % 2 ≤ 1 := Nat.le_of_lt_succ (Nat.mod_lt _ (by decide))
    refine pos (Int.natCast_nonneg _) (pos (Int.natCast_nonneg _) (pos (Int.ofNat_lt.2 hj) (pos (Int.natCast_nonneg _) (dm_shift (Nat.le_trans hlρ (by decide)) (Int.natCast_nonneg _) (Int.ofNat_le.2 hmod) ?_))))
    rw [Int.toNat_natCast, hX]
    rw [hX] at hv
    generalize hXX : α / 2 ^ i = X at *
    clear hbit hb2 hq ex la hla hmod
    refine Ev.step (fun k => by rw [natural_DivMod.j2]) ?_
    have hlen2 : (ofN (2 * (X / 2 % β) + X % 2)).length ≤ 1000000000 := by
      have h1 : 2 * (X / 2 % β) + X % 2 < P 1 * β := by
        rw [P_succ, P_zero]
        have := Nat.mod_lt (X / 2) (Nat.pos_of_ne_zero hβ)
        clear hv ih hmath hρ hlρ w1 w2 l9
        omega
      have h2 : P 1 * β < P (1 + (ofN β).length) := by rw [P_add]; exact Nat.mul_lt_mul_of_pos_left (lt_P_len β) (P_pos 1)
      have := len_ofN_le (Nat.lt_trans h1 h2)
      clear hv ih hmath hρ hlρ w1 w2 l9 h1 h2
      omega
    have hc := cmp_ev (lim_ofN (2 * (X / 2 % β) + X % 2)) (lim_ofN β) hlen2 (Nat.le_trans sb (by decide))
    rw [val_ofN, val_ofN] at hc
    refine Ev.bind hc ?_
    by_cases hge : β ≤ 2 * (X / 2 % β) + X % 2
    · obtain ⟨hq, hm⟩ := hmath.1 hge
      have hl2 := less_ev (lim_ofN (2 * (X / 2 % β) + X % 2)) (lim_ofN β) (len_mono hge) hlen2 (by rw [val_ofN, val_ofN]; exact hge)
      rw [val_ofN, val_ofN] at hl2
      refine pos (cmp_nonneg.2 hge) (Ev.bind hl2 ?_)
      have ex9 : x9.getD (i / 32) 0 = ((x9.getD (i / 32) 0).toNat : Int) := (Int.toNat_of_nonneg l9.1).symm
      have h1 : (x9.getD (i / 32) 0).toNat < 4294967296 := by clear hv ih hmath hρ hlρ w1 w2 hc hl2 hq hm hge hlen2; omega
      have hroom := bit_room h9 hv
      rw [tdiv32, tmod32, w1, rd_nat, shl_one ht, ex9, or_bit ht h1 hroom, w2]
      refine pos (Int.natCast_nonneg _) (pos (Int.ofNat_lt.2 hj9) (pos (Int.natCast_nonneg _) ?_))
      rw [← hm]
      have hp : 2 ^ (i % 32 + 1) ≤ 4294967296 := by
        have := Nat.pow_le_pow_right (show 0 < 2 by decide) (show i % 32 + 1 ≤ 32 by omega)
        exact this
      have hfit : (x9.getD (i / 32) 0).toNat + 2 ^ (i % 32) < 4294967296 := by
        have h2 : 2 ^ (i % 32) < 2 ^ (i % 32 + 1) := Nat.pow_lt_pow_right (by decide) (by omega)
        obtain ⟨y, hy⟩ := Nat.dvd_of_mod_eq_zero hroom
        have e2 : (4294967296 : Nat) = 2 ^ (i % 32 + 1) * 2 ^ (31 - i % 32) := by
          have : (4294967296 : Nat) = 2 ^ 32 := rfl
          rw [this, ← Nat.pow_add]; congr 1; omega
        rw [hy, e2] at h1 ⊢
        have h3 : y < 2 ^ (31 - i % 32) := Nat.lt_of_mul_lt_mul_left h1
        have h4 : 2 ^ (i % 32 + 1) * (y + 1) ≤ 2 ^ (i % 32 + 1) * 2 ^ (31 - i % 32) := Nat.mul_le_mul_left _ h3
        rw [Nat.mul_add, Nat.mul_one] at h4
        clear hv ih hmath hρ hlρ w1 w2 hc hl2 hq hm hge hlen2 hroom h1 h3 hy e2
        omega
      have hx : (((i / 32 : Nat) : Int)).toNat = i / 32 := rfl
      rw [hx]
      refine ih hi2 _ (lim_set h9 _ (Int.natCast_nonneg _) (Int.ofNat_lt.2 hfit)) (by rw [List.length_set, hl]) ?_
      have hvs := val_set hj9 (((x9.getD (i / 32) 0).toNat + 2 ^ (i % 32) : Nat) : Int)
      rw [Int.toNat_natCast, Nat.mul_add, ← pow_split, hv, Nat.pow_succ] at hvs
      rw [hq]
      clear ih hmath hroom hfit hp hm hl2 hc hlen2 hlρ hρ
      grind
    · obtain ⟨hq, hm⟩ := hmath.2 (Nat.lt_of_not_le hge)
      refine neg (by rw [ge_iff_le, cmp_nonneg]; exact hge) ?_
      rw [w2, ← hm]
      refine ih hi2 x9 h9 hl ?_
      rw [hv, hq, Nat.pow_succ]
      clear ih hmath hm hc hlen2 hlρ hρ
      grind
theorem divmod_ev {a b : List Int} (ha : Lim a) (hb : Lim b) (sa : a.length ≤ 100000000) (sb : b.length ≤ 100000000) :
    Ev (fun k => natural_DivMod.f k a b) (if val b = 0 then ([], [], false) else (ofN (val a / val b), ofN (val a % val b), true)) := by
  have h1 := len_val_le ha
  have h2 := len_val_le hb
  refine Ev.bind (trim_ev ha (by omega)) (Ev.bind (trim_ev hb (by omega)) ?_)
  generalize val a = α at *
  generalize val b = β at *
  have sα : (ofN α).length ≤ 100000000 := by omega
  have sβ : (ofN β).length ≤ 100000000 := by omega
  clear ha hb h1 h2
  by_cases h0 : β = 0
  · rw [if_pos h0, h0, ofN_zero]
    exact pos rfl (Ev.now _)
  · rw [if_neg h0]
    have hp : 0 < (ofN β).length := ofN_length_pos.2 (by omega)
    have hc := cmp_ev (lim_ofN α) (lim_ofN β) (by omega) (by omega)
    rw [val_ofN, val_ofN] at hc
    refine neg (by omega) (Ev.bind hc ?_)
    by_cases hlt : α < β
    · have hn := norm_ev (lim_ofN α) (by omega)
      rw [val_ofN] at hn
      refine pos (cmp_neg.2 hlt) (Ev.bind hn (now ?_))
      rw [Nat.div_eq_of_lt hlt, Nat.mod_eq_of_lt hlt, ofN_zero]
    · refine neg (by rw [cmp_neg]; exact hlt) ?_
      by_cases h1 : (ofN β).length = 1
      · refine pos (by omega) (pos (by omega) ?_)
        have hb1 : β < 4294967296 := by
          have := lt_P_len β
          rw [h1, P_succ, P_zero] at this; omega
        have hrd : rd (ofN β) 0 = (β : Int) := by
          have := limb_eq (lim_ofN β) 0
          rw [val_ofN, P_zero, Nat.div_one, Nat.mod_eq_of_lt hb1] at this
          have l := lim_getD (lim_ofN β) 0
          show (ofN β).getD 0 0 = _
          omega
        rw [hrd]
        have hs := small_ev (lim_ofN α) (by omega) (d := (β : Int)) (by omega) (by omega)
        rw [val_ofN, Int.toNat_natCast] at hs
        have hm : α % β < β := Nat.mod_lt _ (by omega)
        refine Ev.bind hs ?_
        have ho := of_ev (a := ((α % β : Nat) : Int)) (by omega) (by omega)
        rw [Int.toNat_natCast] at ho
        have hu : IntKind.u64.wrap ((α % β : Nat) : Int) = ((α % β : Nat) : Int) := u64 (by omega) (by omega)
        show Ev (fun k => (natural_Of.f k (IntKind.u64.wrap ((α % β : Nat) : Int))).bind fun t => some (ofN (α / β), t, true)) _
        rw [hu]
        exact Ev.bind ho (Ev.now _)
      · have w : wrap64 (((ofN β).length : Int) + 1) = ((ofN β).length : Int) + 1 := w64 (by omega) (by omega)
        refine neg (by omega) (pos (by omega) (pos (by omega) ?_))
        rw [w]
        refine pos (by omega) (pos (by omega) ?_)
        have hsz := size_ev (lim_ofN α) (by omega)
        rw [val_ofN] at hsz
        refine Ev.bind hsz ?_
        have hbl := blen_len (n := α)
        have w2 : wrap64 (((blen α : Nat) : Int) - 1) = ((blen α : Nat) : Int) - 1 := w64 (by omega) (by omega)
        rw [w2]
        have hdiv : α / 2 ^ blen α = 0 := Nat.div_eq_of_lt (lt_blen α)
        have := dm_l0 h0 sα sβ (blen α) hbl (List.replicate (ofN α).length 0) (lim_rep _) (by simp) (by rw [val_rep, hdiv]; simp)
        rw [hdiv, Nat.zero_mod, ofN_zero] at this
        exact this
theorem gcd_l0 : ∀ y x : Nat, (ofN x).length ≤ 100000000 → (ofN y).length ≤ 100000000 → Ev (fun k => natural_Gcd.l0 k (ofN x) (ofN y)) (ofN (Nat.gcd x y)) := by
  intro y
  induction y using Nat.strongRecOn with
  | _ y ih =>
    intro x sx sy
    refine Ev.step (fun k => by rw [natural_Gcd.l0]) ?_
    by_cases h0 : y = 0
    · subst h0
      rw [ofN_zero, Nat.gcd_zero_right]
      exact neg (by simp) (Ev.now _)
    · have hp : 0 < (ofN y).length := ofN_length_pos.2 (by omega)
      have hd := divmod_ev (lim_ofN x) (lim_ofN y) sx sy
      rw [val_ofN, val_ofN, if_neg h0] at hd
      refine pos (by omega) (Ev.bind hd ?_)
      have hm : x % y < y := Nat.mod_lt _ (by omega)
      rw [Nat.gcd_comm, Nat.gcd_rec, Nat.gcd_comm]
      exact ih (x % y) hm y sy (Nat.le_trans (len_mono (Nat.le_of_lt hm)) sy)
theorem gcd_ev {a b : List Int} (ha : Lim a) (hb : Lim b) (sa : a.length ≤ 100000000) (sb : b.length ≤ 100000000) : Ev (fun k => natural_Gcd.f k a b) (ofN (Nat.gcd (val a) (val b))) := by
  have h1 := len_val_le ha
  have h2 := len_val_le hb
  exact Ev.bind (norm_ev ha (by omega)) (Ev.bind (norm_ev hb (by omega)) (gcd_l0 _ _ (by omega) (by omega)))
end Go.Proofs.Ytkbnfdiglbpfmaa.M
