/- What the reference's limb functions come to, in numbers: Same, limb, Norm, Of, Cmp, Sub, Add. -/
import Derived.Test.YtkbnfdiglbpfmaaM2
import Derived.Test.YtkbnfdiglbpfmaaP1
import Derived.Test.YtkbnfdiglbpfmaaP10
import Derived.Test.YtkbnfdiglbpfmaaP12
import Derived.Test.YtkbnfdiglbpfmaaP13
import Derived.Test.YtkbnfdiglbpfmaaP7
import Derived.Test.YtkbnfdiglbpfmaaP8
import Derived.Test.YtkbnfdiglbpfmaaP9
namespace Go.Proofs.Ytkbnfdiglbpfmaa.M
open Go.RowKit Go.Proofs.Ytkbnfdiglbpfmaa.P Go.Proofs.YtkbnfdiglbpfmaaW.PrintWords Go.Proofs.YtkbnfdiglbpfmaaW.PrintLast Go.Proofs.YtkbnfdiglbpfmaaW.PrintMore

theorem same_l0 {l : List Int} (hs : l.length ≤ 1000000000) : ∀ d i, d + i = l.length → Ev (fun k => garmentref01_Same.l0 k l l (i : Int)) true := by
  intro d
  induction d with
  | zero => intro i hd; exact Ev.step (fun k => by rw [garmentref01_Same.l0]) (neg (by omega) (Ev.now _))
  | succ d ih =>
    intro i hd
    have w : wrap64 ((i : Int) + 1) = ((i + 1 : Nat) : Int) := by rw [w64 (by omega) (by omega)]; omega
    refine Ev.step (fun k => by rw [garmentref01_Same.l0]) ?_
    rw [w]
    exact pos (by omega) (pos (by omega) (pos (by omega) (pos rfl (ih (i + 1) (by omega)))))
theorem same_ev {l : List Int} (hs : l.length ≤ 1000000000) : Ev (fun k => garmentref01_Same.f k l l) true := by
  show Ev (fun k => if (l.length : Int) = (l.length : Int) then garmentref01_Same.l0 k l l 0 else some false) true
  exact pos rfl (same_l0 hs l.length 0 (by omega))
theorem getD_out {l : List Int} {i : Nat} (h : l.length ≤ i) : l.getD i 0 = 0 := by
  rw [List.getD_eq_getElem?_getD, List.getElem?_eq_none h]; rfl
theorem limb_at {l : List Int} (hl : Lim l) (i : Nat) : garmentref01_limb.f l (i : Int) = some (l.getD i 0) := by
  have h := lim_getD hl i
  unfold garmentref01_limb.f
  rw [if_neg (by omega)]
  by_cases hi : i < l.length
  · rw [if_neg (by omega), if_pos (by omega), if_pos (by omega), rd_nat, u64 h.1 (by omega)]
  · rw [if_pos (by omega), getD_out (by omega)]
theorem rnorm_l0 {l : List Int} (hl : Lim l) (hb : l.length ≤ 1000000000) : ∀ i, i ≤ l.length → Ev (fun k => garmentref01_Norm.l0 k l (i : Int)) (ofN (val (l.take i))) := by
  intro i
  induction i with
  | zero =>
    intro hi
    refine Ev.step (fun k => by rw [garmentref01_Norm.l0]) ?_
    refine neg (by omega) (pos (by omega) (pos (by omega) (pos ?_ (now ?_))))
    · simp
    · simp [val, ofN_zero]
  | succ i ih =>
    intro hi
    refine Ev.step (fun k => by rw [garmentref01_Norm.l0]) ?_
    have e : wrap64 (((i + 1 : Nat) : Int) - 1) = (i : Int) := by rw [w64 (by omega) (by omega)]; omega
    rw [e]
    refine pos (by omega) (pos (by omega) (pos (by omega) ?_))
    rw [rd_nat]
    have hv := val_take_succ (l := l) (i := i) (by omega)
    by_cases hz : l.getD i 0 = 0
    · refine pos hz ?_
      rw [hv, hz]
      simpa using ih (by omega)
    · have h1 : ((i + 1 : Nat) : Int).toNat = i + 1 := by omega
      rw [h1]
      refine neg hz (pos (by omega) (pos (by omega) (pos ?_ (now ?_))))
      · rw [List.length_take]; simp; omega
      · rw [List.nil_append, take_succ_snoc (by omega)]
        exact (ofN_val_snoc (by rw [← take_succ_snoc (by omega)]; exact lim_take hl _) hz).symm
theorem rnorm_ev {l : List Int} (hl : Lim l) (hb : l.length ≤ 1000000000) : Ev (fun k => garmentref01_Norm.f k l) (ofN (val l)) := by
  have := rnorm_l0 hl hb l.length (Nat.le_refl _)
  rw [List.take_length] at this
  exact this
theorem rof_l0 : ∀ n : Nat, n < 18446744073709551616 → ∀ o : List Int, o.length ≤ 1000 → Ev (fun k => garmentref01_Of.l0 k (n : Int) o) (o ++ ofN n) := by
  intro n
  induction n using Nat.strongRecOn with
  | _ n ih =>
    intro hn o ho
    refine Ev.step (fun k => by rw [garmentref01_Of.l0]) ?_
    by_cases h0 : n = 0
    · subst h0; rw [ofN_zero, List.append_nil]; exact neg (by omega) (Ev.now _)
    · have e1 : Int.tdiv (n : Int) 4294967296 = ((n / 4294967296 : Nat) : Int) := by rw [Int.tdiv_eq_ediv_of_nonneg (by omega)]; rfl
      have e2 : Int.tmod (n : Int) 4294967296 = ((n % 4294967296 : Nat) : Int) := by rw [Int.tmod_eq_emod_of_nonneg (by omega)]; rfl
      have e3 : ((n % 4294967296 : Nat) : Int) % 4294967296 = ((n % 4294967296 : Nat) : Int) := by omega
      rw [e1, e2, e3, u64 (by omega) (by omega), ofN_pos h0]
      refine pos (by omega) (pos (by omega) ?_)
      by_cases hz : n / 4294967296 = 0
      · rw [hz, ofN_zero]
        exact Ev.step (fun k => by rw [garmentref01_Of.l0]) (neg (by decide) (Ev.now _))
      · have h1 : n / 4294967296 / 4294967296 = 0 := by omega
        have e4 : Int.tdiv ((n / 4294967296 : Nat) : Int) 4294967296 = 0 := by rw [Int.tdiv_eq_ediv_of_nonneg (by omega)]; omega
        have e5 : Int.tmod ((n / 4294967296 : Nat) : Int) 4294967296 % 4294967296 = ((n / 4294967296 : Nat) : Int) := by rw [Int.tmod_eq_emod_of_nonneg (by omega)]; omega
        refine Ev.step (fun k => by rw [garmentref01_Of.l0]) (pos (by omega) (pos (by simp; omega) ?_))
        rw [e4, e5, u64 (by decide) (by decide), ofN_pos hz, h1, ofN_zero]
        refine Ev.step (fun k => by rw [garmentref01_Of.l0]) (neg (by decide) (now ?_))
        rw [List.append_assoc]
        congr 2
        simp
        omega
theorem rof_ev {a : Int} (h0 : 0 ≤ a) (h1 : a < 18446744073709551616) : Ev (fun k => garmentref01_Of.f k a) (ofN a.toNat) := by
  obtain ⟨n, rfl⟩ := Int.eq_ofNat_of_zero_le h0
  have := rof_l0 n (by omega) [] (by simp)
  rw [List.nil_append] at this
  exact this
theorem mx_nat (a b : Nat) : mx (a : Int) (b : Int) = ((max a b : Nat) : Int) := by unfold mx; split <;> omega
theorem rcmp_l0 {a b : List Int} (ha : Lim a) (hb : Lim b) : ∀ i : Nat, i ≤ 1000000000 → Ev (fun k => garmentref01_Cmp.l0 k a b ((i : Int) - 1)) (cmp (val (a.take i)) (val (b.take i))) := by
  intro i
  induction i with
  | zero =>
    intro hi
    refine Ev.step (fun k => by rw [garmentref01_Cmp.l0]) (neg (by omega) (now ?_))
    simp [val, cmp_eq]
  | succ i ih =>
    intro hi
    have e0 : ((i + 1 : Nat) : Int) - 1 = (i : Int) := by omega
    have la := lim_getD ha i
    have lb := lim_getD hb i
    rw [e0]
    refine Ev.step (fun k => by rw [garmentref01_Cmp.l0]) ?_
    rw [w64 (by omega) (by omega)]
    refine pos (by omega) (bind0 (limb_at ha i) (bind0 (limb_at hb i) ?_))
    by_cases h1 : a.getD i 0 < b.getD i 0
    · exact pos h1 (now (cmp_lt (lt_of_top ha i (by omega))).symm)
    · refine neg h1 (bind0 (limb_at ha i) (bind0 (limb_at hb i) ?_))
      by_cases h2 : a.getD i 0 > b.getD i 0
      · exact pos h2 (now (cmp_gt (lt_of_top hb i (by omega))).symm)
      · refine neg h2 ?_
        rw [cmp_step i (by omega)]
        exact ih (by omega)
theorem rcmp_ev {a b : List Int} (ha : Lim a) (hb : Lim b) (sa : a.length ≤ 1000000000) (sb : b.length ≤ 1000000000) : Ev (fun k => garmentref01_Cmp.f k a b) (cmp (val a) (val b)) := by
  have := rcmp_l0 ha hb (max a.length b.length) (by omega)
  rw [val_take_all (Nat.le_max_left _ _), val_take_all (Nat.le_max_right _ _)] at this
  refine Ev.congr (fun k => ?_) this
  rw [garmentref01_Cmp.f, mx_nat, w64 (by omega) (by omega)]

theorem radd_l0 {a b : List Int} (ha : Lim a) (hb : Lim b) (hs : max a.length b.length ≤ 100000000) : ∀ d i, d + i = max a.length b.length + 1 → ∀ (o : List Int) (c : Int), Lim o → o.length = i → 0 ≤ c → c ≤ 1 → (max a.length b.length < i → c = 0) →
    val o + P i * c.toNat = val (a.take i) + val (b.take i) →
    Ev (fun k => garmentref01_Add.l0 k a b o c (i : Int)) (ofN (val a + val b)) := by
  intro d
  induction d with
  | zero =>
    intro i hd o c ho hoi h0 h1 hc hv
    have hc0 : c = 0 := hc (by omega)
    subst hc0
    rw [val_take_all (by omega), val_take_all (by omega)] at hv
    have e := rnorm_ev ho (by omega)
    have : val o = val a + val b := by simpa using hv
    rw [this] at e
    refine Ev.step (fun k => by rw [garmentref01_Add.l0]) ?_
    rw [mx_nat]
    refine neg (by clear hv; omega) ?_
    exact Ev.step (fun k => by rw [garmentref01_Add.j1]) (neg (by decide) (Ev.bind e (Ev.now _)))
  | succ d ih =>
    intro i hd o c ho hoi h0 h1 hc hv
    have la := lim_getD ha i
    have lb := lim_getD hb i
    have va := val_take_step (l := a) i
    have vb := val_take_step (l := b) i
    have ew : wrap64 ((i : Int) + 1) = ((i + 1 : Nat) : Int) := by clear ih va vb hv; rw [w64 (by omega) (by omega)]; omega
    have e1 : IntKind.u64.wrap (a.getD i 0 + b.getD i 0) = a.getD i 0 + b.getD i 0 := by clear ih va vb hv; exact u64 (by omega) (by omega)
    have e2 : IntKind.u64.wrap (a.getD i 0 + b.getD i 0 + c) = a.getD i 0 + b.getD i 0 + c := by clear ih va vb hv e1; exact u64 (by omega) (by omega)
    have c3 : o.length < 35184372088832 := by clear ih va vb hv e1 e2; omega
    generalize hT : a.getD i 0 + b.getD i 0 + c = T at *
    have hT0 : 0 ≤ T := by clear ih va vb hv e1 e2 ew; omega
    have e3 : Int.tmod T 4294967296 % 4294967296 = T % 4294967296 := by rw [Int.tmod_eq_emod_of_nonneg hT0, Int.emod_emod_of_dvd _ (Int.dvd_refl _)]
    have e4 : Int.tdiv T 4294967296 = T / 4294967296 := Int.tdiv_eq_ediv_of_nonneg hT0
    have hq0 : 0 ≤ T / 4294967296 := by clear ih va vb hv e1 e2 e3 e4 ew; omega
    have hq1 : T / 4294967296 ≤ 1 := by clear ih va vb hv e1 e2 e3 e4 ew; omega
    have e5 : IntKind.u64.wrap (T / 4294967296) = T / 4294967296 := u64 hq0 (by omega)
    have stepper : Ev (fun k => garmentref01_Add.l0 k a b (o ++ [T % 4294967296]) (T / 4294967296) ((i + 1 : Nat) : Int)) (ofN (val a + val b)) := by
      refine ih (i + 1) (by clear ih va vb hv e1 e2 e3 e4 e5 ew; omega) _ _ ?_ (by simp [hoi]) hq0 hq1 ?_ ?_
      · rw [lim_append, lim_cons]; exact ⟨ho, ⟨Int.emod_nonneg _ (by decide), Int.emod_lt_of_pos _ (by decide)⟩, lim_nil⟩
      · intro hi
        have z1 : a.getD i 0 = 0 := getD_out (by clear ih va vb hv e1 e2 e3 e4 e5 ew; omega)
        have z2 : b.getD i 0 = 0 := getD_out (by clear ih va vb hv e1 e2 e3 e4 e5 ew; omega)
        clear ih va vb hv e1 e2 e3 e4 e5 ew
        rw [z1, z2] at hT
        have hc1 : c ≤ 1 := h1
        clear hq0 hq1 hT0 la lb
        omega
      · rw [val_snoc, hoi, P_succ, va, vb]
        refine add_arith _ _ _ _ c.toNat _ _ _ _ hv ?_
        clear ih va vb hv e1 e2 e3 e4 e5 ew; omega
    have jstep : Ev (fun k => garmentref01_Add.j1 k a b o c (i : Int) true) (ofN (val a + val b)) := by
      refine Ev.step (fun k => by rw [garmentref01_Add.j1]) (pos rfl (bind0 (limb_at ha i) (bind0 (limb_at hb i) (pos c3 ?_))))
      rw [e1, hT, e2, e3, e4, e5, ew]
      exact stepper
    refine Ev.step (fun k => by rw [garmentref01_Add.l0]) ?_
    rw [mx_nat]
    by_cases hi : i < max a.length b.length
    · exact pos (by clear ih va vb hv e1 e2 e3 e4 e5 ew; omega) jstep
    · refine neg (by clear ih va vb hv e1 e2 e3 e4 e5 ew; omega) ?_
      by_cases hcc : c > 0
      · rw [decide_eq_true hcc]; exact jstep
      · rw [decide_eq_false hcc]
        have hc0 : c = 0 := by clear ih va vb hv e1 e2 e3 e4 e5 ew; omega
        rw [val_take_all (by clear ih va vb hv e1 e2 e3 e4 e5 ew; omega), val_take_all (by clear ih va vb hv e1 e2 e3 e4 e5 ew; omega), hc0] at hv
        have e := rnorm_ev ho (by clear ih va vb hv e1 e2 e3 e4 e5 ew; omega)
        have : val o = val a + val b := by simpa using hv
        rw [this] at e
        exact Ev.step (fun k => by rw [garmentref01_Add.j1]) (neg (by decide) (Ev.bind e (Ev.now _)))
theorem radd_ev {a b : List Int} (ha : Lim a) (hb : Lim b) (sa : a.length ≤ 100000000) (sb : b.length ≤ 100000000) : Ev (fun k => garmentref01_Add.f k a b) (ofN (val a + val b)) :=
  radd_l0 ha hb (by omega) (max a.length b.length + 1) 0 (by omega) [] 0 lim_nil rfl (by omega) (by omega) (fun _ => rfl) (by simp [val])

theorem rsub_l0 {a b : List Int} (ha : Lim a) (hb : Lim b) (hs : max a.length b.length ≤ 100000000) (hge : val b ≤ val a) : ∀ d i, d + i = max a.length b.length → ∀ (o : List Int) (c : Int), Lim o → o.length = i → 0 ≤ c → c ≤ 1 →
    val o + val (b.take i) = val (a.take i) + P i * c.toNat →
    Ev (fun k => garmentref01_Sub.l0 k a b o c (i : Int)) (ofN (val a - val b), true) := by
  intro d
  induction d with
  | zero =>
    intro i hd o c ho hoi h0 h1 hv
    rw [val_take_all (by omega), val_take_all (by omega)] at hv
    have hlt := val_lt ho
    rw [hoi] at hlt
    have hc : c.toNat = 0 := by
      rcases (show c.toNat = 0 ∨ c.toNat = 1 by clear hv; omega) with h | h
      · exact h
      · rw [h] at hv; omega
    rw [hc] at hv
    have e := rnorm_ev ho (by clear hv; omega)
    have : val o = val a - val b := by omega
    rw [this] at e
    refine Ev.step (fun k => by rw [garmentref01_Sub.l0]) ?_
    rw [mx_nat]
    exact neg (by clear hv; omega) (Ev.bind e (Ev.now _))
  | succ d ih =>
    intro i hd o c ho hoi h0 h1 hv
    have la := lim_getD ha i
    have lb := lim_getD hb i
    have va := val_take_step (l := a) i
    have vb := val_take_step (l := b) i
    have ew : wrap64 ((i : Int) + 1) = ((i + 1 : Nat) : Int) := by clear ih va vb hv; rw [w64 (by omega) (by omega)]; omega
    have e1 : IntKind.u64.wrap (4294967296 + a.getD i 0) = 4294967296 + a.getD i 0 := by clear ih va vb hv; exact u64 (by omega) (by omega)
    have e2 : IntKind.u64.wrap (4294967296 + a.getD i 0 - b.getD i 0) = 4294967296 + a.getD i 0 - b.getD i 0 := by clear ih va vb hv e1; exact u64 (by omega) (by omega)
    have e3 : IntKind.u64.wrap (4294967296 + a.getD i 0 - b.getD i 0 - c) = 4294967296 + a.getD i 0 - b.getD i 0 - c := by clear ih va vb hv e1 e2; exact u64 (by omega) (by omega)
    have c3 : o.length < 35184372088832 := by clear ih va vb hv e1 e2 e3; omega
    generalize hT : 4294967296 + a.getD i 0 - b.getD i 0 - c = T at *
    have hT0 : 0 ≤ T := by clear ih va vb hv e1 e2 e3 ew; omega
    have e4 : Int.tmod T 4294967296 % 4294967296 = T % 4294967296 := by rw [Int.tmod_eq_emod_of_nonneg hT0, Int.emod_emod_of_dvd _ (Int.dvd_refl _)]
    have e5 : Int.tdiv T 4294967296 = T / 4294967296 := Int.tdiv_eq_ediv_of_nonneg hT0
    have hq0 : 0 ≤ T / 4294967296 := by clear ih va vb hv e1 e2 e3 e4 e5 ew; omega
    have hq1 : T / 4294967296 ≤ 1 := by clear ih va vb hv e1 e2 e3 e4 e5 ew; omega
    have e6 : IntKind.u64.wrap (T / 4294967296) = T / 4294967296 := u64 hq0 (by omega)
    have e7 : IntKind.u64.wrap (1 - T / 4294967296) = 1 - T / 4294967296 := u64 (by omega) (by omega)
    refine Ev.step (fun k => by rw [garmentref01_Sub.l0]) ?_
    rw [mx_nat]
    refine pos (by clear ih va vb hv e1 e2 e3 e4 e5 e6 e7 ew; omega) (bind0 (limb_at ha i) (bind0 (limb_at hb i) (pos c3 ?_)))
    rw [e1, e2, hT, e3, e4, e5, e6, e7, ew]
    refine ih (i + 1) (by clear ih va vb hv e1 e2 e3 e4 e5 e6 e7 ew; omega) _ _ ?_ (by simp [hoi]) (by omega) (by omega) ?_
    · rw [lim_append, lim_cons]; exact ⟨ho, ⟨Int.emod_nonneg _ (by decide), Int.emod_lt_of_pos _ (by decide)⟩, lim_nil⟩
    · rw [val_snoc, hoi, P_succ, va, vb]
      refine less_arith _ _ _ _ c.toNat _ _ _ _ hv ?_
      clear ih va vb hv e1 e2 e3 e4 e5 e6 e7 ew; omega
theorem rsub_ev {a b : List Int} (ha : Lim a) (hb : Lim b) (sa : a.length ≤ 100000000) (sb : b.length ≤ 100000000) : Ev (fun k => garmentref01_Sub.f k a b) (if val a < val b then ([], false) else (ofN (val a - val b), true)) := by
  refine Ev.bind (rcmp_ev ha hb (by omega) (by omega)) ?_
  by_cases hlt : val a < val b
  · rw [if_pos hlt]
    exact pos (cmp_neg.2 hlt) (Ev.now _)
  · rw [if_neg hlt]
    exact neg (by rw [cmp_neg]; exact hlt) (rsub_l0 ha hb (by omega) (by omega) (max a.length b.length) 0 (by omega) [] 0 lim_nil rfl (by omega) (by omega) (by simp [val]))
end Go.Proofs.Ytkbnfdiglbpfmaa.M
