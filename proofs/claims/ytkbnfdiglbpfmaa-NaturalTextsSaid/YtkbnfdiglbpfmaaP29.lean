-- By gp.py (ours) over the kit's print.py. Not trusted: Lean checks it.
import Derived.Test.YtkbnfdiglbpfmaaP0
import Derived.Test.YtkbnfdiglbpfmaaP1
import Derived.Test.YtkbnfdiglbpfmaaP4
import Derived.Test.YtkbnfdiglbpfmaaP5
import Derived.Test.YtkbnfdiglbpfmaaP26
import Derived.Test.YtkbnfdiglbpfmaaP28
namespace Go.Proofs.Ytkbnfdiglbpfmaa.P
open Go.RowKit Go.Proofs.YtkbnfdiglbpfmaaW.PrintWords Go.Proofs.YtkbnfdiglbpfmaaW.PrintLast Go.Proofs.YtkbnfdiglbpfmaaW.PrintMore
attribute [local go_sem] max2_int min2_int max_two min_two max_three min_three max_four min_four   -- for this text's walks alone
set_option linter.unusedVariables false
set_option linter.unusedSimpArgs false

/-! ### garmentlaw01_NaturalTexts: function 7 -/
def garmentlaw01_NaturalTexts.j0 : Nat → List Int → ByteArray → Bool → Option (Bool)
 | 0, _, _, _ => none
 | k + 1, x0, x1, x16 => if x16 = true then ((garmentlaw01_alive.f k).bind fun t629 => (some t629)) else ((natural_Parse.f k x1).bind fun bt630 => ((garmentref01_Parse.f k x1).bind fun bt634 => ((natural_Text.f k x0).bind fun t638 => ((garmentref01_Text.f k x0).bind fun t639 => (if t638.toList = t639.toList then ((garmentref01_Same.f k bt630.1 bt634.1).bind fun t640 => (if t640 = true then (if bt630.2 = bt634.2 then ((garmentlaw01_alive.f k).bind fun t641 => (some t641)) else (none)) else (none))) else (none))))))
def garmentlaw01_NaturalTexts.f (k : Nat) (l0 : List Int) (a1 : ByteArray) : Option (Bool) := if (l0.length : Int) > 24 then (garmentlaw01_NaturalTexts.j0 k l0 a1 true) else (garmentlaw01_NaturalTexts.j0 k l0 a1 (decide ((a1.size : Int) > 300)))
theorem garmentlaw01_NaturalTexts.mono_l : ∀ k, (∀ y0 y1 y2, LeO (garmentlaw01_NaturalTexts.j0 k y0 y1 y2) (garmentlaw01_NaturalTexts.j0 (k + 1) y0 y1 y2))
 | 0 => fun _ _ _ r h => by simp [garmentlaw01_NaturalTexts.j0] at h
 | k + 1 => by
  have ih0 := garmentlaw01_NaturalTexts.mono_l k
  ·intro y0 y1 y2
   unfold garmentlaw01_NaturalTexts.j0
   repeat' first
   | (with_reducible exact ih0 _ _ _)
   | (with_reducible exact garmentlaw01_alive.mono _)
   | (with_reducible exact garmentref01_Parse.mono _ _)
   | (with_reducible exact garmentref01_Same.mono _ _ _)
   | (with_reducible exact garmentref01_Text.mono _ _)
   | (with_reducible exact natural_Parse.mono _ _)
   | (with_reducible exact natural_Text.mono _ _)
   | (with_reducible exact LeO.refl _)
   | (with_reducible exact LeO.none _)
   | (with_reducible refine LeO.ite ?_ ?_)
   | (with_reducible refine LeO.bind ?_ (fun _ => ?_))
   | exact ih0 _ _ _
   | exact garmentlaw01_alive.mono _
   | exact garmentref01_Parse.mono _ _
   | exact garmentref01_Same.mono _ _ _
   | exact garmentref01_Text.mono _ _
   | exact natural_Parse.mono _ _
   | exact natural_Text.mono _ _
   | exact LeO.none _
   | refine LeO.ite ?_ ?_
   | refine LeO.bind ?_ (fun _ => ?_)
theorem garmentlaw01_NaturalTexts.mono : ∀ a0 a1 k, LeO (garmentlaw01_NaturalTexts.f k a0 a1) (garmentlaw01_NaturalTexts.f (k + 1) a0 a1) := by
 intro a0 a1 k
 have ih0 := garmentlaw01_NaturalTexts.mono_l k
 unfold garmentlaw01_NaturalTexts.f
 repeat' first
   | (with_reducible exact ih0 _ _ _)
   | (with_reducible exact garmentlaw01_alive.mono _)
   | (with_reducible exact garmentref01_Parse.mono _ _)
   | (with_reducible exact garmentref01_Same.mono _ _ _)
   | (with_reducible exact garmentref01_Text.mono _ _)
   | (with_reducible exact natural_Parse.mono _ _)
   | (with_reducible exact natural_Text.mono _ _)
   | (with_reducible exact LeO.refl _)
   | (with_reducible exact LeO.none _)
   | (with_reducible refine LeO.ite ?_ ?_)
   | (with_reducible refine LeO.bind ?_ (fun _ => ?_))
   | exact ih0 _ _ _
   | exact garmentlaw01_alive.mono _
   | exact garmentref01_Parse.mono _ _
   | exact garmentref01_Same.mono _ _ _
   | exact garmentref01_Text.mono _ _
   | exact natural_Parse.mono _ _
   | exact natural_Text.mono _ _
   | exact LeO.none _
   | refine LeO.ite ?_ ?_
   | refine LeO.bind ?_ (fun _ => ?_)
set_option maxHeartbeats 8000000 in
set_option maxRecDepth 100000 in
theorem garmentlaw01_NaturalTexts.calls (k : Nat) (A0 : Option Addr) (c0 : Nat) (l0 : List Int) (a1 : ByteArray) (r : Bool) (w : World) (hr0 : Kd.C (Kd.int .u32) w A0 l0.length l0) (hc0 : l0.length ≤ c0) (h : garmentlaw01_NaturalTexts.f k l0 a1 = some r) :
  Calls Try.prog 7 #[.slice A0 l0.length c0, .string a1] w fun e w' => e = .returned (.bool r) ∧ Below w.heap.size w w' := by
 have HR0 := Aside0.mk hr0
 have HC0 := Aside0.mk hc0
 clear hr0 hc0
 have HB := Aside0.mk (Below.refl w.heap.size w)
 have H : (if (l0.length : Int) > 24 then (garmentlaw01_NaturalTexts.j0 k l0 a1 true) else (garmentlaw01_NaturalTexts.j0 k l0 a1 (decide ((a1.size : Int) > 300)))) = some r := h
 clear h
 have HC3 := Aside0.mk H
 clear H
 go_enter Try.func7, Try.ntmps7
 go_upto_region 1 with (fail)
 go_cut [16] (fun v16 wc => ∃ (kq : Nat) (x16_2 : Bool), v16 = .bool x16_2 ∧ Aside0 (garmentlaw01_NaturalTexts.j0 kq l0 a1 x16_2 = some r) ∧ Aside0 (kq ≤ k) ∧ Aside0 (Below w.heap.size w wc))
 case first =>
  have H := HC3.out
  clear HC3
  by_cases c4 : (l0.length : Int) > 24
  ·rw [if_pos c4] at H
   have c4b0 : decide (24 < (l0.length : Int)) = true := decide_eq_true c4
   have c4b1 : decide (24 < l0.length) = true := decide_eq_true (by omega)
   clear c4
   (first | rw [c4b0] | rw [c4b1] | (simp only [i64_w, i32_w]; rw [c4b0]) | skip)
   have H' := Aside0.mk H
   clear H
   go_wp2
   go_meet
   case rel => exact ⟨_, (true), (by first | rfl | (simp; done) | (simp [*]; done)), H', ⟨by first | omega | exact Nat.le_refl _⟩, ⟨by repeat (first | (with_reducible first | exact HB.out | apply below_alloc | apply pw_below_drewN | apply below_drew1) | exact HB.out)⟩⟩
  ·rw [if_neg c4] at H
   have c4b0 : decide (24 < (l0.length : Int)) = false := decide_eq_false c4
   have c4b1 : decide (24 < l0.length) = false := decide_eq_false (by omega)
   clear c4
   (first | rw [c4b0] | rw [c4b1] | (simp only [i64_w, i32_w]; rw [c4b0]) | skip)
   have H' := Aside0.mk H
   clear H
   go_wp2
   go_meet
   case rel => exact ⟨_, (decide ((a1.size : Int) > 300)), (by first | rfl | (simp; done) | (simp [*]; done)), H', ⟨by first | omega | exact Nat.le_refl _⟩, ⟨by repeat (first | (with_reducible first | exact HB.out | apply below_alloc | apply pw_below_drewN | apply below_drew1) | exact HB.out)⟩⟩
 case rest =>
  clear HC3
  try clear p2
  try clear c4
  try clear c4b0
  try clear c4b1
  obtain ⟨kq, x16_2, rfl, HA, HJ2, HB⟩ := hcut
  cases kq with
  | zero => exact absurd HA.out (by simp [garmentlaw01_NaturalTexts.j0])
  | succ kj2 =>
   have H := HA.out
   clear HA
   simp only [garmentlaw01_NaturalTexts.j0] at H
   by_cases c5 : x16_2 = true
   ·subst c5
    have H1 : ((garmentlaw01_alive.f kj2).bind fun t629 => (some t629)) = some r := by rw [if_pos rfl] at H; exact H
    clear H
    have H := H1
    clear H1
    replace H := Option.bind_eq_some_iff.mp H
    obtain ⟨t629, A60, H⟩ := H
    replace H : (some t629) = some r := H
    have A6 := Aside0.mk A60
    clear A60
    obtain rfl := Option.some.inj H
    go_wp2_with (first | ((with_reducible refine gate_callee (f := 14) rfl ?_); refine goesL_ (some 17) rfl rfl Try.func14 (by kernel_rfl) rfl #[] rfl (by (try simp only [List.map_toArray, List.map_cons, List.map_nil]); first | done | rfl | (simp only [List.length_drop, List.length_take]; rfl)) ?_; (with_reducible refine (garmentlaw01_alive.calls kj2  t629 _ A6.out).mono ?_); rintro e w7 ⟨rfl, hb⟩; refine ⟨_, rfl, ?_⟩; have n0_ := Aside0.mk (below_step (by repeat (first | (with_reducible first | exact HB.out | apply below_alloc | apply pw_below_drewN | apply below_drew1) | exact HB.out)) hb); clear HB; have HB := n0_; clear n0_; (try clear hb); (try clear hb2); (try clear hk); (try clear hi)))
    go_ret
    exact ⟨by first | rfl | (simp [errW_none, errW_some] <;> rfl) | (simp [*, errW_none, errW_some] <;> rfl), by repeat (first | (with_reducible first | exact HB.out | apply below_alloc | apply pw_below_drewN | apply below_drew1) | exact HB.out)⟩
   ·replace c5 := Bool.eq_false_iff.mpr c5
    subst c5
    have H1 : ((natural_Parse.f kj2 a1).bind fun bt630 => ((garmentref01_Parse.f kj2 a1).bind fun bt634 => ((natural_Text.f kj2 l0).bind fun t638 => ((garmentref01_Text.f kj2 l0).bind fun t639 => (if t638.toList = t639.toList then ((garmentref01_Same.f kj2 bt630.1 bt634.1).bind fun t640 => (if t640 = true then (if bt630.2 = bt634.2 then ((garmentlaw01_alive.f kj2).bind fun t641 => (some t641)) else (none)) else (none))) else (none)))))) = some r := by rw [if_neg (show ¬ (false = true) by decide)] at H; exact H
    clear H
    have H := H1
    clear H1
    replace H := Option.bind_eq_some_iff.mp H
    obtain ⟨⟨t630, t631⟩, A80, H⟩ := H
    replace H : ((garmentref01_Parse.f kj2 a1).bind fun bt634 => ((natural_Text.f kj2 l0).bind fun t638 => ((garmentref01_Text.f kj2 l0).bind fun t639 => (if t638.toList = t639.toList then ((garmentref01_Same.f kj2 t630 bt634.1).bind fun t640 => (if t640 = true then (if t631 = bt634.2 then ((garmentlaw01_alive.f kj2).bind fun t641 => (some t641)) else (none)) else (none))) else (none))))) = some r := H
    have A8 := Aside0.mk A80
    clear A80
    replace H := Option.bind_eq_some_iff.mp H
    obtain ⟨⟨t634, t635⟩, A90, H⟩ := H
    replace H : ((natural_Text.f kj2 l0).bind fun t638 => ((garmentref01_Text.f kj2 l0).bind fun t639 => (if t638.toList = t639.toList then ((garmentref01_Same.f kj2 t630 t634).bind fun t640 => (if t640 = true then (if t631 = t635 then ((garmentlaw01_alive.f kj2).bind fun t641 => (some t641)) else (none)) else (none))) else (none)))) = some r := H
    have A9 := Aside0.mk A90
    clear A90
    replace H := Option.bind_eq_some_iff.mp H
    obtain ⟨t638, A100, H⟩ := H
    replace H : ((garmentref01_Text.f kj2 l0).bind fun t639 => (if t638.toList = t639.toList then ((garmentref01_Same.f kj2 t630 t634).bind fun t640 => (if t640 = true then (if t631 = t635 then ((garmentlaw01_alive.f kj2).bind fun t641 => (some t641)) else (none)) else (none))) else (none))) = some r := H
    have A10 := Aside0.mk A100
    clear A100
    replace H := Option.bind_eq_some_iff.mp H
    obtain ⟨t639, A110, H⟩ := H
    replace H : (if t638.toList = t639.toList then ((garmentref01_Same.f kj2 t630 t634).bind fun t640 => (if t640 = true then (if t631 = t635 then ((garmentlaw01_alive.f kj2).bind fun t641 => (some t641)) else (none)) else (none))) else (none)) = some r := H
    have A11 := Aside0.mk A110
    clear A110
    by_cases c12 : t638.toList = t639.toList
    ·rw [if_pos c12] at H
     have c12b0 : (t638.toList == t639.toList) = true := beq_iff_eq.mpr c12
     have c12b1 : (t638.toList != t639.toList) = false := bne_eq_false_iff_eq.mpr c12
     clear c12
     replace H := Option.bind_eq_some_iff.mp H
     obtain ⟨t640, A130, H⟩ := H
     replace H : (if t640 = true then (if t631 = t635 then ((garmentlaw01_alive.f kj2).bind fun t641 => (some t641)) else (none)) else (none)) = some r := H
     have A13 := Aside0.mk A130
     clear A130
     by_cases c14 : t640 = true
     ·subst c14
      have H1 : (if t631 = t635 then ((garmentlaw01_alive.f kj2).bind fun t641 => (some t641)) else (none)) = some r := by rw [if_pos rfl] at H; exact H
      clear H
      have H := H1
      clear H1
      by_cases c15 : t631 = t635
      ·rw [if_pos c15] at H
       have c15b0 : (t631 == t635) = true := beq_iff_eq.mpr c15
       have c15b1 : (t631 != t635) = false := bne_eq_false_iff_eq.mpr c15
       clear c15
       replace H := Option.bind_eq_some_iff.mp H
       obtain ⟨t641, A160, H⟩ := H
       replace H : (some t641) = some r := H
       have A16 := Aside0.mk A160
       clear A160
       obtain rfl := Option.some.inj H
       go_wp2_with (first | ((with_reducible refine gate_callee (f := 34) rfl ?_); refine goesL_ (some 20) rfl rfl Try.func34 (by kernel_rfl) rfl #[.string a1] rfl (by (try simp only [List.map_toArray, List.map_cons, List.map_nil]); first | done | rfl | (simp only [List.length_drop, List.length_take]; rfl)) ?_; (with_reducible refine (natural_Parse.calls kj2 a1 t630 t631 _ A8.out).mono ?_); rintro e w17 ⟨v632, rfl, ho0, hb⟩; refine ⟨_, rfl, ?_⟩; have n0_ := Aside0.mk (Kd.R_lower ho0 (below_size (by repeat (first | (with_reducible first | exact HB.out | apply below_alloc | apply pw_below_drewN | apply below_drew1) | exact HB.out)))); have n1_ := Aside0.mk (below_step (by repeat (first | (with_reducible first | exact HB.out | apply below_alloc | apply pw_below_drewN | apply below_drew1) | exact HB.out)) hb); clear HB; have HO633 := n0_; have HB := n1_; clear n0_ n1_; (try clear hb); (try clear hb2); (try clear hk); (try clear hi); (try clear ho0)) | ((with_reducible refine gate_callee (f := 35) rfl ?_); refine goesL_ (some 25) rfl rfl Try.func35 (by kernel_rfl) rfl #[.string a1] rfl (by (try simp only [List.map_toArray, List.map_cons, List.map_nil]); first | done | rfl | (simp only [List.length_drop, List.length_take]; rfl)) ?_; (with_reducible refine (garmentref01_Parse.calls kj2 a1 t634 t635 _ A9.out).mono ?_); rintro e w18 ⟨v636, rfl, ho0, hb⟩; refine ⟨_, rfl, ?_⟩; have n0_ := Aside0.mk (Kd.R_elder' (by (with_reducible repeat (first | apply Kd.R_alloc | apply Kd.R_drewN | apply Kd.R_drew)); exact HO633.out) (Kd.R_base ho0) hb); have n1_ := Aside0.mk (Kd.R_lower (Kd.R_new' ho0 (Kd.R_lt (by (with_reducible repeat (first | apply Kd.R_alloc | apply Kd.R_drewN | apply Kd.R_drew)); exact HO633.out))) (below_size (by repeat (first | (with_reducible first | exact HB.out | apply below_alloc | apply pw_below_drewN | apply below_drew1) | exact HB.out)))); have n2_ := Aside0.mk (below_step (by repeat (first | (with_reducible first | exact HB.out | apply below_alloc | apply pw_below_drewN | apply below_drew1) | exact HB.out)) hb); clear HO633; clear HB; have HO633 := n0_; have HO637 := n1_; have HB := n2_; clear n0_ n1_ n2_; (try clear hb); (try clear hb2); (try clear hk); (try clear hi); (try clear ho0)) | ((with_reducible refine gate_callee (f := 36) rfl ?_); refine goesL_ (some 29) rfl rfl Try.func36 (by kernel_rfl) rfl #[.slice A0 l0.length c0] rfl (by (try simp only [List.map_toArray, List.map_cons, List.map_nil]); first | done | rfl | (simp only [List.length_drop, List.length_take]; rfl)) ?_; (with_reducible refine (natural_Text.calls kj2 _ _ l0 t638 _ ?side1 ?side2 A10.out).mono ?_); (case side1 => repeat (first | exact (Kd.C_below HR0.out HB.out) | (with_reducible refine Kd.C_alloc ?_ _) | (with_reducible refine Kd.C_drewN ?_ _) | (with_reducible refine Kd.C_drew ?_))); (case side2 => exact HC0.out); rintro e w19 ⟨rfl, hb⟩; refine ⟨_, rfl, ?_⟩; have n0_ := Aside0.mk (Kd.R_below (by (with_reducible repeat (first | apply Kd.R_alloc | apply Kd.R_drewN | apply Kd.R_drew)); exact HO633.out) hb); have n1_ := Aside0.mk (Kd.R_below (by (with_reducible repeat (first | apply Kd.R_alloc | apply Kd.R_drewN | apply Kd.R_drew)); exact HO637.out) hb); have n2_ := Aside0.mk (below_step (by repeat (first | (with_reducible first | exact HB.out | apply below_alloc | apply pw_below_drewN | apply below_drew1) | exact HB.out)) hb); clear HO633; clear HO637; clear HB; have HO633 := n0_; have HO637 := n1_; have HB := n2_; clear n0_ n1_ n2_; (try clear hb); (try clear hb2); (try clear hk); (try clear hi)) | ((with_reducible refine gate_callee (f := 37) rfl ?_); refine goesL_ (some 31) rfl rfl Try.func37 (by kernel_rfl) rfl #[.slice A0 l0.length c0] rfl (by (try simp only [List.map_toArray, List.map_cons, List.map_nil]); first | done | rfl | (simp only [List.length_drop, List.length_take]; rfl)) ?_; (with_reducible refine (garmentref01_Text.calls kj2 _ _ l0 t639 _ ?side1 ?side2 A11.out).mono ?_); (case side1 => repeat (first | exact (Kd.C_below HR0.out HB.out) | (with_reducible refine Kd.C_alloc ?_ _) | (with_reducible refine Kd.C_drewN ?_ _) | (with_reducible refine Kd.C_drew ?_))); (case side2 => exact HC0.out); rintro e w20 ⟨rfl, hb⟩; refine ⟨_, rfl, ?_⟩; have n0_ := Aside0.mk (Kd.R_below (by (with_reducible repeat (first | apply Kd.R_alloc | apply Kd.R_drewN | apply Kd.R_drew)); exact HO633.out) hb); have n1_ := Aside0.mk (Kd.R_below (by (with_reducible repeat (first | apply Kd.R_alloc | apply Kd.R_drewN | apply Kd.R_drew)); exact HO637.out) hb); have n2_ := Aside0.mk (below_step (by repeat (first | (with_reducible first | exact HB.out | apply below_alloc | apply pw_below_drewN | apply below_drew1) | exact HB.out)) hb); clear HO633; clear HO637; clear HB; have HO633 := n0_; have HO637 := n1_; have HB := n2_; clear n0_ n1_ n2_; (try clear hb); (try clear hb2); (try clear hk); (try clear hi); obtain ⟨Ao21, co21, eo21⟩ := Kd.R_slice HO633.out; subst eo21; obtain ⟨Ao22, co22, eo22⟩ := Kd.R_slice HO637.out; subst eo22) | (go_at_call 15; (with_reducible refine (garmentref01_Same.calls kj2 _ _ t630 _ _ t634 true _ ?side1 ?side2 ?side3 ?side4 A13.out).mono ?_); (case side1 => repeat (first | exact (Kd.R_reads' HO633.out).2.2 | (with_reducible refine Kd.C_alloc ?_ _) | (with_reducible refine Kd.C_drewN ?_ _) | (with_reducible refine Kd.C_drew ?_))); (case side2 => exact (Kd.R_reads' HO633.out).2.1); (case side3 => repeat (first | exact (Kd.R_reads' HO637.out).2.2 | (with_reducible refine Kd.C_alloc ?_ _) | (with_reducible refine Kd.C_drewN ?_ _) | (with_reducible refine Kd.C_drew ?_))); (case side4 => exact (Kd.R_reads' HO637.out).2.1); rintro e w' ⟨rfl, ⟨nd, rfl⟩⟩) | (go_at_call 14; (with_reducible refine (garmentlaw01_alive.calls kj2  t641 _ A16.out).mono ?_); rintro e w23 ⟨rfl, hb⟩; have n0_ := Aside0.mk (Kd.R_below (by (with_reducible repeat (first | apply Kd.R_alloc | apply Kd.R_drewN | apply Kd.R_drew)); exact HO633.out) hb); have n1_ := Aside0.mk (Kd.R_below (by (with_reducible repeat (first | apply Kd.R_alloc | apply Kd.R_drewN | apply Kd.R_drew)); exact HO637.out) hb); have n2_ := Aside0.mk (below_step (by repeat (first | (with_reducible first | exact HB.out | apply below_alloc | apply pw_below_drewN | apply below_drew1) | exact HB.out)) hb); clear HO633; clear HO637; clear HB; have HO633 := n0_; have HO637 := n1_; have HB := n2_; clear n0_ n1_ n2_; (try clear hb); (try clear hb2); (try clear hk); (try clear hi)))
       go_ret
       exact ⟨by first | rfl | (simp [errW_none, errW_some] <;> rfl) | (simp [*, errW_none, errW_some] <;> rfl), by repeat (first | (with_reducible first | exact HB.out | apply below_alloc | apply pw_below_drewN | apply below_drew1) | exact HB.out)⟩
      ·rw [if_neg c15] at H
       exact absurd H (by simp)
     ·replace c14 := Bool.eq_false_iff.mpr c14
      subst c14
      have H1 : (none) = some r := by rw [if_neg (show ¬ (false = true) by decide)] at H; exact H
      clear H
      have H := H1
      clear H1
      exact absurd H (by simp)
    ·rw [if_neg c12] at H
     exact absurd H (by simp)

/-- THE ONE PURE STATEMENT of garmentlaw01_NaturalTexts: yours. -/
def garmentlaw01_NaturalTexts.Pure : Prop := ∀ (l0 : List Int) (a1 : ByteArray), l0.length ≤ maxLen → l0.length * 4 ≤ 140737488351232 → (∀ x ∈ l0, (Lit.int .u32 x).wf = true) → a1.size ≤ 140737488351232 → ∃ k, garmentlaw01_NaturalTexts.f k l0 a1 = some true
theorem garmentlaw01_NaturalTexts.walk (P : garmentlaw01_NaturalTexts.Pure) (a0 : Option Addr) (len0 cap0 : Nat) (z0 : List Int) (a1 : ByteArray) (w : World) (w0 : (a0 = none ∧ len0 = 0 ∧ cap0 = 0 ∧ z0 = []) ∨ ∃ x, a0 = some x ∧ len0 ≤ cap0 ∧ cap0 ≤ maxLen ∧ z0.length = cap0 ∧ (∀ i, i < z0.length → w.cell? (x.add i) = some (.int .u32 (z0.getD i 0))) ∧ ∀ n ∈ z0, (Lit.int .u32 n).wf = true) (y0 : len0 * 4 ≤ 140737488351232) (w1 : a1.size ≤ 140737488351232) :
  Calls Try.prog 7 #[.slice a0 len0 cap0, .string a1] w fun e w' => e = .returned (.bool true) ∧ Below w.heap.size w w' := by
 obtain ⟨l0, rfl, hr0, hm0, hw0, hc0⟩ := ReadsInt.ofRowC w0
 obtain ⟨k, h⟩ := P l0 a1 hm0 y0 hw0 w1
 refine (garmentlaw01_NaturalTexts.calls k _ _ l0 a1 true w (Kd.C_of_reads (d := (0 : Int)) (h1 := fun _ => rfl) hr0) hc0 h).mono ?_
 rintro e w' ⟨rfl, hd⟩
 exact ⟨rfl, hd⟩

end Go.Proofs.Ytkbnfdiglbpfmaa.P
