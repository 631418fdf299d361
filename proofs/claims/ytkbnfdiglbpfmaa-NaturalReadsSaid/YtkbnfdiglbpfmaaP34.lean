-- By gp.py (ours) over the kit's print.py. Not trusted: Lean checks it.
import Derived.Test.YtkbnfdiglbpfmaaP0
import Derived.Test.YtkbnfdiglbpfmaaP1
import Derived.Test.YtkbnfdiglbpfmaaP4
import Derived.Test.YtkbnfdiglbpfmaaP5
namespace Go.Proofs.Ytkbnfdiglbpfmaa.P
open Go.RowKit Go.Proofs.YtkbnfdiglbpfmaaW.PrintWords Go.Proofs.YtkbnfdiglbpfmaaW.PrintLast Go.Proofs.YtkbnfdiglbpfmaaW.PrintMore
attribute [local go_sem] max2_int min2_int max_two min_two max_three min_three max_four min_four   -- for this text's walks alone
set_option linter.unusedVariables false
set_option linter.unusedSimpArgs false

/-! ### garmentlaw01_NaturalReads: function 12 -/
mutual
def garmentlaw01_NaturalReads.j0 : Nat → List Int → ByteArray → Bool → Option (Bool)
 | 0, _, _, _ => none
 | k + 1, x0, x1, x17 => if x17 = true then ((garmentlaw01_alive.f k).bind fun t788 => (some t788)) else ((natural_Text.f k x0).bind fun t789 => ((natural_Parse.f k t789).bind fun bt790 => (if (t789.size : Int) > 200 then (if bt790.2 = 5 then (if (t789.size : Int) ≤ 200 then (if bt790.2 = 0 then ((natural_Cmp.f k x0 bt790.1).bind fun t794 => (garmentlaw01_NaturalReads.j1 k x1 (t794 != 0))) else (garmentlaw01_NaturalReads.j1 k x1 true)) else (garmentlaw01_NaturalReads.j1 k x1 false)) else (garmentlaw01_NaturalReads.j1 k x1 true)) else (if (t789.size : Int) ≤ 200 then (if bt790.2 = 0 then ((natural_Cmp.f k x0 bt790.1).bind fun t795 => (garmentlaw01_NaturalReads.j1 k x1 (t795 != 0))) else (garmentlaw01_NaturalReads.j1 k x1 true)) else (garmentlaw01_NaturalReads.j1 k x1 false)))))
def garmentlaw01_NaturalReads.j1 : Nat → ByteArray → Bool → Option (Bool)
 | 0, _, _ => none
 | k + 1, x1, x47 => if x47 = true then (none) else ((natural_Parse.f k x1).bind fun bt796 => (if bt796.2 = 0 then ((natural_Text.f k bt796.1).bind fun t800 => (if t800.toList = x1.toList then ((garmentlaw01_alive.f k).bind fun t801 => (some t801)) else (none))) else ((garmentlaw01_alive.f k).bind fun t802 => (some t802))))
end
def garmentlaw01_NaturalReads.f (k : Nat) (l0 : List Int) (a1 : ByteArray) : Option (Bool) := if (l0.length : Int) > 24 then (garmentlaw01_NaturalReads.j0 k l0 a1 true) else (garmentlaw01_NaturalReads.j0 k l0 a1 (decide ((a1.size : Int) > 300)))
theorem garmentlaw01_NaturalReads.mono_l : ∀ k, (∀ y0 y1 y2, LeO (garmentlaw01_NaturalReads.j0 k y0 y1 y2) (garmentlaw01_NaturalReads.j0 (k + 1) y0 y1 y2)) ∧ (∀ y0 y1, LeO (garmentlaw01_NaturalReads.j1 k y0 y1) (garmentlaw01_NaturalReads.j1 (k + 1) y0 y1))
 | 0 => ⟨fun _ _ _ r h => by simp [garmentlaw01_NaturalReads.j0] at h, fun _ _ r h => by simp [garmentlaw01_NaturalReads.j1] at h⟩
 | k + 1 => by
  obtain ⟨ih0, ih1⟩ := garmentlaw01_NaturalReads.mono_l k
  refine ⟨?_, ?_⟩
  ·intro y0 y1 y2
   unfold garmentlaw01_NaturalReads.j0
   repeat' first
   | (with_reducible exact ih0 _ _ _)
   | (with_reducible exact ih1 _ _)
   | (with_reducible exact garmentlaw01_alive.mono _)
   | (with_reducible exact natural_Cmp.mono _ _ _)
   | (with_reducible exact natural_Parse.mono _ _)
   | (with_reducible exact natural_Text.mono _ _)
   | (with_reducible exact LeO.refl _)
   | (with_reducible exact LeO.none _)
   | (with_reducible refine LeO.ite ?_ ?_)
   | (with_reducible refine LeO.bind ?_ (fun _ => ?_))
   | exact ih0 _ _ _
   | exact ih1 _ _
   | exact garmentlaw01_alive.mono _
   | exact natural_Cmp.mono _ _ _
   | exact natural_Parse.mono _ _
   | exact natural_Text.mono _ _
   | exact LeO.none _
   | refine LeO.ite ?_ ?_
   | refine LeO.bind ?_ (fun _ => ?_)
  ·intro y0 y1
   unfold garmentlaw01_NaturalReads.j1
   repeat' first
   | (with_reducible exact ih0 _ _ _)
   | (with_reducible exact ih1 _ _)
   | (with_reducible exact garmentlaw01_alive.mono _)
   | (with_reducible exact natural_Cmp.mono _ _ _)
   | (with_reducible exact natural_Parse.mono _ _)
   | (with_reducible exact natural_Text.mono _ _)
   | (with_reducible exact LeO.refl _)
   | (with_reducible exact LeO.none _)
   | (with_reducible refine LeO.ite ?_ ?_)
   | (with_reducible refine LeO.bind ?_ (fun _ => ?_))
   | exact ih0 _ _ _
   | exact ih1 _ _
   | exact garmentlaw01_alive.mono _
   | exact natural_Cmp.mono _ _ _
   | exact natural_Parse.mono _ _
   | exact natural_Text.mono _ _
   | exact LeO.none _
   | refine LeO.ite ?_ ?_
   | refine LeO.bind ?_ (fun _ => ?_)
theorem garmentlaw01_NaturalReads.mono : ∀ a0 a1 k, LeO (garmentlaw01_NaturalReads.f k a0 a1) (garmentlaw01_NaturalReads.f (k + 1) a0 a1) := by
 intro a0 a1 k
 obtain ⟨ih0, ih1⟩ := garmentlaw01_NaturalReads.mono_l k
 unfold garmentlaw01_NaturalReads.f
 repeat' first
   | (with_reducible exact ih0 _ _ _)
   | (with_reducible exact ih1 _ _)
   | (with_reducible exact garmentlaw01_alive.mono _)
   | (with_reducible exact natural_Cmp.mono _ _ _)
   | (with_reducible exact natural_Parse.mono _ _)
   | (with_reducible exact natural_Text.mono _ _)
   | (with_reducible exact LeO.refl _)
   | (with_reducible exact LeO.none _)
   | (with_reducible refine LeO.ite ?_ ?_)
   | (with_reducible refine LeO.bind ?_ (fun _ => ?_))
   | exact ih0 _ _ _
   | exact ih1 _ _
   | exact garmentlaw01_alive.mono _
   | exact natural_Cmp.mono _ _ _
   | exact natural_Parse.mono _ _
   | exact natural_Text.mono _ _
   | exact LeO.none _
   | refine LeO.ite ?_ ?_
   | refine LeO.bind ?_ (fun _ => ?_)
set_option maxHeartbeats 8000000 in
set_option maxRecDepth 100000 in
theorem garmentlaw01_NaturalReads.calls (k : Nat) (A0 : Option Addr) (c0 : Nat) (l0 : List Int) (a1 : ByteArray) (r : Bool) (w : World) (hr0 : Kd.C (Kd.int .u32) w A0 l0.length l0) (hc0 : l0.length ≤ c0) (h : garmentlaw01_NaturalReads.f k l0 a1 = some r) :
  Calls Try.prog 12 #[.slice A0 l0.length c0, .string a1] w fun e w' => e = .returned (.bool r) ∧ Below w.heap.size w w' := by
 have HR0 := Aside0.mk hr0
 have HC0 := Aside0.mk hc0
 clear hr0 hc0
 have HB := Aside0.mk (Below.refl w.heap.size w)
 have H : (if (l0.length : Int) > 24 then (garmentlaw01_NaturalReads.j0 k l0 a1 true) else (garmentlaw01_NaturalReads.j0 k l0 a1 (decide ((a1.size : Int) > 300)))) = some r := h
 clear h
 have HC3 := Aside0.mk H
 clear H
 go_enter Try.func12, Try.ntmps12
 go_upto_region 1 with (fail)
 go_cut [17] (fun v17 wc => ∃ (kq : Nat) (x17_2 : Bool), v17 = .bool x17_2 ∧ Aside0 (garmentlaw01_NaturalReads.j0 kq l0 a1 x17_2 = some r) ∧ Aside0 (kq ≤ k) ∧ Aside0 (Below w.heap.size w wc))
 case first =>
  have H := HC3.out
  clear HC3
  by_cases c4 : (l0.length : Int) > 24
  ·rw [if_pos c4] at H
   have c4b0 : decide (24 < (l0.length : Int)) = true := decide_eq_true c4
   have c4b1 : decide (24 < l0.length) = true := decide_eq_true (by omega)
   clear c4
   (first | rw [c4b0] | rw [c4b1] | (simp only [i64_w, i32_w]; rw [c4b0]) | skip)
   have H' := Aside0.mk H
   clear H
   go_wp2
   go_meet
   case rel => exact ⟨_, (true), (by first | rfl | (simp; done) | (simp [*]; done)), H', ⟨by first | omega | exact Nat.le_refl _⟩, ⟨by repeat (first | (with_reducible first | exact HB.out | apply below_alloc | apply pw_below_drewN | apply below_drew1) | exact HB.out)⟩⟩
  ·rw [if_neg c4] at H
   have c4b0 : decide (24 < (l0.length : Int)) = false := decide_eq_false c4
   have c4b1 : decide (24 < l0.length) = false := decide_eq_false (by omega)
   clear c4
   (first | rw [c4b0] | rw [c4b1] | (simp only [i64_w, i32_w]; rw [c4b0]) | skip)
   have H' := Aside0.mk H
   clear H
   go_wp2
   go_meet
   case rel => exact ⟨_, (decide ((a1.size : Int) > 300)), (by first | rfl | (simp; done) | (simp [*]; done)), H', ⟨by first | omega | exact Nat.le_refl _⟩, ⟨by repeat (first | (with_reducible first | exact HB.out | apply below_alloc | apply pw_below_drewN | apply below_drew1) | exact HB.out)⟩⟩
 case rest =>
  clear HC3
  try clear c1
  try clear p2
  try clear c4
  try clear c4b0
  try clear c4b1
  obtain ⟨kq, x17_2, rfl, HA, HJ2, HB⟩ := hcut
  cases kq with
  | zero => exact absurd HA.out (by simp [garmentlaw01_NaturalReads.j0])
  | succ kj2 =>
   have H := HA.out
   clear HA
   simp only [garmentlaw01_NaturalReads.j0] at H
   by_cases c5 : x17_2 = true
   ·subst c5
    have H1 : ((garmentlaw01_alive.f kj2).bind fun t788 => (some t788)) = some r := by rw [if_pos rfl] at H; exact H
    clear H
    have H := H1
    clear H1
    replace H := Option.bind_eq_some_iff.mp H
    obtain ⟨t788, A60, H⟩ := H
    replace H : (some t788) = some r := H
    have A6 := Aside0.mk A60
    clear A60
    obtain rfl := Option.some.inj H
    go_wp2_with (first | ((with_reducible refine gate_callee (f := 14) rfl ?_); refine goesL_ (some 18) rfl rfl Try.func14 (by kernel_rfl) rfl #[] rfl (by (try simp only [List.map_toArray, List.map_cons, List.map_nil]); first | done | rfl | (simp only [List.length_drop, List.length_take]; rfl)) ?_; (with_reducible refine (garmentlaw01_alive.calls kj2  t788 _ A6.out).mono ?_); rintro e w7 ⟨rfl, hb⟩; refine ⟨_, rfl, ?_⟩; have n0_ := Aside0.mk (below_step (by repeat (first | (with_reducible first | exact HB.out | apply below_alloc | apply pw_below_drewN | apply below_drew1) | exact HB.out)) hb); clear HB; have HB := n0_; clear n0_; (try clear hb); (try clear hb2); (try clear hk); (try clear hi)))
    go_ret
    exact ⟨by first | rfl | (simp [errW_none, errW_some] <;> rfl) | (simp [*, errW_none, errW_some] <;> rfl), by repeat (first | (with_reducible first | exact HB.out | apply below_alloc | apply pw_below_drewN | apply below_drew1) | exact HB.out)⟩
   ·replace c5 := Bool.eq_false_iff.mpr c5
    subst c5
    have H1 : ((natural_Text.f kj2 l0).bind fun t789 => ((natural_Parse.f kj2 t789).bind fun bt790 => (if (t789.size : Int) > 200 then (if bt790.2 = 5 then (if (t789.size : Int) ≤ 200 then (if bt790.2 = 0 then ((natural_Cmp.f kj2 l0 bt790.1).bind fun t794 => (garmentlaw01_NaturalReads.j1 kj2 a1 (t794 != 0))) else (garmentlaw01_NaturalReads.j1 kj2 a1 true)) else (garmentlaw01_NaturalReads.j1 kj2 a1 false)) else (garmentlaw01_NaturalReads.j1 kj2 a1 true)) else (if (t789.size : Int) ≤ 200 then (if bt790.2 = 0 then ((natural_Cmp.f kj2 l0 bt790.1).bind fun t795 => (garmentlaw01_NaturalReads.j1 kj2 a1 (t795 != 0))) else (garmentlaw01_NaturalReads.j1 kj2 a1 true)) else (garmentlaw01_NaturalReads.j1 kj2 a1 false))))) = some r := by rw [if_neg (show ¬ (false = true) by decide)] at H; exact H
    clear H
    have H := H1
    clear H1
    replace H := Option.bind_eq_some_iff.mp H
    obtain ⟨t789, A80, H⟩ := H
    replace H : ((natural_Parse.f kj2 t789).bind fun bt790 => (if (t789.size : Int) > 200 then (if bt790.2 = 5 then (if (t789.size : Int) ≤ 200 then (if bt790.2 = 0 then ((natural_Cmp.f kj2 l0 bt790.1).bind fun t794 => (garmentlaw01_NaturalReads.j1 kj2 a1 (t794 != 0))) else (garmentlaw01_NaturalReads.j1 kj2 a1 true)) else (garmentlaw01_NaturalReads.j1 kj2 a1 false)) else (garmentlaw01_NaturalReads.j1 kj2 a1 true)) else (if (t789.size : Int) ≤ 200 then (if bt790.2 = 0 then ((natural_Cmp.f kj2 l0 bt790.1).bind fun t795 => (garmentlaw01_NaturalReads.j1 kj2 a1 (t795 != 0))) else (garmentlaw01_NaturalReads.j1 kj2 a1 true)) else (garmentlaw01_NaturalReads.j1 kj2 a1 false)))) = some r := H
    have A8 := Aside0.mk A80
    clear A80
    replace H := Option.bind_eq_some_iff.mp H
    obtain ⟨⟨t790, t791⟩, A90, H⟩ := H
    replace H : (if (t789.size : Int) > 200 then (if t791 = 5 then (if (t789.size : Int) ≤ 200 then (if t791 = 0 then ((natural_Cmp.f kj2 l0 t790).bind fun t794 => (garmentlaw01_NaturalReads.j1 kj2 a1 (t794 != 0))) else (garmentlaw01_NaturalReads.j1 kj2 a1 true)) else (garmentlaw01_NaturalReads.j1 kj2 a1 false)) else (garmentlaw01_NaturalReads.j1 kj2 a1 true)) else (if (t789.size : Int) ≤ 200 then (if t791 = 0 then ((natural_Cmp.f kj2 l0 t790).bind fun t795 => (garmentlaw01_NaturalReads.j1 kj2 a1 (t795 != 0))) else (garmentlaw01_NaturalReads.j1 kj2 a1 true)) else (garmentlaw01_NaturalReads.j1 kj2 a1 false))) = some r := H
    have A9 := Aside0.mk A90
    clear A90
    have HC10 := Aside0.mk H
    clear H
    go_upto_region 5 with (first | ((with_reducible refine gate_callee (f := 36) rfl ?_); refine goesL_ (some 20) rfl rfl Try.func36 (by kernel_rfl) rfl #[.slice A0 l0.length c0] rfl (by (try simp only [List.map_toArray, List.map_cons, List.map_nil]); first | done | rfl | (simp only [List.length_drop, List.length_take]; rfl)) ?_; (with_reducible refine (natural_Text.calls kj2 _ _ l0 t789 _ ?side1 ?side2 A8.out).mono ?_); (case side1 => repeat (first | exact (Kd.C_below HR0.out HB.out) | (with_reducible refine Kd.C_alloc ?_ _) | (with_reducible refine Kd.C_drewN ?_ _) | (with_reducible refine Kd.C_drew ?_))); (case side2 => exact HC0.out); rintro e w11 ⟨rfl, hb⟩; refine ⟨_, rfl, ?_⟩; have n0_ := Aside0.mk (below_step (by repeat (first | (with_reducible first | exact HB.out | apply below_alloc | apply pw_below_drewN | apply below_drew1) | exact HB.out)) hb); clear HB; have HB := n0_; clear n0_; (try clear hb); (try clear hb2); (try clear hk); (try clear hi)) | ((with_reducible refine gate_callee (f := 34) rfl ?_); refine goesL_ (some 23) rfl rfl Try.func34 (by kernel_rfl) rfl #[.string t789] rfl (by (try simp only [List.map_toArray, List.map_cons, List.map_nil]); first | done | rfl | (simp only [List.length_drop, List.length_take]; rfl)) ?_; (with_reducible refine (natural_Parse.calls kj2 t789 t790 t791 _ A9.out).mono ?_); rintro e w12 ⟨v792, rfl, ho0, hb⟩; refine ⟨_, rfl, ?_⟩; have n0_ := Aside0.mk (Kd.R_lower ho0 (below_size (by repeat (first | (with_reducible first | exact HB.out | apply below_alloc | apply pw_below_drewN | apply below_drew1) | exact HB.out)))); have n1_ := Aside0.mk (below_step (by repeat (first | (with_reducible first | exact HB.out | apply below_alloc | apply pw_below_drewN | apply below_drew1) | exact HB.out)) hb); clear HB; have HO793 := n0_; have HB := n1_; clear n0_ n1_; (try clear hb); (try clear hb2); (try clear hk); (try clear hi); (try clear ho0)))
    (try simp only [Act.put, List.setIfInBounds_toArray, List.set_cons_zero, List.set_cons_succ])
    go_cut [47] (fun v47 wc => ∃ (kq : Nat) (x47_9 : Bool), v47 = .bool x47_9 ∧ Aside0 (garmentlaw01_NaturalReads.j1 kq a1 x47_9 = some r) ∧ Aside0 (kq ≤ kj2) ∧ Aside0 (Below w.heap.size w wc))
    case first =>
     have H := HC10.out
     clear HC10
     by_cases c13 : (t789.size : Int) > 200
     ·rw [if_pos c13] at H
      have c13b0 : decide (200 < (t789.size : Int)) = true := decide_eq_true c13
      have c13b1 : decide (200 < t789.size) = true := decide_eq_true (by omega)
      clear c13
      (first | rw [c13b0] | rw [c13b1] | (simp only [i64_w, i32_w]; rw [c13b0]) | skip)
      by_cases c14 : t791 = 5
      ·rw [if_pos c14] at H
       have c14b0 : (t791 == 5) = true := beq_iff_eq.mpr c14
       have c14b1 : (t791 != 5) = false := bne_eq_false_iff_eq.mpr c14
       clear c14
       by_cases c15 : (t789.size : Int) ≤ 200
       ·rw [if_pos c15] at H
        have c15b0 : decide ((t789.size : Int) ≤ 200) = true := decide_eq_true c15
        have c15b1 : decide (t789.size ≤ 200) = true := decide_eq_true (by omega)
        clear c15
        by_cases c16 : t791 = 0
        ·rw [if_pos c16] at H
         have c16b0 : (t791 == 0) = true := beq_iff_eq.mpr c16
         have c16b1 : (t791 != 0) = false := bne_eq_false_iff_eq.mpr c16
         clear c16
         replace H := Option.bind_eq_some_iff.mp H
         obtain ⟨t794, A170, H⟩ := H
         replace H : (garmentlaw01_NaturalReads.j1 kj2 a1 (t794 != 0)) = some r := H
         have A17 := Aside0.mk A170
         clear A170
         have H' := Aside0.mk H
         clear H
         obtain ⟨Ao18, co18, eo18⟩ := Kd.R_slice HO793.out
         subst eo18
         go_wp2_with (first | (go_at_call 20; (with_reducible refine (natural_Cmp.calls kj2 _ _ l0 _ _ t790 t794 _ ?side1 ?side2 ?side3 ?side4 A17.out).mono ?_); (case side1 => repeat (first | exact (Kd.C_below HR0.out HB.out) | (with_reducible refine Kd.C_alloc ?_ _) | (with_reducible refine Kd.C_drewN ?_ _) | (with_reducible refine Kd.C_drew ?_))); (case side2 => exact HC0.out); (case side3 => repeat (first | exact (Kd.R_reads' HO793.out).2.2 | (with_reducible refine Kd.C_alloc ?_ _) | (with_reducible refine Kd.C_drewN ?_ _) | (with_reducible refine Kd.C_drew ?_))); (case side4 => exact (Kd.R_reads' HO793.out).2.1); rintro e w19 ⟨rfl, hb⟩; have n0_ := Aside0.mk (Kd.R_below (by (with_reducible repeat (first | apply Kd.R_alloc | apply Kd.R_drewN | apply Kd.R_drew)); exact HO793.out) hb); have n1_ := Aside0.mk (below_step (by repeat (first | (with_reducible first | exact HB.out | apply below_alloc | apply pw_below_drewN | apply below_drew1) | exact HB.out)) hb); clear HO793; clear HB; have HO793 := n0_; have HB := n1_; clear n0_ n1_; (try clear hb); (try clear hb2); (try clear hk); (try clear hi)))
         go_meet
         case rel => exact ⟨_, ((t794 != 0)), (by first | rfl | (simp; done) | (simp [*]; done)), H', ⟨by have := HJ2.out; first | omega | exact Nat.le_refl _⟩, ⟨by repeat (first | (with_reducible first | exact HB.out | apply below_alloc | apply pw_below_drewN | apply below_drew1) | exact HB.out)⟩⟩
        ·rw [if_neg c16] at H
         have c16b0 : (t791 == 0) = false := beq_eq_false_iff_ne.mpr c16
         have c16b1 : (t791 != 0) = true := bne_iff_ne.mpr c16
         have H' := Aside0.mk H
         clear H
         go_wp2
         go_meet
         case rel => exact ⟨_, (true), (by first | rfl | (simp; done) | (simp [*]; done)), H', ⟨by have := HJ2.out; first | omega | exact Nat.le_refl _⟩, ⟨by repeat (first | (with_reducible first | exact HB.out | apply below_alloc | apply pw_below_drewN | apply below_drew1) | exact HB.out)⟩⟩
       ·rw [if_neg c15] at H
        have c15b0 : decide ((t789.size : Int) ≤ 200) = false := decide_eq_false c15
        have c15b1 : decide (t789.size ≤ 200) = false := decide_eq_false (by omega)
        clear c15
        have H' := Aside0.mk H
        clear H
        go_wp2
        go_meet
        case rel => exact ⟨_, (false), (by first | rfl | (simp; done) | (simp [*]; done)), H', ⟨by have := HJ2.out; first | omega | exact Nat.le_refl _⟩, ⟨by repeat (first | (with_reducible first | exact HB.out | apply below_alloc | apply pw_below_drewN | apply below_drew1) | exact HB.out)⟩⟩
      ·rw [if_neg c14] at H
       have c14b0 : (t791 == 5) = false := beq_eq_false_iff_ne.mpr c14
       have c14b1 : (t791 != 5) = true := bne_iff_ne.mpr c14
       have H' := Aside0.mk H
       clear H
       go_wp2
       go_meet
       case rel => exact ⟨_, (true), (by first | rfl | (simp; done) | (simp [*]; done)), H', ⟨by have := HJ2.out; first | omega | exact Nat.le_refl _⟩, ⟨by repeat (first | (with_reducible first | exact HB.out | apply below_alloc | apply pw_below_drewN | apply below_drew1) | exact HB.out)⟩⟩
     ·rw [if_neg c13] at H
      have c13b0 : decide (200 < (t789.size : Int)) = false := decide_eq_false c13
      have c13b1 : decide (200 < t789.size) = false := decide_eq_false (by omega)
      clear c13
      (first | rw [c13b0] | rw [c13b1] | (simp only [i64_w, i32_w]; rw [c13b0]) | skip)
      by_cases c20 : (t789.size : Int) ≤ 200
      ·rw [if_pos c20] at H
       have c20b0 : decide ((t789.size : Int) ≤ 200) = true := decide_eq_true c20
       have c20b1 : decide (t789.size ≤ 200) = true := decide_eq_true (by omega)
       clear c20
       by_cases c21 : t791 = 0
       ·rw [if_pos c21] at H
        have c21b0 : (t791 == 0) = true := beq_iff_eq.mpr c21
        have c21b1 : (t791 != 0) = false := bne_eq_false_iff_eq.mpr c21
        clear c21
        replace H := Option.bind_eq_some_iff.mp H
        obtain ⟨t795, A220, H⟩ := H
        replace H : (garmentlaw01_NaturalReads.j1 kj2 a1 (t795 != 0)) = some r := H
        have A22 := Aside0.mk A220
        clear A220
        have H' := Aside0.mk H
        clear H
        obtain ⟨Ao23, co23, eo23⟩ := Kd.R_slice HO793.out
        subst eo23
        go_wp2_with (first | (go_at_call 20; (with_reducible refine (natural_Cmp.calls kj2 _ _ l0 _ _ t790 t795 _ ?side1 ?side2 ?side3 ?side4 A22.out).mono ?_); (case side1 => repeat (first | exact (Kd.C_below HR0.out HB.out) | (with_reducible refine Kd.C_alloc ?_ _) | (with_reducible refine Kd.C_drewN ?_ _) | (with_reducible refine Kd.C_drew ?_))); (case side2 => exact HC0.out); (case side3 => repeat (first | exact (Kd.R_reads' HO793.out).2.2 | (with_reducible refine Kd.C_alloc ?_ _) | (with_reducible refine Kd.C_drewN ?_ _) | (with_reducible refine Kd.C_drew ?_))); (case side4 => exact (Kd.R_reads' HO793.out).2.1); rintro e w24 ⟨rfl, hb⟩; have n0_ := Aside0.mk (Kd.R_below (by (with_reducible repeat (first | apply Kd.R_alloc | apply Kd.R_drewN | apply Kd.R_drew)); exact HO793.out) hb); have n1_ := Aside0.mk (below_step (by repeat (first | (with_reducible first | exact HB.out | apply below_alloc | apply pw_below_drewN | apply below_drew1) | exact HB.out)) hb); clear HO793; clear HB; have HO793 := n0_; have HB := n1_; clear n0_ n1_; (try clear hb); (try clear hb2); (try clear hk); (try clear hi)))
        go_meet
        case rel => exact ⟨_, ((t795 != 0)), (by first | rfl | (simp; done) | (simp [*]; done)), H', ⟨by have := HJ2.out; first | omega | exact Nat.le_refl _⟩, ⟨by repeat (first | (with_reducible first | exact HB.out | apply below_alloc | apply pw_below_drewN | apply below_drew1) | exact HB.out)⟩⟩
       ·rw [if_neg c21] at H
        have c21b0 : (t791 == 0) = false := beq_eq_false_iff_ne.mpr c21
        have c21b1 : (t791 != 0) = true := bne_iff_ne.mpr c21
        have H' := Aside0.mk H
        clear H
        go_wp2
        go_meet
        case rel => exact ⟨_, (true), (by first | rfl | (simp; done) | (simp [*]; done)), H', ⟨by have := HJ2.out; first | omega | exact Nat.le_refl _⟩, ⟨by repeat (first | (with_reducible first | exact HB.out | apply below_alloc | apply pw_below_drewN | apply below_drew1) | exact HB.out)⟩⟩
      ·rw [if_neg c20] at H
       have c20b0 : decide ((t789.size : Int) ≤ 200) = false := decide_eq_false c20
       have c20b1 : decide (t789.size ≤ 200) = false := decide_eq_false (by omega)
       clear c20
       have H' := Aside0.mk H
       clear H
       go_wp2
       go_meet
       case rel => exact ⟨_, (false), (by first | rfl | (simp; done) | (simp [*]; done)), H', ⟨by have := HJ2.out; first | omega | exact Nat.le_refl _⟩, ⟨by repeat (first | (with_reducible first | exact HB.out | apply below_alloc | apply pw_below_drewN | apply below_drew1) | exact HB.out)⟩⟩
    case rest =>
     clear HC10
     try clear c1
     try clear c2
     try clear p2
     try clear c3
     try clear c4
     try clear c4b0
     try clear c4b1
     try clear c5
     try clear c12
     try clear c13
     try clear c13b0
     try clear c13b1
     try clear c14
     try clear c14b0
     try clear c14b1
     try clear c15
     try clear c15b0
     try clear c15b1
     try clear c16
     try clear c16b0
     try clear c16b1
     try clear c20
     try clear c20b0
     try clear c20b1
     try clear c21
     try clear c21b0
     try clear c21b1
     try clear p2
     obtain ⟨kq, x47_9, rfl, HA, HJ9, HB⟩ := hcut
     cases kq with
     | zero => exact absurd HA.out (by simp [garmentlaw01_NaturalReads.j1])
     | succ kj9 =>
      have H := HA.out
      clear HA
      simp only [garmentlaw01_NaturalReads.j1] at H
      by_cases c25 : x47_9 = true
      ·subst c25
       have H1 : (none) = some r := by rw [if_pos rfl] at H; exact H
       clear H
       have H := H1
       clear H1
       exact absurd H (by simp)
      ·replace c25 := Bool.eq_false_iff.mpr c25
       subst c25
       have H1 : ((natural_Parse.f kj9 a1).bind fun bt796 => (if bt796.2 = 0 then ((natural_Text.f kj9 bt796.1).bind fun t800 => (if t800.toList = a1.toList then ((garmentlaw01_alive.f kj9).bind fun t801 => (some t801)) else (none))) else ((garmentlaw01_alive.f kj9).bind fun t802 => (some t802)))) = some r := by rw [if_neg (show ¬ (false = true) by decide)] at H; exact H
       clear H
       have H := H1
       clear H1
       replace H := Option.bind_eq_some_iff.mp H
       obtain ⟨⟨t796, t797⟩, A260, H⟩ := H
       replace H : (if t797 = 0 then ((natural_Text.f kj9 t796).bind fun t800 => (if t800.toList = a1.toList then ((garmentlaw01_alive.f kj9).bind fun t801 => (some t801)) else (none))) else ((garmentlaw01_alive.f kj9).bind fun t802 => (some t802))) = some r := H
       have A26 := Aside0.mk A260
       clear A260
       by_cases c27 : t797 = 0
       ·rw [if_pos c27] at H
        have c27b0 : (t797 == 0) = true := beq_iff_eq.mpr c27
        have c27b1 : (t797 != 0) = false := bne_eq_false_iff_eq.mpr c27
        clear c27
        replace H := Option.bind_eq_some_iff.mp H
        obtain ⟨t800, A280, H⟩ := H
        replace H : (if t800.toList = a1.toList then ((garmentlaw01_alive.f kj9).bind fun t801 => (some t801)) else (none)) = some r := H
        have A28 := Aside0.mk A280
        clear A280
        by_cases c29 : t800.toList = a1.toList
        ·rw [if_pos c29] at H
         have c29b0 : (t800.toList == a1.toList) = true := beq_iff_eq.mpr c29
         have c29b1 : (t800.toList != a1.toList) = false := bne_eq_false_iff_eq.mpr c29
         clear c29
         replace H := Option.bind_eq_some_iff.mp H
         obtain ⟨t801, A300, H⟩ := H
         replace H : (some t801) = some r := H
         have A30 := Aside0.mk A300
         clear A300
         obtain rfl := Option.some.inj H
         go_wp2_with (first | ((with_reducible refine gate_callee (f := 34) rfl ?_); refine goesL_ (some 50) rfl rfl Try.func34 (by kernel_rfl) rfl #[.string a1] rfl (by (try simp only [List.map_toArray, List.map_cons, List.map_nil]); first | done | rfl | (simp only [List.length_drop, List.length_take]; rfl)) ?_; (with_reducible refine (natural_Parse.calls kj9 a1 t796 t797 _ A26.out).mono ?_); rintro e w31 ⟨v798, rfl, ho0, hb⟩; refine ⟨_, rfl, ?_⟩; have n0_ := Aside0.mk (Kd.R_lower ho0 (below_size (by repeat (first | (with_reducible first | exact HB.out | apply below_alloc | apply pw_below_drewN | apply below_drew1) | exact HB.out)))); have n1_ := Aside0.mk (below_step (by repeat (first | (with_reducible first | exact HB.out | apply below_alloc | apply pw_below_drewN | apply below_drew1) | exact HB.out)) hb); clear HB; have HO799 := n0_; have HB := n1_; clear n0_ n1_; (try clear hb); (try clear hb2); (try clear hk); (try clear hi); (try clear ho0); obtain ⟨Ao32, co32, eo32⟩ := Kd.R_slice HO799.out; subst eo32) | (go_at_call 36; (with_reducible refine (natural_Text.calls kj9 _ _ t796 t800 _ ?side1 ?side2 A28.out).mono ?_); (case side1 => repeat (first | exact (Kd.R_reads' HO799.out).2.2 | (with_reducible refine Kd.C_alloc ?_ _) | (with_reducible refine Kd.C_drewN ?_ _) | (with_reducible refine Kd.C_drew ?_))); (case side2 => exact (Kd.R_reads' HO799.out).2.1); rintro e w33 ⟨rfl, hb⟩; have n0_ := Aside0.mk (Kd.R_below (by (with_reducible repeat (first | apply Kd.R_alloc | apply Kd.R_drewN | apply Kd.R_drew)); exact HO799.out) hb); have n1_ := Aside0.mk (below_step (by repeat (first | (with_reducible first | exact HB.out | apply below_alloc | apply pw_below_drewN | apply below_drew1) | exact HB.out)) hb); clear HO799; clear HB; have HO799 := n0_; have HB := n1_; clear n0_ n1_; (try clear hb); (try clear hb2); (try clear hk); (try clear hi)) | (go_at_call 14; (with_reducible refine (garmentlaw01_alive.calls kj9  t801 _ A30.out).mono ?_); rintro e w34 ⟨rfl, hb⟩; have n0_ := Aside0.mk (Kd.R_below (by (with_reducible repeat (first | apply Kd.R_alloc | apply Kd.R_drewN | apply Kd.R_drew)); exact HO799.out) hb); have n1_ := Aside0.mk (below_step (by repeat (first | (with_reducible first | exact HB.out | apply below_alloc | apply pw_below_drewN | apply below_drew1) | exact HB.out)) hb); clear HO799; clear HB; have HO799 := n0_; have HB := n1_; clear n0_ n1_; (try clear hb); (try clear hb2); (try clear hk); (try clear hi)))
         go_ret
         exact ⟨by first | rfl | (simp [errW_none, errW_some] <;> rfl) | (simp [*, errW_none, errW_some] <;> rfl), by repeat (first | (with_reducible first | exact HB.out | apply below_alloc | apply pw_below_drewN | apply below_drew1) | exact HB.out)⟩
        ·rw [if_neg c29] at H
         exact absurd H (by simp)
       ·rw [if_neg c27] at H
        have c27b0 : (t797 == 0) = false := beq_eq_false_iff_ne.mpr c27
        have c27b1 : (t797 != 0) = true := bne_iff_ne.mpr c27
        replace H := Option.bind_eq_some_iff.mp H
        obtain ⟨t802, A350, H⟩ := H
        replace H : (some t802) = some r := H
        have A35 := Aside0.mk A350
        clear A350
        obtain rfl := Option.some.inj H
        go_wp2_with (first | ((with_reducible refine gate_callee (f := 34) rfl ?_); refine goesL_ (some 50) rfl rfl Try.func34 (by kernel_rfl) rfl #[.string a1] rfl (by (try simp only [List.map_toArray, List.map_cons, List.map_nil]); first | done | rfl | (simp only [List.length_drop, List.length_take]; rfl)) ?_; (with_reducible refine (natural_Parse.calls kj9 a1 t796 t797 _ A26.out).mono ?_); rintro e w36 ⟨v798, rfl, ho0, hb⟩; refine ⟨_, rfl, ?_⟩; have n0_ := Aside0.mk (Kd.R_lower ho0 (below_size (by repeat (first | (with_reducible first | exact HB.out | apply below_alloc | apply pw_below_drewN | apply below_drew1) | exact HB.out)))); have n1_ := Aside0.mk (below_step (by repeat (first | (with_reducible first | exact HB.out | apply below_alloc | apply pw_below_drewN | apply below_drew1) | exact HB.out)) hb); clear HB; have HO799 := n0_; have HB := n1_; clear n0_ n1_; (try clear hb); (try clear hb2); (try clear hk); (try clear hi); (try clear ho0)) | (go_at_call 14; (with_reducible refine (garmentlaw01_alive.calls kj9  t802 _ A35.out).mono ?_); rintro e w37 ⟨rfl, hb⟩; have n0_ := Aside0.mk (Kd.R_below (by (with_reducible repeat (first | apply Kd.R_alloc | apply Kd.R_drewN | apply Kd.R_drew)); exact HO799.out) hb); have n1_ := Aside0.mk (below_step (by repeat (first | (with_reducible first | exact HB.out | apply below_alloc | apply pw_below_drewN | apply below_drew1) | exact HB.out)) hb); clear HO799; clear HB; have HO799 := n0_; have HB := n1_; clear n0_ n1_; (try clear hb); (try clear hb2); (try clear hk); (try clear hi)))
        go_ret
        exact ⟨by first | rfl | (simp [errW_none, errW_some] <;> rfl) | (simp [*, errW_none, errW_some] <;> rfl), by repeat (first | (with_reducible first | exact HB.out | apply below_alloc | apply pw_below_drewN | apply below_drew1) | exact HB.out)⟩

/-- THE ONE PURE STATEMENT of garmentlaw01_NaturalReads: yours. -/
def garmentlaw01_NaturalReads.Pure : Prop := ∀ (l0 : List Int) (a1 : ByteArray), l0.length ≤ maxLen → l0.length * 4 ≤ 140737488351232 → (∀ x ∈ l0, (Lit.int .u32 x).wf = true) → a1.size ≤ 140737488351232 → ∃ k, garmentlaw01_NaturalReads.f k l0 a1 = some true
theorem garmentlaw01_NaturalReads.walk (P : garmentlaw01_NaturalReads.Pure) (a0 : Option Addr) (len0 cap0 : Nat) (z0 : List Int) (a1 : ByteArray) (w : World) (w0 : (a0 = none ∧ len0 = 0 ∧ cap0 = 0 ∧ z0 = []) ∨ ∃ x, a0 = some x ∧ len0 ≤ cap0 ∧ cap0 ≤ maxLen ∧ z0.length = cap0 ∧ (∀ i, i < z0.length → w.cell? (x.add i) = some (.int .u32 (z0.getD i 0))) ∧ ∀ n ∈ z0, (Lit.int .u32 n).wf = true) (y0 : len0 * 4 ≤ 140737488351232) (w1 : a1.size ≤ 140737488351232) :
  Calls Try.prog 12 #[.slice a0 len0 cap0, .string a1] w fun e w' => e = .returned (.bool true) ∧ Below w.heap.size w w' := by
 obtain ⟨l0, rfl, hr0, hm0, hw0, hc0⟩ := ReadsInt.ofRowC w0
 obtain ⟨k, h⟩ := P l0 a1 hm0 y0 hw0 w1
 refine (garmentlaw01_NaturalReads.calls k _ _ l0 a1 true w (Kd.C_of_reads (d := (0 : Int)) (h1 := fun _ => rfl) hr0) hc0 h).mono ?_
 rintro e w' ⟨rfl, hd⟩
 exact ⟨rfl, hd⟩

end Go.Proofs.Ytkbnfdiglbpfmaa.P
