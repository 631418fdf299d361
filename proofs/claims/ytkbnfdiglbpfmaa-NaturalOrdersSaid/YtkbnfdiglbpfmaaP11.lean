-- By gp.py (ours) over the kit's print.py. Not trusted: Lean checks it.
import Derived.Test.YtkbnfdiglbpfmaaP0
import Derived.Test.YtkbnfdiglbpfmaaP1
import Derived.Test.YtkbnfdiglbpfmaaP5
import Derived.Test.YtkbnfdiglbpfmaaP6
import Derived.Test.YtkbnfdiglbpfmaaP7
import Derived.Test.YtkbnfdiglbpfmaaP8
import Derived.Test.YtkbnfdiglbpfmaaP10
namespace Go.Proofs.Ytkbnfdiglbpfmaa.P
open Go.RowKit Go.Proofs.YtkbnfdiglbpfmaaW.PrintWords Go.Proofs.YtkbnfdiglbpfmaaW.PrintLast Go.Proofs.YtkbnfdiglbpfmaaW.PrintMore
attribute [local go_sem] max2_int min2_int max_two min_two max_three min_three max_four min_four   -- for this text's walks alone
set_option linter.unusedVariables false
set_option linter.unusedSimpArgs false

/-! ### garmentlaw01_NaturalOrders: function 3 -/
def garmentlaw01_NaturalOrders.f (k : Nat) (a0 : Int) (l1 : List Int) (l2 : List Int) : Option (Bool) := (garmentlaw01_light.f l1 l2).bind fun t408 => (if t408 = true then ((natural_Of.f k a0).bind fun t410 => ((garmentref01_Of.f k a0).bind fun t413 => ((garmentref01_Same.f k t410 t413).bind fun t416 => (if t416 = true then ((natural_Norm.f k l1).bind fun t417 => ((garmentref01_Norm.f k l1).bind fun t420 => ((garmentref01_Same.f k t417 t420).bind fun t423 => (if t423 = true then ((natural_Cmp.f k l1 l2).bind fun t424 => ((garmentref01_Cmp.f k l1 l2).bind fun t425 => (if t424 = t425 then ((natural_Cmp.f k l2 l1).bind fun t426 => ((natural_Cmp.f k l1 l2).bind fun t427 => (if t426 = (wrap64 (-t427)) then ((garmentlaw01_alive.f k).bind fun t428 => (some t428)) else (none)))) else (none)))) else (none))))) else (none))))) else ((garmentlaw01_alive.f k).bind fun t409 => (some t409)))
theorem garmentlaw01_NaturalOrders.mono : ∀ a0 a1 a2 k, LeO (garmentlaw01_NaturalOrders.f k a0 a1 a2) (garmentlaw01_NaturalOrders.f (k + 1) a0 a1 a2) := by
 intro a0 a1 a2 k
 unfold garmentlaw01_NaturalOrders.f
 repeat' first
   | (with_reducible exact garmentlaw01_alive.mono _)
   | (with_reducible exact garmentref01_Cmp.mono _ _ _)
   | (with_reducible exact garmentref01_Norm.mono _ _)
   | (with_reducible exact garmentref01_Of.mono _ _)
   | (with_reducible exact garmentref01_Same.mono _ _ _)
   | (with_reducible exact natural_Cmp.mono _ _ _)
   | (with_reducible exact natural_Norm.mono _ _)
   | (with_reducible exact natural_Of.mono _ _)
   | (with_reducible exact LeO.refl _)
   | (with_reducible exact LeO.none _)
   | (with_reducible refine LeO.ite ?_ ?_)
   | (with_reducible refine LeO.bind ?_ (fun _ => ?_))
   | exact garmentlaw01_alive.mono _
   | exact garmentref01_Cmp.mono _ _ _
   | exact garmentref01_Norm.mono _ _
   | exact garmentref01_Of.mono _ _
   | exact garmentref01_Same.mono _ _ _
   | exact natural_Cmp.mono _ _ _
   | exact natural_Norm.mono _ _
   | exact natural_Of.mono _ _
   | exact LeO.none _
   | refine LeO.ite ?_ ?_
   | refine LeO.bind ?_ (fun _ => ?_)
set_option maxHeartbeats 8000000 in
set_option maxRecDepth 100000 in
theorem garmentlaw01_NaturalOrders.calls (k : Nat) (a0 : Int) (A1 : Option Addr) (c1 : Nat) (l1 : List Int) (A2 : Option Addr) (c2 : Nat) (l2 : List Int) (r : Bool) (w : World) (hr1 : Kd.C (Kd.int .u32) w A1 l1.length l1) (hc1 : l1.length ≤ c1) (hr2 : Kd.C (Kd.int .u32) w A2 l2.length l2) (hc2 : l2.length ≤ c2) (h : garmentlaw01_NaturalOrders.f k a0 l1 l2 = some r) :
  Calls Try.prog 3 #[.int .u64 a0, .slice A1 l1.length c1, .slice A2 l2.length c2] w fun e w' => e = .returned (.bool r) ∧ Below w.heap.size w w' := by
 have HR1 := Aside0.mk hr1
 have HC1 := Aside0.mk hc1
 clear hr1 hc1
 have HR2 := Aside0.mk hr2
 have HC2 := Aside0.mk hc2
 clear hr2 hc2
 have HB := Aside0.mk (Below.refl w.heap.size w)
 have H : ((garmentlaw01_light.f l1 l2).bind fun t408 => (if t408 = true then ((natural_Of.f k a0).bind fun t410 => ((garmentref01_Of.f k a0).bind fun t413 => ((garmentref01_Same.f k t410 t413).bind fun t416 => (if t416 = true then ((natural_Norm.f k l1).bind fun t417 => ((garmentref01_Norm.f k l1).bind fun t420 => ((garmentref01_Same.f k t417 t420).bind fun t423 => (if t423 = true then ((natural_Cmp.f k l1 l2).bind fun t424 => ((garmentref01_Cmp.f k l1 l2).bind fun t425 => (if t424 = t425 then ((natural_Cmp.f k l2 l1).bind fun t426 => ((natural_Cmp.f k l1 l2).bind fun t427 => (if t426 = (wrap64 (-t427)) then ((garmentlaw01_alive.f k).bind fun t428 => (some t428)) else (none)))) else (none)))) else (none))))) else (none))))) else ((garmentlaw01_alive.f k).bind fun t409 => (some t409)))) = some r := h
 clear h
 replace H := Option.bind_eq_some_iff.mp H
 obtain ⟨t408, A40, H⟩ := H
 replace H : (if t408 = true then ((natural_Of.f k a0).bind fun t410 => ((garmentref01_Of.f k a0).bind fun t413 => ((garmentref01_Same.f k t410 t413).bind fun t416 => (if t416 = true then ((natural_Norm.f k l1).bind fun t417 => ((garmentref01_Norm.f k l1).bind fun t420 => ((garmentref01_Same.f k t417 t420).bind fun t423 => (if t423 = true then ((natural_Cmp.f k l1 l2).bind fun t424 => ((garmentref01_Cmp.f k l1 l2).bind fun t425 => (if t424 = t425 then ((natural_Cmp.f k l2 l1).bind fun t426 => ((natural_Cmp.f k l1 l2).bind fun t427 => (if t426 = (wrap64 (-t427)) then ((garmentlaw01_alive.f k).bind fun t428 => (some t428)) else (none)))) else (none)))) else (none))))) else (none))))) else ((garmentlaw01_alive.f k).bind fun t409 => (some t409))) = some r := H
 have A4 := Aside0.mk A40
 clear A40
 by_cases c5 : t408 = true
 ·subst c5
  have H1 : ((natural_Of.f k a0).bind fun t410 => ((garmentref01_Of.f k a0).bind fun t413 => ((garmentref01_Same.f k t410 t413).bind fun t416 => (if t416 = true then ((natural_Norm.f k l1).bind fun t417 => ((garmentref01_Norm.f k l1).bind fun t420 => ((garmentref01_Same.f k t417 t420).bind fun t423 => (if t423 = true then ((natural_Cmp.f k l1 l2).bind fun t424 => ((garmentref01_Cmp.f k l1 l2).bind fun t425 => (if t424 = t425 then ((natural_Cmp.f k l2 l1).bind fun t426 => ((natural_Cmp.f k l1 l2).bind fun t427 => (if t426 = (wrap64 (-t427)) then ((garmentlaw01_alive.f k).bind fun t428 => (some t428)) else (none)))) else (none)))) else (none))))) else (none))))) = some r := by rw [if_pos rfl] at H; exact H
  clear H
  have H := H1
  clear H1
  replace H := Option.bind_eq_some_iff.mp H
  obtain ⟨t410, A60, H⟩ := H
  replace H : ((garmentref01_Of.f k a0).bind fun t413 => ((garmentref01_Same.f k t410 t413).bind fun t416 => (if t416 = true then ((natural_Norm.f k l1).bind fun t417 => ((garmentref01_Norm.f k l1).bind fun t420 => ((garmentref01_Same.f k t417 t420).bind fun t423 => (if t423 = true then ((natural_Cmp.f k l1 l2).bind fun t424 => ((garmentref01_Cmp.f k l1 l2).bind fun t425 => (if t424 = t425 then ((natural_Cmp.f k l2 l1).bind fun t426 => ((natural_Cmp.f k l1 l2).bind fun t427 => (if t426 = (wrap64 (-t427)) then ((garmentlaw01_alive.f k).bind fun t428 => (some t428)) else (none)))) else (none)))) else (none))))) else (none)))) = some r := H
  have A6 := Aside0.mk A60
  clear A60
  replace H := Option.bind_eq_some_iff.mp H
  obtain ⟨t413, A70, H⟩ := H
  replace H : ((garmentref01_Same.f k t410 t413).bind fun t416 => (if t416 = true then ((natural_Norm.f k l1).bind fun t417 => ((garmentref01_Norm.f k l1).bind fun t420 => ((garmentref01_Same.f k t417 t420).bind fun t423 => (if t423 = true then ((natural_Cmp.f k l1 l2).bind fun t424 => ((garmentref01_Cmp.f k l1 l2).bind fun t425 => (if t424 = t425 then ((natural_Cmp.f k l2 l1).bind fun t426 => ((natural_Cmp.f k l1 l2).bind fun t427 => (if t426 = (wrap64 (-t427)) then ((garmentlaw01_alive.f k).bind fun t428 => (some t428)) else (none)))) else (none)))) else (none))))) else (none))) = some r := H
  have A7 := Aside0.mk A70
  clear A70
  replace H := Option.bind_eq_some_iff.mp H
  obtain ⟨t416, A80, H⟩ := H
  replace H : (if t416 = true then ((natural_Norm.f k l1).bind fun t417 => ((garmentref01_Norm.f k l1).bind fun t420 => ((garmentref01_Same.f k t417 t420).bind fun t423 => (if t423 = true then ((natural_Cmp.f k l1 l2).bind fun t424 => ((garmentref01_Cmp.f k l1 l2).bind fun t425 => (if t424 = t425 then ((natural_Cmp.f k l2 l1).bind fun t426 => ((natural_Cmp.f k l1 l2).bind fun t427 => (if t426 = (wrap64 (-t427)) then ((garmentlaw01_alive.f k).bind fun t428 => (some t428)) else (none)))) else (none)))) else (none))))) else (none)) = some r := H
  have A8 := Aside0.mk A80
  clear A80
  by_cases c9 : t416 = true
  ·subst c9
   have H1 : ((natural_Norm.f k l1).bind fun t417 => ((garmentref01_Norm.f k l1).bind fun t420 => ((garmentref01_Same.f k t417 t420).bind fun t423 => (if t423 = true then ((natural_Cmp.f k l1 l2).bind fun t424 => ((garmentref01_Cmp.f k l1 l2).bind fun t425 => (if t424 = t425 then ((natural_Cmp.f k l2 l1).bind fun t426 => ((natural_Cmp.f k l1 l2).bind fun t427 => (if t426 = (wrap64 (-t427)) then ((garmentlaw01_alive.f k).bind fun t428 => (some t428)) else (none)))) else (none)))) else (none))))) = some r := by rw [if_pos rfl] at H; exact H
   clear H
   have H := H1
   clear H1
   replace H := Option.bind_eq_some_iff.mp H
   obtain ⟨t417, A100, H⟩ := H
   replace H : ((garmentref01_Norm.f k l1).bind fun t420 => ((garmentref01_Same.f k t417 t420).bind fun t423 => (if t423 = true then ((natural_Cmp.f k l1 l2).bind fun t424 => ((garmentref01_Cmp.f k l1 l2).bind fun t425 => (if t424 = t425 then ((natural_Cmp.f k l2 l1).bind fun t426 => ((natural_Cmp.f k l1 l2).bind fun t427 => (if t426 = (wrap64 (-t427)) then ((garmentlaw01_alive.f k).bind fun t428 => (some t428)) else (none)))) else (none)))) else (none)))) = some r := H
   have A10 := Aside0.mk A100
   clear A100
   replace H := Option.bind_eq_some_iff.mp H
   obtain ⟨t420, A110, H⟩ := H
   replace H : ((garmentref01_Same.f k t417 t420).bind fun t423 => (if t423 = true then ((natural_Cmp.f k l1 l2).bind fun t424 => ((garmentref01_Cmp.f k l1 l2).bind fun t425 => (if t424 = t425 then ((natural_Cmp.f k l2 l1).bind fun t426 => ((natural_Cmp.f k l1 l2).bind fun t427 => (if t426 = (wrap64 (-t427)) then ((garmentlaw01_alive.f k).bind fun t428 => (some t428)) else (none)))) else (none)))) else (none))) = some r := H
   have A11 := Aside0.mk A110
   clear A110
   replace H := Option.bind_eq_some_iff.mp H
   obtain ⟨t423, A120, H⟩ := H
   replace H : (if t423 = true then ((natural_Cmp.f k l1 l2).bind fun t424 => ((garmentref01_Cmp.f k l1 l2).bind fun t425 => (if t424 = t425 then ((natural_Cmp.f k l2 l1).bind fun t426 => ((natural_Cmp.f k l1 l2).bind fun t427 => (if t426 = (wrap64 (-t427)) then ((garmentlaw01_alive.f k).bind fun t428 => (some t428)) else (none)))) else (none)))) else (none)) = some r := H
   have A12 := Aside0.mk A120
   clear A120
   by_cases c13 : t423 = true
   ·subst c13
    have H1 : ((natural_Cmp.f k l1 l2).bind fun t424 => ((garmentref01_Cmp.f k l1 l2).bind fun t425 => (if t424 = t425 then ((natural_Cmp.f k l2 l1).bind fun t426 => ((natural_Cmp.f k l1 l2).bind fun t427 => (if t426 = (wrap64 (-t427)) then ((garmentlaw01_alive.f k).bind fun t428 => (some t428)) else (none)))) else (none)))) = some r := by rw [if_pos rfl] at H; exact H
    clear H
    have H := H1
    clear H1
    replace H := Option.bind_eq_some_iff.mp H
    obtain ⟨t424, A140, H⟩ := H
    replace H : ((garmentref01_Cmp.f k l1 l2).bind fun t425 => (if t424 = t425 then ((natural_Cmp.f k l2 l1).bind fun t426 => ((natural_Cmp.f k l1 l2).bind fun t427 => (if t426 = (wrap64 (-t427)) then ((garmentlaw01_alive.f k).bind fun t428 => (some t428)) else (none)))) else (none))) = some r := H
    have A14 := Aside0.mk A140
    clear A140
    replace H := Option.bind_eq_some_iff.mp H
    obtain ⟨t425, A150, H⟩ := H
    replace H : (if t424 = t425 then ((natural_Cmp.f k l2 l1).bind fun t426 => ((natural_Cmp.f k l1 l2).bind fun t427 => (if t426 = (wrap64 (-t427)) then ((garmentlaw01_alive.f k).bind fun t428 => (some t428)) else (none)))) else (none)) = some r := H
    have A15 := Aside0.mk A150
    clear A150
    by_cases c16 : t424 = t425
    ·rw [if_pos c16] at H
     have c16b0 : (t424 == t425) = true := beq_iff_eq.mpr c16
     have c16b1 : (t424 != t425) = false := bne_eq_false_iff_eq.mpr c16
     clear c16
     replace H := Option.bind_eq_some_iff.mp H
     obtain ⟨t426, A170, H⟩ := H
     replace H : ((natural_Cmp.f k l1 l2).bind fun t427 => (if t426 = (wrap64 (-t427)) then ((garmentlaw01_alive.f k).bind fun t428 => (some t428)) else (none))) = some r := H
     have A17 := Aside0.mk A170
     clear A170
     replace H := Option.bind_eq_some_iff.mp H
     obtain ⟨t427, A180, H⟩ := H
     obtain rfl := Option.some.inj (A14.out.symm.trans A180)
     replace H : (if t426 = (wrap64 (-t424)) then ((garmentlaw01_alive.f k).bind fun t428 => (some t428)) else (none)) = some r := H
     have A18 := Aside0.mk A180
     clear A180
     by_cases c19 : t426 = (wrap64 (-t424))
     ·rw [if_pos c19] at H
      have c19b0 : (t426 == (wrap64 (-t424))) = true := beq_iff_eq.mpr c19
      have c19b1 : (t426 != (wrap64 (-t424))) = false := bne_eq_false_iff_eq.mpr c19
      clear c19
      replace H := Option.bind_eq_some_iff.mp H
      obtain ⟨t428, A200, H⟩ := H
      replace H : (some t428) = some r := H
      have A20 := Aside0.mk A200
      clear A200
      obtain rfl := Option.some.inj H
      go_enter Try.func3, Try.ntmps3
      go_wp2_with (first | ((with_reducible refine gate_callee (f := 13) rfl ?_); refine goesL_ (some 9) rfl rfl Try.func13 (by kernel_rfl) rfl #[.slice A1 l1.length c1, .slice A2 l2.length c2] rfl (by (try simp only [List.map_toArray, List.map_cons, List.map_nil]); first | done | rfl | (simp only [List.length_drop, List.length_take]; rfl)) ?_; (with_reducible refine (garmentlaw01_light.calls _ _ l1 _ _ l2 true _ ?side1 ?side2 ?side3 ?side4 A4.out).mono ?_); (case side1 => repeat (first | exact HR1.out | (with_reducible refine Kd.C_alloc ?_ _) | (with_reducible refine Kd.C_drewN ?_ _) | (with_reducible refine Kd.C_drew ?_))); (case side2 => exact HC1.out); (case side3 => repeat (first | exact HR2.out | (with_reducible refine Kd.C_alloc ?_ _) | (with_reducible refine Kd.C_drewN ?_ _) | (with_reducible refine Kd.C_drew ?_))); (case side4 => exact HC2.out); rintro e w' ⟨rfl, ⟨nd, rfl⟩⟩; refine ⟨_, rfl, ?_⟩) | ((with_reducible refine gate_callee (f := 16) rfl ?_); refine goesL_ (some 13) rfl rfl Try.func16 (by kernel_rfl) rfl #[.int .u64 a0] rfl (by (try simp only [List.map_toArray, List.map_cons, List.map_nil]); first | done | rfl | (simp only [List.length_drop, List.length_take]; rfl)) ?_; (with_reducible refine (natural_Of.calls k a0 t410 _ A6.out).mono ?_); rintro e w21 ⟨v411, rfl, ho0, hb⟩; refine ⟨_, rfl, ?_⟩; have n0_ := Aside0.mk (Kd.R_lower ho0 (below_size (by repeat (first | (with_reducible first | exact HB.out | apply below_alloc | apply pw_below_drewN | apply below_drew1) | exact HB.out)))); have n1_ := Aside0.mk (below_step (by repeat (first | (with_reducible first | exact HB.out | apply below_alloc | apply pw_below_drewN | apply below_drew1) | exact HB.out)) hb); clear HB; have HO412 := n0_; have HB := n1_; clear n0_ n1_; (try clear hb); (try clear hb2); (try clear hk); (try clear hi); (try clear ho0)) | ((with_reducible refine gate_callee (f := 17) rfl ?_); refine goesL_ (some 15) rfl rfl Try.func17 (by kernel_rfl) rfl #[.int .u64 a0] rfl (by (try simp only [List.map_toArray, List.map_cons, List.map_nil]); first | done | rfl | (simp only [List.length_drop, List.length_take]; rfl)) ?_; (with_reducible refine (garmentref01_Of.calls k a0 t413 _ A7.out).mono ?_); rintro e w22 ⟨v414, rfl, ho0, hb⟩; refine ⟨_, rfl, ?_⟩; have n0_ := Aside0.mk (Kd.R_elder' (by (with_reducible repeat (first | apply Kd.R_alloc | apply Kd.R_drewN | apply Kd.R_drew)); exact HO412.out) (Kd.R_base ho0) hb); have n1_ := Aside0.mk (Kd.R_lower (Kd.R_new' ho0 (Kd.R_lt (by (with_reducible repeat (first | apply Kd.R_alloc | apply Kd.R_drewN | apply Kd.R_drew)); exact HO412.out))) (below_size (by repeat (first | (with_reducible first | exact HB.out | apply below_alloc | apply pw_below_drewN | apply below_drew1) | exact HB.out)))); have n2_ := Aside0.mk (below_step (by repeat (first | (with_reducible first | exact HB.out | apply below_alloc | apply pw_below_drewN | apply below_drew1) | exact HB.out)) hb); clear HO412; clear HB; have HO412 := n0_; have HO415 := n1_; have HB := n2_; clear n0_ n1_ n2_; (try clear hb); (try clear hb2); (try clear hk); (try clear hi); (try clear ho0); obtain ⟨Ao23, co23, eo23⟩ := Kd.R_slice HO412.out; subst eo23; obtain ⟨Ao24, co24, eo24⟩ := Kd.R_slice HO415.out; subst eo24) | ((with_reducible refine gate_callee (f := 15) rfl ?_); refine goesL_ (some 16) rfl rfl Try.func15 (by kernel_rfl) rfl #[.slice Ao23 t410.length co23, .slice Ao24 t413.length co24] rfl (by (try simp only [List.map_toArray, List.map_cons, List.map_nil]); first | done | rfl | (simp only [List.length_drop, List.length_take]; rfl)) ?_; (with_reducible refine (garmentref01_Same.calls k _ _ t410 _ _ t413 true _ ?side1 ?side2 ?side3 ?side4 A8.out).mono ?_); (case side1 => repeat (first | exact (Kd.R_reads' HO412.out).2.2 | (with_reducible refine Kd.C_alloc ?_ _) | (with_reducible refine Kd.C_drewN ?_ _) | (with_reducible refine Kd.C_drew ?_))); (case side2 => exact (Kd.R_reads' HO412.out).2.1); (case side3 => repeat (first | exact (Kd.R_reads' HO415.out).2.2 | (with_reducible refine Kd.C_alloc ?_ _) | (with_reducible refine Kd.C_drewN ?_ _) | (with_reducible refine Kd.C_drew ?_))); (case side4 => exact (Kd.R_reads' HO415.out).2.1); rintro e w' ⟨rfl, ⟨nd, rfl⟩⟩; refine ⟨_, rfl, ?_⟩) | (go_at_call 18; (with_reducible refine (natural_Norm.calls k _ _ l1 t417 _ ?side1 ?side2 A10.out).mono ?_); (case side1 => repeat (first | exact (Kd.C_below HR1.out (by repeat (first | (with_reducible first | exact HB.out | apply below_alloc | apply pw_below_drewN | apply below_drew1) | exact HB.out))) | (with_reducible refine Kd.C_alloc ?_ _) | (with_reducible refine Kd.C_drewN ?_ _) | (with_reducible refine Kd.C_drew ?_))); (case side2 => exact HC1.out); rintro e w25 ⟨v418, rfl, ho0, hb⟩; have n0_ := Aside0.mk (Kd.R_elder' (by (with_reducible repeat (first | apply Kd.R_alloc | apply Kd.R_drewN | apply Kd.R_drew)); exact HO412.out) (Kd.R_base ho0) hb); have n1_ := Aside0.mk (Kd.R_elder' (by (with_reducible repeat (first | apply Kd.R_alloc | apply Kd.R_drewN | apply Kd.R_drew)); exact HO415.out) (Kd.R_base ho0) hb); have n2_ := Aside0.mk (Kd.R_lower (Kd.R_new' (Kd.R_new' ho0 (Kd.R_lt (by (with_reducible repeat (first | apply Kd.R_alloc | apply Kd.R_drewN | apply Kd.R_drew)); exact HO412.out))) (Kd.R_lt (by (with_reducible repeat (first | apply Kd.R_alloc | apply Kd.R_drewN | apply Kd.R_drew)); exact HO415.out))) (below_size (by repeat (first | (with_reducible first | exact HB.out | apply below_alloc | apply pw_below_drewN | apply below_drew1) | exact HB.out)))); have n3_ := Aside0.mk (below_step (by repeat (first | (with_reducible first | exact HB.out | apply below_alloc | apply pw_below_drewN | apply below_drew1) | exact HB.out)) hb); clear HO412; clear HO415; clear HB; have HO412 := n0_; have HO415 := n1_; have HO419 := n2_; have HB := n3_; clear n0_ n1_ n2_ n3_; (try clear hb); (try clear hb2); (try clear hk); (try clear hi); (try clear ho0)) | (go_at_call 19; (with_reducible refine (garmentref01_Norm.calls k _ _ l1 t420 _ ?side1 ?side2 A11.out).mono ?_); (case side1 => repeat (first | exact (Kd.C_below HR1.out HB.out) | (with_reducible refine Kd.C_alloc ?_ _) | (with_reducible refine Kd.C_drewN ?_ _) | (with_reducible refine Kd.C_drew ?_))); (case side2 => exact HC1.out); rintro e w26 ⟨v421, rfl, ho0, hb⟩; have n0_ := Aside0.mk (Kd.R_elder' (by (with_reducible repeat (first | apply Kd.R_alloc | apply Kd.R_drewN | apply Kd.R_drew)); exact HO412.out) (Kd.R_base ho0) hb); have n1_ := Aside0.mk (Kd.R_elder' (by (with_reducible repeat (first | apply Kd.R_alloc | apply Kd.R_drewN | apply Kd.R_drew)); exact HO415.out) (Kd.R_base ho0) hb); have n2_ := Aside0.mk (Kd.R_elder' (by (with_reducible repeat (first | apply Kd.R_alloc | apply Kd.R_drewN | apply Kd.R_drew)); exact HO419.out) (Kd.R_base ho0) hb); have n3_ := Aside0.mk (Kd.R_lower (Kd.R_new' (Kd.R_new' (Kd.R_new' ho0 (Kd.R_lt (by (with_reducible repeat (first | apply Kd.R_alloc | apply Kd.R_drewN | apply Kd.R_drew)); exact HO412.out))) (Kd.R_lt (by (with_reducible repeat (first | apply Kd.R_alloc | apply Kd.R_drewN | apply Kd.R_drew)); exact HO415.out))) (Kd.R_lt (by (with_reducible repeat (first | apply Kd.R_alloc | apply Kd.R_drewN | apply Kd.R_drew)); exact HO419.out))) (below_size (by repeat (first | (with_reducible first | exact HB.out | apply below_alloc | apply pw_below_drewN | apply below_drew1) | exact HB.out)))); have n4_ := Aside0.mk (below_step (by repeat (first | (with_reducible first | exact HB.out | apply below_alloc | apply pw_below_drewN | apply below_drew1) | exact HB.out)) hb); clear HO412; clear HO415; clear HO419; clear HB; have HO412 := n0_; have HO415 := n1_; have HO419 := n2_; have HO422 := n3_; have HB := n4_; clear n0_ n1_ n2_ n3_ n4_; (try clear hb); (try clear hb2); (try clear hk); (try clear hi); (try clear ho0); obtain ⟨Ao27, co27, eo27⟩ := Kd.R_slice HO419.out; subst eo27; obtain ⟨Ao28, co28, eo28⟩ := Kd.R_slice HO422.out; subst eo28) | (go_at_call 15; (with_reducible refine (garmentref01_Same.calls k _ _ t417 _ _ t420 true _ ?side1 ?side2 ?side3 ?side4 A12.out).mono ?_); (case side1 => repeat (first | exact (Kd.R_reads' HO419.out).2.2 | (with_reducible refine Kd.C_alloc ?_ _) | (with_reducible refine Kd.C_drewN ?_ _) | (with_reducible refine Kd.C_drew ?_))); (case side2 => exact (Kd.R_reads' HO419.out).2.1); (case side3 => repeat (first | exact (Kd.R_reads' HO422.out).2.2 | (with_reducible refine Kd.C_alloc ?_ _) | (with_reducible refine Kd.C_drewN ?_ _) | (with_reducible refine Kd.C_drew ?_))); (case side4 => exact (Kd.R_reads' HO422.out).2.1); rintro e w' ⟨rfl, ⟨nd, rfl⟩⟩) | (go_at_call 20; (with_reducible refine (natural_Cmp.calls k _ _ l1 _ _ l2 t424 _ ?side1 ?side2 ?side3 ?side4 A14.out).mono ?_); (case side1 => repeat (first | exact (Kd.C_below HR1.out (by repeat (first | (with_reducible first | exact HB.out | apply below_alloc | apply pw_below_drewN | apply below_drew1) | exact HB.out))) | (with_reducible refine Kd.C_alloc ?_ _) | (with_reducible refine Kd.C_drewN ?_ _) | (with_reducible refine Kd.C_drew ?_))); (case side2 => exact HC1.out); (case side3 => repeat (first | exact (Kd.C_below HR2.out (by repeat (first | (with_reducible first | exact HB.out | apply below_alloc | apply pw_below_drewN | apply below_drew1) | exact HB.out))) | (with_reducible refine Kd.C_alloc ?_ _) | (with_reducible refine Kd.C_drewN ?_ _) | (with_reducible refine Kd.C_drew ?_))); (case side4 => exact HC2.out); rintro e w29 ⟨rfl, hb⟩; have n0_ := Aside0.mk (Kd.R_below (by (with_reducible repeat (first | apply Kd.R_alloc | apply Kd.R_drewN | apply Kd.R_drew)); exact HO412.out) hb); have n1_ := Aside0.mk (Kd.R_below (by (with_reducible repeat (first | apply Kd.R_alloc | apply Kd.R_drewN | apply Kd.R_drew)); exact HO415.out) hb); have n2_ := Aside0.mk (Kd.R_below (by (with_reducible repeat (first | apply Kd.R_alloc | apply Kd.R_drewN | apply Kd.R_drew)); exact HO419.out) hb); have n3_ := Aside0.mk (Kd.R_below (by (with_reducible repeat (first | apply Kd.R_alloc | apply Kd.R_drewN | apply Kd.R_drew)); exact HO422.out) hb); have n4_ := Aside0.mk (below_step (by repeat (first | (with_reducible first | exact HB.out | apply below_alloc | apply pw_below_drewN | apply below_drew1) | exact HB.out)) hb); clear HO412; clear HO415; clear HO419; clear HO422; clear HB; have HO412 := n0_; have HO415 := n1_; have HO419 := n2_; have HO422 := n3_; have HB := n4_; clear n0_ n1_ n2_ n3_ n4_; (try clear hb); (try clear hb2); (try clear hk); (try clear hi)) | (go_at_call 21; (with_reducible refine (garmentref01_Cmp.calls k _ _ l1 _ _ l2 t425 _ ?side1 ?side2 ?side3 ?side4 A15.out).mono ?_); (case side1 => repeat (first | exact (Kd.C_below HR1.out HB.out) | (with_reducible refine Kd.C_alloc ?_ _) | (with_reducible refine Kd.C_drewN ?_ _) | (with_reducible refine Kd.C_drew ?_))); (case side2 => exact HC1.out); (case side3 => repeat (first | exact (Kd.C_below HR2.out HB.out) | (with_reducible refine Kd.C_alloc ?_ _) | (with_reducible refine Kd.C_drewN ?_ _) | (with_reducible refine Kd.C_drew ?_))); (case side4 => exact HC2.out); rintro e w30 ⟨rfl, hb⟩; have n0_ := Aside0.mk (Kd.R_below (by (with_reducible repeat (first | apply Kd.R_alloc | apply Kd.R_drewN | apply Kd.R_drew)); exact HO412.out) hb); have n1_ := Aside0.mk (Kd.R_below (by (with_reducible repeat (first | apply Kd.R_alloc | apply Kd.R_drewN | apply Kd.R_drew)); exact HO415.out) hb); have n2_ := Aside0.mk (Kd.R_below (by (with_reducible repeat (first | apply Kd.R_alloc | apply Kd.R_drewN | apply Kd.R_drew)); exact HO419.out) hb); have n3_ := Aside0.mk (Kd.R_below (by (with_reducible repeat (first | apply Kd.R_alloc | apply Kd.R_drewN | apply Kd.R_drew)); exact HO422.out) hb); have n4_ := Aside0.mk (below_step (by repeat (first | (with_reducible first | exact HB.out | apply below_alloc | apply pw_below_drewN | apply below_drew1) | exact HB.out)) hb); clear HO412; clear HO415; clear HO419; clear HO422; clear HB; have HO412 := n0_; have HO415 := n1_; have HO419 := n2_; have HO422 := n3_; have HB := n4_; clear n0_ n1_ n2_ n3_ n4_; (try clear hb); (try clear hb2); (try clear hk); (try clear hi)) | (go_at_call 20; (with_reducible refine (natural_Cmp.calls k _ _ l2 _ _ l1 t426 _ ?side1 ?side2 ?side3 ?side4 A17.out).mono ?_); (case side1 => repeat (first | exact (Kd.C_below HR2.out HB.out) | (with_reducible refine Kd.C_alloc ?_ _) | (with_reducible refine Kd.C_drewN ?_ _) | (with_reducible refine Kd.C_drew ?_))); (case side2 => exact HC2.out); (case side3 => repeat (first | exact (Kd.C_below HR1.out HB.out) | (with_reducible refine Kd.C_alloc ?_ _) | (with_reducible refine Kd.C_drewN ?_ _) | (with_reducible refine Kd.C_drew ?_))); (case side4 => exact HC1.out); rintro e w31 ⟨rfl, hb⟩; have n0_ := Aside0.mk (Kd.R_below (by (with_reducible repeat (first | apply Kd.R_alloc | apply Kd.R_drewN | apply Kd.R_drew)); exact HO412.out) hb); have n1_ := Aside0.mk (Kd.R_below (by (with_reducible repeat (first | apply Kd.R_alloc | apply Kd.R_drewN | apply Kd.R_drew)); exact HO415.out) hb); have n2_ := Aside0.mk (Kd.R_below (by (with_reducible repeat (first | apply Kd.R_alloc | apply Kd.R_drewN | apply Kd.R_drew)); exact HO419.out) hb); have n3_ := Aside0.mk (Kd.R_below (by (with_reducible repeat (first | apply Kd.R_alloc | apply Kd.R_drewN | apply Kd.R_drew)); exact HO422.out) hb); have n4_ := Aside0.mk (below_step (by repeat (first | (with_reducible first | exact HB.out | apply below_alloc | apply pw_below_drewN | apply below_drew1) | exact HB.out)) hb); clear HO412; clear HO415; clear HO419; clear HO422; clear HB; have HO412 := n0_; have HO415 := n1_; have HO419 := n2_; have HO422 := n3_; have HB := n4_; clear n0_ n1_ n2_ n3_ n4_; (try clear hb); (try clear hb2); (try clear hk); (try clear hi)) | (go_at_call 20; (with_reducible refine (natural_Cmp.calls k _ _ l1 _ _ l2 t424 _ ?side1 ?side2 ?side3 ?side4 A18.out).mono ?_); (case side1 => repeat (first | exact (Kd.C_below HR1.out HB.out) | (with_reducible refine Kd.C_alloc ?_ _) | (with_reducible refine Kd.C_drewN ?_ _) | (with_reducible refine Kd.C_drew ?_))); (case side2 => exact HC1.out); (case side3 => repeat (first | exact (Kd.C_below HR2.out HB.out) | (with_reducible refine Kd.C_alloc ?_ _) | (with_reducible refine Kd.C_drewN ?_ _) | (with_reducible refine Kd.C_drew ?_))); (case side4 => exact HC2.out); rintro e w32 ⟨rfl, hb⟩; have n0_ := Aside0.mk (Kd.R_below (by (with_reducible repeat (first | apply Kd.R_alloc | apply Kd.R_drewN | apply Kd.R_drew)); exact HO412.out) hb); have n1_ := Aside0.mk (Kd.R_below (by (with_reducible repeat (first | apply Kd.R_alloc | apply Kd.R_drewN | apply Kd.R_drew)); exact HO415.out) hb); have n2_ := Aside0.mk (Kd.R_below (by (with_reducible repeat (first | apply Kd.R_alloc | apply Kd.R_drewN | apply Kd.R_drew)); exact HO419.out) hb); have n3_ := Aside0.mk (Kd.R_below (by (with_reducible repeat (first | apply Kd.R_alloc | apply Kd.R_drewN | apply Kd.R_drew)); exact HO422.out) hb); have n4_ := Aside0.mk (below_step (by repeat (first | (with_reducible first | exact HB.out | apply below_alloc | apply pw_below_drewN | apply below_drew1) | exact HB.out)) hb); clear HO412; clear HO415; clear HO419; clear HO422; clear HB; have HO412 := n0_; have HO415 := n1_; have HO419 := n2_; have HO422 := n3_; have HB := n4_; clear n0_ n1_ n2_ n3_ n4_; (try clear hb); (try clear hb2); (try clear hk); (try clear hi)) | (go_at_call 14; (with_reducible refine (garmentlaw01_alive.calls k  t428 _ A20.out).mono ?_); rintro e w33 ⟨rfl, hb⟩; have n0_ := Aside0.mk (Kd.R_below (by (with_reducible repeat (first | apply Kd.R_alloc | apply Kd.R_drewN | apply Kd.R_drew)); exact HO412.out) hb); have n1_ := Aside0.mk (Kd.R_below (by (with_reducible repeat (first | apply Kd.R_alloc | apply Kd.R_drewN | apply Kd.R_drew)); exact HO415.out) hb); have n2_ := Aside0.mk (Kd.R_below (by (with_reducible repeat (first | apply Kd.R_alloc | apply Kd.R_drewN | apply Kd.R_drew)); exact HO419.out) hb); have n3_ := Aside0.mk (Kd.R_below (by (with_reducible repeat (first | apply Kd.R_alloc | apply Kd.R_drewN | apply Kd.R_drew)); exact HO422.out) hb); have n4_ := Aside0.mk (below_step (by repeat (first | (with_reducible first | exact HB.out | apply below_alloc | apply pw_below_drewN | apply below_drew1) | exact HB.out)) hb); clear HO412; clear HO415; clear HO419; clear HO422; clear HB; have HO412 := n0_; have HO415 := n1_; have HO419 := n2_; have HO422 := n3_; have HB := n4_; clear n0_ n1_ n2_ n3_ n4_; (try clear hb); (try clear hb2); (try clear hk); (try clear hi)))
      go_ret
      exact ⟨by first | rfl | (simp [errW_none, errW_some] <;> rfl) | (simp [*, errW_none, errW_some] <;> rfl), by repeat (first | (with_reducible first | exact HB.out | apply below_alloc | apply pw_below_drewN | apply below_drew1) | exact HB.out)⟩
     ·rw [if_neg c19] at H
      exact absurd H (by simp)
    ·rw [if_neg c16] at H
     exact absurd H (by simp)
   ·replace c13 := Bool.eq_false_iff.mpr c13
    subst c13
    have H1 : (none) = some r := by rw [if_neg (show ¬ (false = true) by decide)] at H; exact H
    clear H
    have H := H1
    clear H1
    exact absurd H (by simp)
  ·replace c9 := Bool.eq_false_iff.mpr c9
   subst c9
   have H1 : (none) = some r := by rw [if_neg (show ¬ (false = true) by decide)] at H; exact H
   clear H
   have H := H1
   clear H1
   exact absurd H (by simp)
 ·replace c5 := Bool.eq_false_iff.mpr c5
  subst c5
  have H1 : ((garmentlaw01_alive.f k).bind fun t409 => (some t409)) = some r := by rw [if_neg (show ¬ (false = true) by decide)] at H; exact H
  clear H
  have H := H1
  clear H1
  replace H := Option.bind_eq_some_iff.mp H
  obtain ⟨t409, A340, H⟩ := H
  replace H : (some t409) = some r := H
  have A34 := Aside0.mk A340
  clear A340
  obtain rfl := Option.some.inj H
  go_enter Try.func3, Try.ntmps3
  go_wp2_with (first | ((with_reducible refine gate_callee (f := 13) rfl ?_); refine goesL_ (some 9) rfl rfl Try.func13 (by kernel_rfl) rfl #[.slice A1 l1.length c1, .slice A2 l2.length c2] rfl (by (try simp only [List.map_toArray, List.map_cons, List.map_nil]); first | done | rfl | (simp only [List.length_drop, List.length_take]; rfl)) ?_; (with_reducible refine (garmentlaw01_light.calls _ _ l1 _ _ l2 false _ ?side1 ?side2 ?side3 ?side4 A4.out).mono ?_); (case side1 => repeat (first | exact HR1.out | (with_reducible refine Kd.C_alloc ?_ _) | (with_reducible refine Kd.C_drewN ?_ _) | (with_reducible refine Kd.C_drew ?_))); (case side2 => exact HC1.out); (case side3 => repeat (first | exact HR2.out | (with_reducible refine Kd.C_alloc ?_ _) | (with_reducible refine Kd.C_drewN ?_ _) | (with_reducible refine Kd.C_drew ?_))); (case side4 => exact HC2.out); rintro e w' ⟨rfl, ⟨nd, rfl⟩⟩; refine ⟨_, rfl, ?_⟩) | ((with_reducible refine gate_callee (f := 14) rfl ?_); refine goesL_ (some 11) rfl rfl Try.func14 (by kernel_rfl) rfl #[] rfl (by (try simp only [List.map_toArray, List.map_cons, List.map_nil]); first | done | rfl | (simp only [List.length_drop, List.length_take]; rfl)) ?_; (with_reducible refine (garmentlaw01_alive.calls k  t409 _ A34.out).mono ?_); rintro e w35 ⟨rfl, hb⟩; refine ⟨_, rfl, ?_⟩; have n0_ := Aside0.mk (below_step (by repeat (first | (with_reducible first | exact HB.out | apply below_alloc | apply pw_below_drewN | apply below_drew1) | exact HB.out)) hb); clear HB; have HB := n0_; clear n0_; (try clear hb); (try clear hb2); (try clear hk); (try clear hi)))
  go_ret
  exact ⟨by first | rfl | (simp [errW_none, errW_some] <;> rfl) | (simp [*, errW_none, errW_some] <;> rfl), by repeat (first | (with_reducible first | exact HB.out | apply below_alloc | apply pw_below_drewN | apply below_drew1) | exact HB.out)⟩

/-- THE ONE PURE STATEMENT of garmentlaw01_NaturalOrders: yours. -/
def garmentlaw01_NaturalOrders.Pure : Prop := ∀ (a0 : Int) (l1 : List Int) (l2 : List Int), (Lit.int .u64 a0).wf = true → l1.length ≤ maxLen → l1.length * 4 ≤ 140737488351232 → (∀ x ∈ l1, (Lit.int .u32 x).wf = true) → l2.length ≤ maxLen → l2.length * 4 ≤ 140737488351232 → (∀ x ∈ l2, (Lit.int .u32 x).wf = true) → ∃ k, garmentlaw01_NaturalOrders.f k a0 l1 l2 = some true
theorem garmentlaw01_NaturalOrders.walk (P : garmentlaw01_NaturalOrders.Pure) (a0 : Int) (a1 : Option Addr) (len1 cap1 : Nat) (z1 : List Int) (a2 : Option Addr) (len2 cap2 : Nat) (z2 : List Int) (w : World) (w0 : (Lit.int .u64 a0).wf = true) (w1 : (a1 = none ∧ len1 = 0 ∧ cap1 = 0 ∧ z1 = []) ∨ ∃ x, a1 = some x ∧ len1 ≤ cap1 ∧ cap1 ≤ maxLen ∧ z1.length = cap1 ∧ (∀ i, i < z1.length → w.cell? (x.add i) = some (.int .u32 (z1.getD i 0))) ∧ ∀ n ∈ z1, (Lit.int .u32 n).wf = true) (y1 : len1 * 4 ≤ 140737488351232) (w2 : (a2 = none ∧ len2 = 0 ∧ cap2 = 0 ∧ z2 = []) ∨ ∃ x, a2 = some x ∧ len2 ≤ cap2 ∧ cap2 ≤ maxLen ∧ z2.length = cap2 ∧ (∀ i, i < z2.length → w.cell? (x.add i) = some (.int .u32 (z2.getD i 0))) ∧ ∀ n ∈ z2, (Lit.int .u32 n).wf = true) (y2 : len2 * 4 ≤ 140737488351232) :
  Calls Try.prog 3 #[.int .u64 a0, .slice a1 len1 cap1, .slice a2 len2 cap2] w fun e w' => e = .returned (.bool true) ∧ Below w.heap.size w w' := by
 obtain ⟨l1, rfl, hr1, hm1, hw1, hc1⟩ := ReadsInt.ofRowC w1
 obtain ⟨l2, rfl, hr2, hm2, hw2, hc2⟩ := ReadsInt.ofRowC w2
 obtain ⟨k, h⟩ := P a0 l1 l2 w0 hm1 y1 hw1 hm2 y2 hw2
 refine (garmentlaw01_NaturalOrders.calls k a0 _ _ l1 _ _ l2 true w (Kd.C_of_reads (d := (0 : Int)) (h1 := fun _ => rfl) hr1) hc1 (Kd.C_of_reads (d := (0 : Int)) (h1 := fun _ => rfl) hr2) hc2 h).mono ?_
 rintro e w' ⟨rfl, hd⟩
 exact ⟨rfl, hd⟩

end Go.Proofs.Ytkbnfdiglbpfmaa.P
