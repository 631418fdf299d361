/- Small tools for the laws: the arguments' limbs, light. -/
import Derived.Test.YtkbnfdiglbpfmaaM6
import Derived.Test.YtkbnfdiglbpfmaaA1
import Derived.Test.YtkbnfdiglbpfmaaP6
namespace Go.Proofs.Ytkbnfdiglbpfmaa.M
open Go.RowKit Go.Proofs.Ytkbnfdiglbpfmaa.P Go.Proofs.YtkbnfdiglbpfmaaW.PrintWords Go.Proofs.YtkbnfdiglbpfmaaW.PrintLast Go.Proofs.YtkbnfdiglbpfmaaW.PrintMore

theorem lim_wf {l : List Int} (h : ∀ x ∈ l, (Lit.int .u32 x).wf = true) : Lim l := by
  intro x hx
  have := h x hx
  simp only [Lit.wf, IntKind.min, IntKind.max, IntKind.signed, IntKind.bits, Bool.and_eq_true] at this
  have h1 := this.1
  have h2 := this.2
  simp at h1 h2
  omega
theorem light_eq (a b : List Int) : garmentlaw01_light.f a b = some (decide (a.length ≤ 24 ∧ b.length ≤ 24)) := by
  unfold garmentlaw01_light.f
  by_cases h1 : a.length ≤ 24
  · rw [if_pos (by omega)]
    congr 1
    by_cases h2 : b.length ≤ 24
    · rw [decide_eq_true (by omega), decide_eq_true ⟨h1, h2⟩]
    · rw [decide_eq_false (by omega), decide_eq_false (fun h => h2 h.2)]
  · rw [if_neg (by omega), decide_eq_false (fun h => h1 h.1)]
theorem alive_end : Ev (fun k => (garmentlaw01_alive.f k).bind fun t => some t) true := Ev.bind alive_ev (Ev.now _)
end Go.Proofs.Ytkbnfdiglbpfmaa.M
