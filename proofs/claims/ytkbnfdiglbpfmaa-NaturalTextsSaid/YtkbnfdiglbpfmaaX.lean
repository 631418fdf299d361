/- Two words beside the print's own: the builtin copy into a whole row of the call's own, and make with a capacity and no element. -/
import Derived.Laws.CopyOwn
import Derived.Laws.MakeOwn
import Derived.Test.YtkbnfdiglbpfmaaW
namespace Go.Proofs.Ytkbnfdiglbpfmaa.X
open Go.RowKit Go.Proofs.YtkbnfdiglbpfmaaW.PrintWords Go.Proofs.YtkbnfdiglbpfmaaW.PrintMore
section
variable {P : Program} {ops : Array Oper} {rest : List Oper} {o : Oper} {a : Act} {Q : Exit → Act → World → Prop}

/-- copy(v, y): as many elements as v has; v holds them then. -/
theorem R_copy (kd : IntKind) {w0 W : World} (base e : Nat) (hgd : o.guard = none) (d s : Operand) (dT : TypeId)
    (ho : o.op = .call { callee := .builtin .copy, args := #[d, s], argTypes := #[dT, dT] }) (hu : P.underlying dT = some (.slice e)) (hsz : (P.info? e).map (·.size) = some 1)
    (v : Value) (xs ys : List Int) (A : Option Addr) (c : Nat) (hd : a.eval d = v) (hs : a.eval s = .slice A ys.length c) (hlen : ys.length = xs.length) {ok : Nat → Prop}
    (HO : (Kd.int kd).R e W base ok v xs) (HR : (Kd.int kd).C W A ys.length ys) (HB : Below base w0 W)
    (h : ∀ w1, (Kd.int kd).R e w1 base ok v ys → Below base w0 w1 → wpList P ops Q rest (a.put o.dst (goInt ys.length)) w1) :
    wpList P ops Q (o :: rest) a W := by
  have hown := Kd.own_of_R (h1 := fun _ => rfl) HO
  have hRd := Kd.reads_of_C (h1 := fun _ => rfl) (d := (0 : Int)) HR
  rcases Nat.eq_zero_or_pos ys.length with h0 | h0
  · have hy : ys = [] := List.eq_nil_of_length_eq_zero h0
    have hx : xs = [] := List.eq_nil_of_length_eq_zero (by omega)
    subst hy; subst hx
    rcases hown.2 with ⟨rfl, _⟩ | ⟨g, cap, cur, rfl, _⟩
    · exact wpList_copy_nothing hgd d s dT dT ho e hu hsz none A 0 0 0 c hd hs rfl (h W HO HB)
    · exact wpList_copy_nothing hgd d s dT dT ho e hu hsz (some ⟨g, 0, none⟩) A _ cap 0 c hd hs rfl (h W HO HB)
  · rcases hown.2 with ⟨_, hn⟩ | ⟨g, cap, cur, rfl, hbg, hh, hnc, hcm, hcs, ht⟩
    · omega
    · have hl1 : (encs (Value.int kd) ys).length = ys.length := by simp [encs]
      refine wpList_copy_splice hgd d s dT dT ho e hu hsz (some ⟨g, 0, none⟩) A xs.length cap ys.length c hd hs g 0 cur.toList e (by simpa using hh) (encs (Value.int kd) ys) (by rw [hl1, hlen]; exact (Nat.min_self _).symm)
        (fun _ => ⟨rfl, ?_⟩) (by rw [hl1, hlen]; simp [hcs]; omega) (fun u hu => by
          simp [encs] at hu
          obtain ⟨z, _, rfl⟩ := hu
          rfl) base w0 HB hbg ?_
      · obtain ⟨ad, he, hc⟩ := hRd.2.2 h0
        refine ⟨ad, he, fun j u hj => ?_⟩
        obtain ⟨hjl, hju⟩ := List.getElem?_eq_some_iff.1 hj
        have hjy : j < ys.length := by rw [hl1] at hjl; exact hjl
        rw [hc j hjy, ← hju]
        simp [encs, hjy]
      · intro w1 hg1 hb1
        have hg := hg1.out
        rw [hl1]
        refine h w1 (Kd.R_of_own (h1 := fun _ => rfl) ⟨by simp [encs], .inr ⟨g, cap, _, by rw [hlen], hbg, hg, by omega, hcm, ?_, ?_⟩⟩ (fun k hk => HO.1 k (by simpa [Value.ownBlock] using hk))) hb1
        · simp [splice, encs, hcs]
          omega
        · simp [splice, encs]
end
section
variable {P : Program} {ops : Array Oper} {rest : List Oper} {o : Oper} {a : Act} {Q : Exit → Act → World → Prop}
/-- The operation is a cut of a slice. -/
theorem gate_slice {t : TypeId} {x : Operand} {lo hi mx : Option Operand} (_ho : o.op = .slice t x lo hi mx) {W : World} (h : wpList P ops Q (o :: rest) a W) : wpList P ops Q (o :: rest) a W := h
/-- make([]T, 0, c): no element, room for c. -/
theorem R_makecap {α : Type} (d : Kd α) {w0 W : World} (base e : Nat) (hgd : o.guard = none) (t : TypeId) (x y : Operand) (ho : o.op = .makeSlice t x y) (n : Int) (hx : a.eval x = .int .i64 0) (hy : a.eval y = .int .i64 n)
    (ht : P.underlying t = some (.slice e)) (z : Value) (bytes : Nat) (hinfo : (P.info? e).map (fun i => (i.zero, i.size, i.bytes)) = some (some z, d.sz, bytes)) (hb0 : 0 < bytes)
    {ok : Nat → Prop} (hfresh : ok W.heap.size) (h0 : 0 ≤ n) (hl : n.toNat * bytes ≤ 281474976710656) (HB : Below base w0 W) (hbase : base ≤ W.heap.size)
    (h : ∀ v1 w1, d.R e w1 base ok v1 [] → Below base w0 w1 → W.grownBy w1 none → (∃ b, v1.ownBlock = some b ∧ W.heap.size ≤ b) → wpList P ops Q rest (a.put o.dst v1) w1) : wpList P ops Q (o :: rest) a W := by
  obtain ⟨m, rfl⟩ := Int.eq_ofNat_of_zero_le h0
  simp only [Int.toNat_natCast] at hl
  obtain ⟨i0, hi, hzz⟩ := Option.map_eq_some_iff.1 hinfo
  simp only [Prod.mk.injEq] at hzz
  obtain ⟨hz0, hz1, hz2⟩ := hzz
  have hm : m ≤ 281474976710656 := Nat.le_trans (Nat.le_mul_of_pos_right _ hb0) hl
  obtain ⟨w', hrun, hown, hgrow⟩ := run_make_own (P := P) W base t e i0 z d.sz ht hi hz0 hz1 .i64 .i64 m (by rw [hz2, Nat.mul_comm]; exact hl) (by simp [maxLen]; omega) hbase
  refine Kd.event_run (v := .slice (some ⟨W.heap.size, 0, none⟩) 0 m) (w1 := w') hgd (by simp [execOp, ho, hx, hy, hrun]) (h _ _ ⟨fun k hk => ?_, [], ?_, Reps.none _ _⟩ (HB.grown hgrow hbase (by simp)) hgrow ⟨W.heap.size, by simp [Value.ownBlock], Nat.le_refl _⟩)
  · have : W.heap.size = k := by simpa [Value.ownBlock] using hk
    subst this
    exact hfresh
  · simpa using hown
end
theorem u8_w (x : Int) : IntKind.u8.wrap x = x % 256 := by
  simp [IntKind.wrap, IntKind.bits, IntKind.signed]
theorem u32_w (x : Int) : IntKind.u32.wrap x = x % 4294967296 := by
  simp [IntKind.wrap, IntKind.bits, IntKind.signed]
theorem u64_u8 (x : Int) : IntKind.u64.wrap (x % 256) = x % 256 := by
  simp [IntKind.wrap, IntKind.bits, IntKind.signed]
  omega
theorem u64_u32 (x : Int) : IntKind.u64.wrap (x % 4294967296) = x % 4294967296 := by
  simp [IntKind.wrap, IntKind.bits, IntKind.signed]
  omega
theorem V_atq {α : Type} {d : Kd α} {e base : Nat} {ok : Nat → Prop} {w w' : World} {m : Nat} {v : Value} {xs : List α} (hq : w.drewN m = w') (h : Kd.V d e w base ok v xs) : Kd.V d e w' base ok v xs := by
  subst hq
  exact Kd.V_drewN h m
end Go.Proofs.Ytkbnfdiglbpfmaa.X
