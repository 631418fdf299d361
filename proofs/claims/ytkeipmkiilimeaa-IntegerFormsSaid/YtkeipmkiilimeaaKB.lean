/- Calls: what a callee is given, what it gives back, and the caller's memory behind it.
A call: its arguments.
A call: the caller behind it.
Each operation of the program does what the abstract one does: append of zeros, a text's runes, the place of a byte.
Every operation that is translated does what its abstract form says.
One operation of a region, and the relation of states.
Drawn regions: the operations that no edge orders commute.
Drawn regions: operations swapped, and the region's law.
Drawn regions: in whatever order, the same.
The form of the state at a loop's head stands for the same memory.
The form of the state at a loop's head: soundness.
A function's results.
The interpreter is sound: what it answers, the program answers.
What a law is given: the data that the statement speaks of, as plain values.
A law: what the interpreter answers for all data of the arguments' types, the program answers. -/
import Derived.Test.YtkeipmkiilimeaaKA
import Derived.Lib.Bytealg
import Derived.KernelRfl
import Derived.Orders
import Derived.ChangeArms
import Derived.DataReads
import Derived.ChangeOld
import Derived.WideShapes

set_option linter.unusedSimpArgs false
namespace Go.Proofs.Ytkeipmkiilimeaa.V
open Go
def retE : Nat → List AR → Env
  | _, [] => env0
  | i, .pv p :: r => upd (retE (i + 1) r) i (.pv p)
  | i, .own _ :: r => upd (retE (i + 1) r) i (.row i none)
  | i, .obj _ :: r => upd (retE (i + 1) r) i (.ptr i 0)
def retH : Nat → List AR → Heap
  | _, [] => hp0
  | i, .pv _ :: r => retH (i + 1) r
  | i, .own p :: r => hup (retH (i + 1) r) i (some (some (.row p true)))
  | i, .obj cs :: r => hup (retH (i + 1) r) i (some (some (.vars (cs.map .pv))))
/-- The slots of the variables that are lent. -/
def objSlots : Nat → List Arg → List Nat
  | _, [] => []
  | i, .obj _ :: r => i :: objSlots (i + 1) r
  | i, _ :: r => objSlots (i + 1) r
def retVal (vs : List Value) : Value := match vs with
  | [v] => v
  | vs => .tuple vs.toArray
/-- What a call gives back. M: the blocks that it was given to write. -/
def RetRel (M I : Nat → Prop) (ρ : Rho) (w : World) (args : List Arg) (rs : List AR) (v : Value) (w' : World) : Prop :=
  ∃ I' ρ' vs, v = retVal vs ∧ vs.length + (objSlots 0 args).length = rs.length ∧ SRel ⟨w.heap.size, M, I, w⟩ I' ρ' (retH 0 rs) w' ∧
    (∀ (i : Nat) (r : AR) (x : Value), rs[i]? = some r → vs[i]? = some x → VRel I' w' ρ' (retE 0 rs i) x) ∧
    ∀ (j s : Nat), (objSlots 0 args)[j]? = some s → (∃ cs, rs[vs.length + j]? = some (.obj cs)) ∧ ρ' (vs.length + j) = ρ s
def CallOK (P : Program) (call : Call) : Prop :=
  ∀ f args rs, call f args = some rs → ∀ (M I : Nat → Prop) (ρ : Rho) (w : World) (vals : Array Value), SRel ⟨w.heap.size, M, I, w⟩ I ρ (enterH 0 args) w → vals.size = args.length →
    (∀ i, i < args.length → VRel I w ρ (enterE 0 args i) (vals.getD i undef)) → Calls P (f % 100000) vals w fun e w' => ∃ v, e = .returned v ∧ RetRel M I ρ w args rs v w'
theorem retE_at : ∀ (rs : List AR) (s i : Nat) (r : AR), rs[i]? = some r → retE s rs (s + i) = (match r with | .pv p => .pv p | .own _ => .row (s + i) none | .obj _ => .ptr (s + i) 0)
  | [], s, i, r, h => by simp at h
  | q :: rs, s, i, r, h => by
    cases i with
    | zero =>
      simp at h; subst h
      cases q <;> simp [retE, upd]
    | succ i =>
      have := retE_at rs (s + 1) i r (by simpa using h)
      rw [show s + 1 + i = s + (i + 1) by omega] at this
      rw [← this]
      cases q <;> simp only [retE, upd] <;> rw [if_neg (by omega)]
theorem retH_at : ∀ (rs : List AR) (s i : Nat) (r : AR), rs[i]? = some r → retH s rs (s + i) = (match r with | .pv _ => none | .own p => some (some (.row p true)) | .obj cs => some (some (.vars (cs.map .pv))))
  | [], s, i, r, h => by simp at h
  | q :: rs, s, i, r, h => by
    cases i with
    | zero =>
      simp at h; subst h
      have none : ∀ (rs : List AR) (s t : Nat), t < s → retH s rs t = Option.none := by
        intro rs
        induction rs with
        | nil => intro s t _; rfl
        | cons q rs ih =>
          intro s t ht
          cases q <;> simp only [retH, hup] <;> first | exact ih _ _ (by omega) | (rw [if_neg (by omega)]; exact ih _ _ (by omega))
      cases q <;> simp only [retH, hup, Nat.add_zero, if_true]
      exact none rs (s + 1) s (by omega)
    | succ i =>
      have := retH_at rs (s + 1) i r (by simpa using h)
      rw [show s + 1 + i = s + (i + 1) by omega] at this
      rw [← this]
      cases q <;> simp only [retH, hup] <;> first | rfl | rw [if_neg (by omega)]
theorem retH_inv : ∀ (rs : List AR) (s t : Nat) (o : AObj), retH s rs t = some (some o) → ∃ i, t = s + i ∧ i < rs.length
  | [], s, t, o, h => by cases h
  | q :: rs, s, t, o, h => by
    by_cases e : t = s
    · exact ⟨0, by omega, by simp⟩
    · have : retH (s + 1) rs t = some (some o) := by
        cases q <;> simp only [retH, hup] at h <;> first | exact h | (rw [if_neg e] at h; exact h)
      obtain ⟨i, h1, h2⟩ := retH_inv rs (s + 1) t o this
      exact ⟨i + 1, by omega, by simp; omega⟩
section
variable {X : Ctx} {I : Nat → Prop} {ρ : Rho} {h : Heap} {w : World} {P : Program} {call : Call}
def delH (ids : List Nat) (h : Heap) : Heap := fun j => if j ∈ ids then some none else h j
def shutH (ids : List Nat) (h : Heap) : Heap := fun j => if j ∈ ids then (match h j with | some (some (.row c _)) => some (some (.row c false)) | o => o) else h j
theorem dels_run : ∀ {ids : List Nat} {k : HP} {r : AV × Heap} {h : Heap}, (delsK ids k).run call h = some r → k.run call (delH ids h) = some r ∧ ∀ id ∈ ids, ∃ o, h id = some (some o)
  | [], k, r, h, e => ⟨by rw [show delH [] h = h from funext fun j => by simp [delH]]; exact e, by simp⟩
  | id :: ids, k, r, h, e => by
    obtain ⟨h1, e⟩ := del_inv e
    obtain ⟨e, h2⟩ := dels_run e
    have heq : delH (id :: ids) h = delH ids (hup h id (some none)) := by
      funext j
      simp only [delH, hup, List.mem_cons]
      by_cases e1 : j ∈ ids
      · simp [e1]
      · by_cases e2 : j = id <;> simp [e1, e2]
    refine ⟨by rw [heq]; exact e, fun j hj => ?_⟩
    · rcases List.mem_cons.1 hj with rfl | hj
      · exact h1
      · obtain ⟨o, ho⟩ := h2 j hj
        by_cases e : j = id
        · subst e; rw [hup_same] at ho; cases ho
        · rw [hup_ne e] at ho; exact ⟨o, ho⟩
theorem shuts_run : ∀ {ids : List Nat} {k : HP} {r : AV × Heap} {h : Heap}, (shutK ids k).run call h = some r → k.run call (shutH ids h) = some r ∧ ∀ id ∈ ids, ∃ c m, h id = some (some (.row c m))
  | [], k, r, h, e => ⟨by rw [show shutH [] h = h from funext fun j => by simp [shutH]]; exact e, by simp⟩
  | id :: ids, k, r, h, e => by
    obtain ⟨o, hid, e⟩ := get_inv e
    split at e
    · rename_i c m
      obtain ⟨_, e⟩ := put_inv e
      obtain ⟨e, h2⟩ := shuts_run e
      have heq : shutH (id :: ids) h = shutH ids (hup h id (some (some (.row c false)))) := by
        funext j
        simp only [shutH, hup, List.mem_cons]
        by_cases e2 : j = id
        · subst e2; simp [hid]
        · simp [e2]
      refine ⟨by rw [heq]; exact e, fun j hj => ?_⟩
      · rcases List.mem_cons.1 hj with rfl | hj
        · exact ⟨c, m, hid⟩
        · obtain ⟨c', m', ho⟩ := h2 j hj
          by_cases e : j = id
          · subst e; exact ⟨c, m, hid⟩
          · rw [hup_ne e] at ho; exact ⟨c', m', ho⟩
    · exact (fail_inv e).elim
theorem SRel.dels : ∀ {ids : List Nat} {h : Heap}, (∀ id ∈ ids, ∃ o, h id = some (some o)) → SRel X I ρ h w → SRel X I ρ (delH ids h) w := by
  intro ids h hl r
  have live : ∀ j oj, delH ids h j = some (some oj) → h j = some (some oj) ∧ j ∉ ids := by
    intro j oj hj
    unfold delH at hj
    split at hj
    · cases hj
    · exact ⟨hj, ‹_›⟩
  exact { r with
    used := fun j hj => by
      unfold delH at hj
      split at hj
      · cases hj
      · exact r.used j hj
    objs := fun j oj hj => r.objs j oj (live j oj hj).1
    sep := fun i j oi oj b hi hj => r.sep i j oi oj b (live i oi hi).1 (live j oj hj).1
    muts := fun j oj b hj => r.muts j oj b (live j oj hj).1 }
theorem SRel.shuts : ∀ {ids : List Nat} {I : Nat → Prop} {h : Heap}, (∀ id ∈ ids, ∃ c m, h id = some (some (.row c m))) → SRel X I ρ h w → SRel X (Iadds I ρ ids) ρ (shutH ids h) w
  | [], I, h, _, r => by
    rw [show shutH [] h = h from funext fun j => by simp [shutH], show Iadds I ρ [] = I from funext fun b => by simp [Iadds]]
    exact r
  | id :: ids, I, h, hl, r => by
    obtain ⟨c, m, hid⟩ := hl id (by simp)
    have r' := r.shut hid
    have := SRel.shuts (ids := ids) (fun j hj => by
      by_cases e : j = id
      · subst e; exact ⟨c, false, hup_same _ _ _⟩
      · obtain ⟨c', m', h'⟩ := hl j (by simp [hj]); exact ⟨c', m', by rw [hup_ne e]; exact h'⟩) r'
    have heq : shutH (id :: ids) h = shutH ids (hup h id (some (some (.row c false)))) := by
      funext j
      simp only [shutH, hup, List.mem_cons]
      by_cases e2 : j = id
      · subst e2; simp [hid]
      · simp [e2]
    have heq2 : Iadds I ρ (id :: ids) = Iadds (Iadd I ρ id) ρ ids := by
      funext b
      simp only [Iadds, Iadd, List.mem_cons, eq_iff_iff]
      constructor
      · rintro (h1 | ⟨i, rfl | hi, h1⟩)
        · exact .inl (.inl h1)
        · exact .inl (.inr h1)
        · exact .inr ⟨i, hi, h1⟩
      · rintro ((h1 | h1) | ⟨i, hi, h1⟩)
        · exact .inl h1
        · exact .inr ⟨id, .inl rfl, h1⟩
        · exact .inr ⟨i, .inr hi, h1⟩
    rw [heq, heq2]
    exact this
/-- The caller's memory behind a call: what the callee was not given is as it was. -/
theorem SRel.frame {J : Nat → Prop} {M : Nat → Prop} {w' : World} (r : SRel X I ρ h w) (hk : ∀ b, b < w.heap.size → ¬ M b → w'.heap[b]? = w.heap[b]?) (hs : w.heap.size ≤ w'.heap.size) (ho : w'.os = w.os) (ht : w'.tape = w.tape) (hout : w'.output = w.output)
    (hM : ∀ b, M b → ¬ I b ∧ (X.B ≤ b ∨ X.M b) ∧ ∀ j oj, h j = some (some oj) → (ρ j).bind RL.blk ≠ some b) (hJ : ∀ b, I b → J b) (hJ' : ∀ b, J b → b < w'.heap.size ∧ (I b ∨ w.heap.size ≤ b ∨ M b)) :
    SRel X J ρ h w' ∧ Ext I ρ w J ρ w' := by
  have ex : Ext I ρ w J ρ w' := ⟨hJ, fun _ _ h => h, fun b hb => hk b (r.inI b hb).1 fun h => (hM b h).1 hb⟩
  refine ⟨{ used := r.used, objs := fun id o hid => (r.objs id o hid).ext ex fun b hb => hk b ((r.objs id o hid).blk_lt hb) fun h => (hM b h).2.2 id o hid hb, sep := r.sep, muts := ?_, inI := ?_, i0 := fun b hb => hJ b (r.i0 b hb), size := Nat.le_trans r.size hs, keep := ?_, os := ho.trans r.os, tape := ht.trans r.tape, output := hout.trans r.output }, ex⟩
  · intro id o b hid hm hb
    obtain ⟨h1, h2⟩ := r.muts id o b hid hm hb
    refine ⟨fun h => ?_, h2⟩
    rcases (hJ' b h).2 with h | h | h
    · exact h1 h
    · exact absurd ((r.objs id o hid).blk_lt hb) (Nat.not_lt.2 h)
    · exact (hM b h).2.2 id o hid hb
  · intro b hb
    refine ⟨(hJ' b hb).1, ?_⟩
    rcases (hJ' b hb).2 with h | h | h
    · exact (r.inI b h).2
    · exact .inr (.inl (Nat.le_trans r.size h))
    · exact .inr (hM b h).2.1
  · intro b hb hMb
    rw [← r.keep b hb hMb]
    refine hk b (Nat.lt_of_lt_of_le hb r.size) fun h => ?_
    rcases (hM b h).2.1 with h | h
    · omega
    · exact hMb h
/-- An object that had gone is there again. -/
theorem SRel.back {id : Nat} {o : AObj} {l : RL} (hid : h id = some none) (hρ : ρ id = some l) (f : Free X I ρ h w l.blk) (r : SRel X I ρ h w) (ho : ORel I w ρ id o) : SRel X I ρ (hup h id (some (some o))) w := by
  have live : ∀ j oj, j ≠ id → hup h id (some (some o)) j = some (some oj) → h j = some (some oj) := fun j oj e hj => by rwa [hup_ne e] at hj
  have blk0 : (ρ id).bind RL.blk = l.blk := by rw [hρ]; rfl
  exact { r with
    used := fun j hj => by
      by_cases e : j = id
      · subst e; rw [hup_same] at hj; cases hj
      · rw [hup_ne e] at hj; exact r.used j hj
    objs := fun j oj hj => by
      by_cases e : j = id
      · subst e; rw [hup_same] at hj; cases hj; exact ho
      · exact r.objs j oj (live j oj e hj)
    sep := fun i j oi oj b hi hj bi bj => by
      by_cases ei : i = id <;> by_cases ej : j = id
      · rw [ei, ej]
      · subst ei; rw [blk0] at bi
        exact absurd bj ((f.notI r bi).2.2 j oj (live j oj ej hj))
      · subst ej; rw [blk0] at bj
        exact absurd bi ((f.notI r bj).2.2 i oi (live i oi ei hi))
      · exact r.sep i j oi oj b (live i oi ei hi) (live j oj ej hj) bi bj
    muts := fun j oj b hj hmj hb => by
      by_cases e : j = id
      · subst e; rw [blk0] at hb; exact ⟨(f.notI r hb).1, (f.notI r hb).2.1⟩
      · exact r.muts j oj b (live j oj e hj) hmj hb }
end
end Go.Proofs.Ytkeipmkiilimeaa.V
set_option linter.unusedSimpArgs false
namespace Go.Proofs.Ytkeipmkiilimeaa.V
open Go
section
variable {X : Ctx} {I : Nat → Prop} {ρ : Rho} {h : Heap} {w : World} {P : Program} {call : Call}
inductive ArgsInv (I : Nat → Prop) (ρ : Rho) (w : World) (h : Heap) : List (AV × Md) → List Value → List Arg → List Nat → List Nat → List Nat → Prop
  | nil : ArgsInv I ρ w h [] [] [] [] [] []
  | pv {v : AV} {x : Value} {p : PV} {ids1 ids os us : List Nat} {r : List (AV × Md)} {xs : List Value} {as : List Arg} (hl : Lent h ids1) (hp : PRep (Iadds I ρ ids1) w p x) (hr : ArgsInv I ρ w h r xs as ids os us) : ArgsInv I ρ w h ((v, .pure) :: r) (x :: xs) (.pv p :: as) (ids1 ++ ids) os us
  | own {id : Nat} {vw : Option (Nat × Nat)} {c : PV} {x : Value} {ids os us : List Nat} {r : List (AV × Md)} {xs : List Value} {as : List Arg} (hl : h id = some (some (.row c true))) (hp : VRel I w ρ (.row id vw) x) (hr : ArgsInv I ρ w h r xs as ids os us) : ArgsInv I ρ w h ((.row id vw, .own) :: r) (x :: xs) (.own (viewOf c vw) :: as) ids os (id :: us)
  | obj {id : Nat} {ps : List PV} {x : Value} {ids os us : List Nat} {r : List (AV × Md)} {xs : List Value} {as : List Arg} (hl : h id = some (some (.vars (ps.map .pv)))) (hp : VRel I w ρ (.ptr id 0) x) (hr : ArgsInv I ρ w h r xs as ids os us) : ArgsInv I ρ w h ((.ptr id 0, .obj) :: r) (x :: xs) (.obj ps :: as) ids (id :: os) (id :: us)
theorem args_inv (s : SRel X I ρ h w) : ∀ {avs : List (AV × Md)} {xs : List Value} {k : List Arg → List Nat → List Nat → List Nat → HP} {r : AV × Heap}, avs.length = xs.length → (∀ (i : Nat) (v : AV × Md) (x : Value), avs[i]? = some v → xs[i]? = some x → VRel I w ρ v.1 x) →
    (argsK avs k).run call h = some r → ∃ as ids os us, (k as ids os us).run call h = some r ∧ ArgsInv I ρ w h avs xs as ids os us
  | [], xs, k, r, hl, _, e => by
    cases xs with
    | nil => exact ⟨[], [], [], [], e, .nil⟩
    | cons _ _ => simp at hl
  | (v, m) :: avs, xs, k, r, hl, hv, e => by
    cases xs with
    | nil => simp at hl
    | cons x xs =>
      have hx := hv 0 (v, m) x rfl rfl
      have hl' : avs.length = xs.length := by simpa using hl
      have hv' : ∀ (i : Nat) (v : AV × Md) (x : Value), avs[i]? = some v → xs[i]? = some x → VRel I w ρ v.1 x := fun i v' x' h1 h2 => hv (i + 1) v' x' (by simpa using h1) (by simpa using h2)
      unfold argsK at e
      split at e
      · rename_i heq; cases heq
      · rename_i heq
        cases heq
        obtain ⟨p, ids1, e, h1, h2⟩ := frz_sound s hx e
        obtain ⟨as, ids, os, us, e, hi⟩ := args_inv s hl' hv' e
        exact ⟨_, _, _, _, e, .pv h1 h2 hi⟩
      · rename_i heq
        cases heq
        obtain ⟨o, hid, e⟩ := get_inv e
        unfold lendRow at e
        split at e
        · rename_i c m
          obtain ⟨hm, e1⟩ := chk_inv e
          clear e
          subst hm
          obtain ⟨as, ids, os, us, e, hi⟩ := args_inv s hl' hv' e1
          exact ⟨_, _, _, _, e, .own hid hx hi⟩
        · exact (fail_inv e).elim
      · rename_i heq
        cases heq
        obtain ⟨o, hid, e⟩ := get_inv e
        unfold lendObj at e
        split at e
        · rename_i cs
          unfold lendO at e
          split at e
          · rename_i ps hps
            obtain ⟨as, ids, os, us, e, hi⟩ := args_inv s hl' hv' e
            have := pvs_rep hps
            subst this
            exact ⟨_, _, _, _, e, .obj hid hx hi⟩
          · exact (fail_inv e).elim
        · exact (fail_inv e).elim
      · exact (fail_inv e).elim
theorem enterH_lt : ∀ (as : List Arg) (s t : Nat), t < s → enterH s as t = none
  | [], _, _, _ => rfl
  | a :: as, s, t, ht => by
    cases a <;> simp only [enterH, hup] <;> first | exact enterH_lt as (s + 1) t (by omega) | (rw [if_neg (by omega)]; exact enterH_lt as (s + 1) t (by omega))
theorem ArgsInv.live {avs : List (AV × Md)} {xs : List Value} {as : List Arg} {ids os us : List Nat} (ha : ArgsInv I ρ w h avs xs as ids os us) : ∀ id ∈ us, ∃ o, h id = some (some o) := by
  induction ha with
  | nil => simp
  | pv _ _ _ ih => exact ih
  | own hl _ _ ih => intro i hi; rcases List.mem_cons.1 hi with rfl | hi; exact ⟨_, hl⟩; exact ih i hi
  | obj hl _ _ ih => intro i hi; rcases List.mem_cons.1 hi with rfl | hi; exact ⟨_, hl⟩; exact ih i hi
theorem nodupB_cons {i : Nat} {r : List Nat} (h : nodupB (i :: r) = true) : i ∉ r ∧ nodupB r = true := by
  simp only [nodupB, Bool.and_eq_true, Bool.not_eq_true', List.contains_eq_mem, decide_eq_false_iff_not] at h
  exact h
/-- What the callee is given. -/
theorem args_given (s : SRel X I ρ h w) {ids' us' : List Nat} (hlent : Lent h ids') (hdis : ∀ i ∈ ids', i ∉ us') {M : Nat → Prop} (hM : ∀ b, M b ↔ ∃ id ∈ us', (ρ id).bind RL.blk = some b) {avs : List (AV × Md)} {xs : List Value} {as : List Arg} {ids os us : List Nat} (ha : ArgsInv I ρ w h avs xs as ids os us) :
    (∀ i ∈ ids, i ∈ ids') → (∀ i ∈ us, i ∈ us') → nodupB us = true → ∀ st, ∃ ρ0, SRel ⟨w.heap.size, M, Iadds I ρ ids', w⟩ (Iadds I ρ ids') ρ0 (enterH st as) w ∧ (∀ (i : Nat) (x : Value), xs[i]? = some x → VRel (Iadds I ρ ids') w ρ0 (enterE st as (st + i)) x) ∧
      (∀ i o b, enterH st as i = some (some o) → (ρ0 i).bind RL.blk = some b → ∃ id ∈ us, (ρ id).bind RL.blk = some b) ∧ (∀ (j sl : Nat), (objSlots st as)[j]? = some sl → ∃ id, os[j]? = some id ∧ ρ0 sl = ρ id) ∧ os.length = (objSlots st as).length ∧ (∀ i, i < st → ρ0 i = none) := by
  have mutI : ∀ id o b, id ∈ us' → h id = some (some o) → o.mutable = true → (ρ id).bind RL.blk = some b → ¬ Iadds I ρ ids' b := by
    intro id o b hu hid hm hb hI
    rcases hI with hI | ⟨i, hi, hb'⟩
    · exact (s.muts id o b hid hm hb).1 hI
    · obtain ⟨c, hc⟩ := hlent i hi
      have := s.sep i id _ _ b hc hid hb' hb
      exact hdis i hi (this ▸ hu)
  induction ha with
  | nil =>
    intro _ _ _ st
    refine ⟨fun _ => none, { used := fun _ _ => rfl, objs := (fun _ _ h => by cases h), sep := (fun _ _ _ _ _ h => by cases h), muts := (fun _ _ _ h => by cases h), inI := fun b hb => ⟨?_, .inl hb⟩, i0 := fun _ h => h, size := Nat.le_refl _, keep := fun _ _ _ => rfl, os := rfl, tape := rfl, output := rfl }, by simp, (fun _ _ _ h => by cases h), (by simp [objSlots]), rfl, fun _ _ => rfl⟩
    rcases hb with hb | ⟨i, hi, hb⟩
    · exact (s.inI b hb).1
    · obtain ⟨c, hc⟩ := hlent i hi
      exact (s.objs i _ hc).blk_lt hb
  | pv hl hp hr ih =>
    intro h1 h2 h3 st
    obtain ⟨ρ0, g1, g2, g3, g4, g5, g6⟩ := ih (fun i hi => h1 i (by simp [hi])) h2 h3 (st + 1)
    refine ⟨ρ0, g1, fun i x hx => ?_, g3, g4, g5, fun i hi => g6 i (by omega)⟩
    cases i with
    | zero =>
      simp at hx; subst hx
      simp only [enterE, Nat.add_zero, upd, if_true]
      exact .pv (hp.iadds fun i hi => h1 i (by simp [hi]))
    | succ i =>
      have := g2 i x (by simpa using hx)
      simp only [enterE, upd]
      rw [if_neg (by omega)]
      rwa [show st + (i + 1) = st + 1 + i by omega]
  | @own id vw c x ids os us r xs as hl hp hr ih =>
    intro h1 h2 h3 st
    obtain ⟨n1, n2⟩ := nodupB_cons h3
    obtain ⟨ρ0, g1, g2, g3, g4, g5, g6⟩ := ih h1 (fun i hi => h2 i (by simp [hi])) n2 (st + 1)
    have hfresh : enterH (st + 1) as st = none := enterH_lt as _ _ (by omega)
    -- where it lies
    have key : ∃ l : RL, (∀ b, l.blk = some b → (ρ id).bind RL.blk = some b) ∧ (∀ ρ', ρ' st = some l → ORel (Iadds I ρ ids') w ρ' st (.row (viewOf c vw) true)) ∧ ∀ ρ', ρ' st = some l → VRel (Iadds I ρ ids') w ρ' (.row st none) x := by
      rcases row_at s hl hp with ⟨q1, rfl, q2, q3, q4, q5⟩ | ⟨b, base, N, cap, a, cap', q1, rfl, q2, q3, q4, q5, q6, q7⟩
      · refine ⟨.nil, (fun b h => by cases h), (fun ρ' hρ => .inl ⟨hρ, q2, ?_⟩), fun ρ' hρ => .row0 hρ⟩
        cases vw with
        | none => exact q4
        | some q => exact PV.isSlice_sub q4
      · obtain ⟨o', rfl, hcap, ho'⟩ := q4
        rcases s.objs id _ hl with ⟨g1', _⟩ | ⟨b', base', N', cap0, arr, et, lo, hi', g1', z2, z3, z4, z5, z6, z7, z8⟩
        · rw [q1] at g1'; cases g1'
        · rw [q1] at g1'; cases g1'
          refine ⟨.row b (base + o' * N) N cap' (viewOf c vw).len, fun b' h => by rw [q1]; exact h, fun ρ' hρ => .inr ⟨b, base + o' * N, N, cap', arr, et, lo, hi', hρ, z2, ?_, q3, q5, ?_, fun _ => z7 rfl, fun h => by cases h⟩, fun ρ' hρ => .row hρ q3⟩
          · have := Nat.mul_le_mul_right N hcap
            rw [Nat.add_mul] at this
            omega
          · have hG0 := ContG.of z5 z6
            refine (ContG.to q5 q6 fun i hi => ?_ : ContRep I w b (base + o' * N) (viewOf c vw)).mono (fun _ h => .inl h) (fun _ _ => rfl) rfl
            rcases ho' with rfl | ⟨hz, _⟩
            · rw [q7 i hi]
              obtain ⟨u1, u2, u3⟩ := hG0 (viewOff vw + i) (by omega)
              refine ⟨u1, u2, fun j q hq => ?_⟩
              obtain ⟨v, hv, hp⟩ := u3 j q hq
              exact ⟨v, by rw [← hv, Nat.add_mul]; congr 2; omega, hp⟩
            · omega
    obtain ⟨l, l1, l2, l3⟩ := key
    have hfree : Free ⟨w.heap.size, M, Iadds I ρ ids', w⟩ (Iadds I ρ ids') ρ0 (enterH (st + 1) as) w l.blk := by
      intro b hb
      have hb' := l1 b hb
      refine .inr ⟨mutI id _ b (h2 id (by simp)) hl rfl hb', .inr ((hM b).2 ⟨id, h2 id (by simp), hb'⟩), fun j oj hj e => ?_⟩
      obtain ⟨id', hid', hb2⟩ := g3 j oj b hj e
      obtain ⟨o2, ho2⟩ := hr.live id' hid'
      have := s.sep id' id _ _ b ho2 hl hb2 hb'
      exact n1 (this ▸ hid')
    refine ⟨rup ρ0 st l, g1.add hfresh hfree ((Same.refl w).but _) rfl (l2 _ (rup_same _ _ _)), fun i y hy => ?_, fun i o b hi hb => ?_, fun j sl hj => ?_, g5, fun i hi => ?_⟩
    · cases i with
      | zero =>
        simp at hy; subst hy
        simp only [enterE, Nat.add_zero, upd, if_true]
        exact l3 _ (rup_same _ _ _)
      | succ i =>
        have := g2 i y (by simpa using hy)
        simp only [enterE, upd]
        rw [if_neg (by omega), show st + (i + 1) = st + 1 + i by omega]
        exact this.mono (fun _ h => h) (fun _ _ => rfl) fun j lj hj => by
          by_cases e : j = st
          · subst e; rw [g1.used _ hfresh] at hj; cases hj
          · rwa [rup_ne e]
    · by_cases e : i = st
      · subst e
        rw [rup_same] at hb
        exact ⟨id, by simp, l1 b hb⟩
      · rw [rup_ne e] at hb
        simp only [enterH] at hi
        rw [hup_ne e] at hi
        obtain ⟨id', hid', hb'⟩ := g3 i o b hi hb
        exact ⟨id', by simp [hid'], hb'⟩
    · obtain ⟨id', h1', h2'⟩ := g4 j sl hj
      refine ⟨id', h1', ?_⟩
      have : sl ≠ st := by
        have lb : ∀ (as : List Arg) (s j sl : Nat), (objSlots s as)[j]? = some sl → s ≤ sl := by
          intro as
          induction as with
          | nil => intro s j sl h; simp [objSlots] at h
          | cons a as ih =>
            intro s j sl h
            cases a with
            | obj cs =>
              cases j with
              | zero => simp [objSlots] at h; omega
              | succ j => have := ih (s + 1) j sl (by simpa [objSlots] using h); omega
            | _ => have := ih (s + 1) j sl (by simpa [objSlots] using h); omega
        have := lb as (st + 1) j sl hj
        omega
      rw [rup_ne this]; exact h2'
    · rw [rup_ne (by omega)]; exact g6 i (by omega)
  | @obj id ps x ids os us r xs as hl hp hr ih =>
    intro h1 h2 h3 st
    obtain ⟨n1, n2⟩ := nodupB_cons h3
    obtain ⟨ρ0, g1, g2, g3, g4, g5, g6⟩ := ih h1 (fun i hi => h2 i (by simp [hi])) n2 (st + 1)
    have hfresh : enterH (st + 1) as st = none := enterH_lt as _ _ (by omega)
    cases hp with
    | @ptr _ _ b hρ =>
      obtain ⟨b', arr, et, q1, q2, q3, q4, q5⟩ := s.objs id _ hl
      rw [hρ] at q1; cases q1
      have hfree : Free ⟨w.heap.size, M, Iadds I ρ ids', w⟩ (Iadds I ρ ids') ρ0 (enterH (st + 1) as) w (RL.blk (.obj b)) := by
        intro b'' hb
        cases hb
        have hb' : (ρ id).bind RL.blk = some b := by rw [hρ]; rfl
        refine .inr ⟨mutI id _ b (h2 id (by simp)) hl rfl hb', .inr ((hM b).2 ⟨id, h2 id (by simp), hb'⟩), fun j oj hj e => ?_⟩
        obtain ⟨id', hid', hb2⟩ := g3 j oj b hj e
        obtain ⟨o2, ho2⟩ := hr.live id' hid'
        have := s.sep id' id _ _ b ho2 hl hb2 hb'
        exact n1 (this ▸ hid')
      refine ⟨rup ρ0 st (.obj b), g1.add hfresh hfree ((Same.refl w).but _) rfl ⟨b, arr, et, rup_same _ _ _, q2, q3, q4, fun i c v hc hv => ?_⟩, fun i y hy => ?_, fun i o b2 hi hb => ?_, fun j sl hj => ?_, by simp [objSlots, g5], fun i hi => ?_⟩
      · have hv' := q5 i c v hc hv
        simp only [List.getElem?_map, Option.map_eq_some_iff] at hc
        obtain ⟨q, _, rfl⟩ := hc
        cases hv' with
        | pv hpv => exact .pv (hpv.ext (Iadds.ext (ρ := ρ) ids'))
      · cases i with
        | zero =>
          simp at hy; subst hy
          simp only [enterE, Nat.add_zero, upd, if_true]
          exact .ptr (rup_same _ _ _)
        | succ i =>
          have := g2 i y (by simpa using hy)
          simp only [enterE, upd]
          rw [if_neg (by omega), show st + (i + 1) = st + 1 + i by omega]
          exact this.mono (fun _ h => h) (fun _ _ => rfl) fun j lj hj => by
            by_cases e : j = st
            · subst e; rw [g1.used _ hfresh] at hj; cases hj
            · rwa [rup_ne e]
      · by_cases e : i = st
        · subst e
          rw [rup_same] at hb
          exact ⟨id, by simp, by rw [hρ]; exact hb⟩
        · rw [rup_ne e] at hb
          simp only [enterH] at hi
          rw [hup_ne e] at hi
          obtain ⟨id', hid', hb'⟩ := g3 i o b2 hi hb
          exact ⟨id', by simp [hid'], hb'⟩
      · cases j with
        | zero =>
          simp [objSlots] at hj
          subst hj
          exact ⟨id, rfl, by rw [rup_same, hρ]⟩
        | succ j =>
          have hj' : (objSlots (st + 1) as)[j]? = some sl := by simpa [objSlots] using hj
          obtain ⟨id', h1', h2'⟩ := g4 j sl hj'
          refine ⟨id', by simpa using h1', ?_⟩
          have : sl ≠ st := by
            have lb : ∀ (as : List Arg) (s j sl : Nat), (objSlots s as)[j]? = some sl → s ≤ sl := by
              intro as
              induction as with
              | nil => intro s j sl h; simp [objSlots] at h
              | cons a as ih =>
                intro s j sl h
                cases a with
                | obj cs =>
                  cases j with
                  | zero => simp [objSlots] at h; omega
                  | succ j => have := ih (s + 1) j sl (by simpa [objSlots] using h); omega
                | _ => have := ih (s + 1) j sl (by simpa [objSlots] using h); omega
            have := lb as (st + 1) j sl hj'
            omega
          rw [rup_ne this]; exact h2'
      · rw [rup_ne (by omega)]; exact g6 i (by omega)
end
end Go.Proofs.Ytkeipmkiilimeaa.V
set_option linter.unusedSimpArgs false
namespace Go.Proofs.Ytkeipmkiilimeaa.V
open Go
section
variable {X : Ctx} {I : Nat → Prop} {ρ : Rho} {h : Heap} {w : World} {P : Program} {call : Call}
theorem ArgsInv.lent {avs : List (AV × Md)} {xs : List Value} {as : List Arg} {ids os us : List Nat} (ha : ArgsInv I ρ w h avs xs as ids os us) : Lent h ids := by
  induction ha with
  | nil => simp [Lent]
  | pv hl _ _ ih => intro i hi; rcases List.mem_append.1 hi with hi | hi; exact hl i hi; exact ih i hi
  | own _ _ _ ih => exact ih
  | obj _ _ _ ih => exact ih
theorem ArgsInv.len {avs : List (AV × Md)} {xs : List Value} {as : List Arg} {ids os us : List Nat} (ha : ArgsInv I ρ w h avs xs as ids os us) : as.length = xs.length := by
  induction ha with
  | nil => rfl
  | pv _ _ _ ih => simp [ih]
  | own _ _ _ ih => simp [ih]
  | obj _ _ _ ih => simp [ih]
theorem ArgsInv.mutables {avs : List (AV × Md)} {xs : List Value} {as : List Arg} {ids os us : List Nat} (ha : ArgsInv I ρ w h avs xs as ids os us) : ∀ id ∈ us, ∃ o, h id = some (some o) ∧ o.mutable = true := by
  induction ha with
  | nil => simp
  | pv _ _ _ ih => exact ih
  | own hl _ _ ih => intro i hi; rcases List.mem_cons.1 hi with rfl | hi; exact ⟨_, hl, rfl⟩; exact ih i hi
  | obj hl _ _ ih => intro i hi; rcases List.mem_cons.1 hi with rfl | hi; exact ⟨_, hl, rfl⟩; exact ih i hi
theorem ContRep.ints_any {J : Nat → Prop} {b base : Nat} {k : IntKind} {l : List Int} (h : ContRep I w b base (.ints k l)) : ContRep J w b base (.ints k l) := h
/-- A result that is flat does not depend on what is written no more. -/
theorem own_flat {J : Nat → Prop} {ρ' : Rho} {i : Nat} {p : PV} (hf : AR.flat (.own p) = true) (ho : ORel I w ρ' i (.row p true)) : ORel J w ρ' i (.row p true) := by
  cases p with
  | ints k l =>
    rcases ho with ho | ⟨b, base, n, cap, arr, e, lo, hi, h1, h2, h3, h4, h5, h6, h7, h8⟩
    · exact .inl ho
    · exact .inr ⟨b, base, n, cap, arr, e, lo, hi, h1, h2, h3, h4, h5, h6, h7, fun h => by cases h⟩
  | _ => cases hf
theorem one_or_many {J : Nat → Prop} {rs : List AR} {vs : List Value} (hlen : vs.length = rs.length) (h1 : ∀ x a, rs[0]? = some a → vs[0]? = some x → VRel J w ρ (resAV a) x) (h2 : VRel J w ρ (.tup (rs.map resAV)) (.tuple vs.toArray)) :
    VRel J w ρ (match rs.map resAV with | [r] => r | rs => .tup rs) (retVal vs) := by
  match rs, vs, hlen with
  | [], [], _ => exact h2
  | [a], [x], _ => exact h1 x a rfl rfl
  | _ :: _ :: _, _ :: _ :: _, _ => exact h2
theorem after_call {Ic I' J0 : Nat → Prop} {Iq M : Nat → Prop} {hc : Heap} {w' : World} {ρr : Rho} {rs : List AR} {vs : List Value} (rc : SRel X Ic ρ hc w) (sr : SRel ⟨w.heap.size, M, Iq, w⟩ I' ρr (retH 0 rs) w')
    (hMf : ∀ b, M b → ¬ Ic b ∧ (X.B ≤ b ∨ X.M b) ∧ ∀ j oj, hc j = some (some oj) → (ρ j).bind RL.blk ≠ some b) (hJ1 : ∀ b, Ic b → J0 b) (hJ2 : ∀ b, J0 b → I' b) (hJ3 : ∀ b, J0 b → Ic b ∨ w.heap.size ≤ b ∨ M b)
    (hlen : vs.length = rs.length) (hpv : ∀ (i : Nat) (p : PV) (x : Value), rs[i]? = some (.pv p) → vs[i]? = some x → PRep J0 w' p x) (hown : ∀ (i : Nat) (p : PV), rs[i]? = some (.own p) → ORel J0 w' ρr i (.row p true)) (hownv : ∀ (i : Nat) (p : PV) (x : Value), rs[i]? = some (.own p) → vs[i]? = some x → VRel J0 w' ρr (.row i none) x)
    {d : Nat} {own : Bool} {v : AV} {h' : Heap} (e : (callRet d own rs).run call hc = some (v, h')) : Out X Ic ρ w v h' (retVal vs) w' := by
  have ownAt : ∀ i p, rs[i]? = some (.own p) → retH 0 rs i = some (some (.row p true)) := fun i p hi => by have := retH_at rs 0 i _ hi; simpa using this
  have hmut : ∀ i p b, rs[i]? = some (.own p) → (ρr i).bind RL.blk = some b → ¬ I' b ∧ (w.heap.size ≤ b ∨ M b) ∧ b < w'.heap.size := by
    intro i p b hi hb
    have h1 := ownAt i p hi
    exact ⟨(sr.muts i _ b h1 rfl hb).1, (sr.muts i _ b h1 rfl hb).2, (sr.objs i _ h1).blk_lt hb⟩
  have frame : ∀ J : Nat → Prop, (∀ b, J0 b → J b) → (∀ b, J b → J0 b ∨ ∃ i p, rs[i]? = some (.own p) ∧ (ρr i).bind RL.blk = some b) → SRel X J ρ hc w' ∧ Ext Ic ρ w J ρ w' := by
    intro J j1 j2
    refine rc.frame sr.keep sr.size sr.os sr.tape sr.output hMf (fun b hb => j1 b (hJ1 b hb)) fun b hb => ?_
    rcases j2 b hb with h0 | ⟨i, p, hi, hb'⟩
    · exact ⟨(sr.inI b (hJ2 b h0)).1, hJ3 b h0⟩
    · obtain ⟨m1, m2, m3⟩ := hmut i p b hi hb'
      exact ⟨m3, .inr m2⟩
  -- plain results
  have plain : (v, h') = ((match rs.map resAV with | [r] => r | rs => .tup rs), hc) → Out X Ic ρ w v h' (retVal vs) w' := by
    intro he
    cases he
    obtain ⟨rf, ex⟩ := frame (fun b => J0 b ∨ ∃ i p, rs[i]? = some (.own p) ∧ (ρr i).bind RL.blk = some b) (fun b h => .inl h) (fun b h => h)
    have each : ∀ (i : Nat) (x : Value) (a : AR), rs[i]? = some a → vs[i]? = some x → VRel (fun b => J0 b ∨ ∃ i p, rs[i]? = some (.own p) ∧ (ρr i).bind RL.blk = some b) w' ρ (resAV a) x := by
      intro i x a ha hx
      cases a with
      | pv p => exact .pv ((hpv i p x ha hx).mono (fun _ h => .inl h) fun _ _ => rfl)
      | own p =>
        refine .pv ?_
        rcases hown i p ha with ⟨h1, h2, h3⟩ | ⟨b, base, n, cap, arr, e, lo, hi, h1, h2, h3, h4, h5, h6, h7, h8⟩
        · have hv := hownv i p x ha hx
          cases hv with
          | row0 _ => exact prep_empty_nil h3 h2
          | row hρ _ => rw [h1] at hρ; cases hρ
        · have hv := hownv i p x ha hx
          cases hv with
          | row0 hρ => rw [h1] at hρ; cases hρ
          | row hρ hl =>
            rw [h1] at hρ; cases hρ
            exact prep_slice (.inr ⟨i, p, ha, by rw [h1]; rfl⟩) h4 (h6.mono (fun _ h => .inl h) (fun _ _ => rfl) rfl)
      | obj cs => exact .bad _
    refine ⟨_, ρ, ex, rf, ?_⟩
    have tup : VRel (fun b => J0 b ∨ ∃ i p, rs[i]? = some (.own p) ∧ (ρr i).bind RL.blk = some b) w' ρ (.tup (rs.map resAV)) (.tuple vs.toArray) := by
      refine .tup _ _ (by simp [hlen]) fun i c x hc hx => ?_
      simp only [List.getElem?_map, Option.map_eq_some_iff] at hc
      obtain ⟨a, ha, rfl⟩ := hc
      exact each i x a ha (by simpa using hx)
    exact one_or_many hlen (fun x a h1 h2 => each 0 x a h1 h2) tup
  unfold callRet at e
  split at e
  · rename_i p
    obtain ⟨hid, e⟩ := new_inv e
    cases ret_inv e
    match vs, hlen with
    | [x], _ =>
    obtain ⟨rf, ex⟩ := frame J0 (fun b h => h) (fun b h => .inl h)
    have ho := hown 0 p rfl
    have hv := hownv 0 p x rfl rfl
    rcases ho with ⟨h1, h2, h3⟩ | ⟨b, base, n, cap, arr, e, lo, hi, h1, h2, h3, h4, h5, h6, h7, h8⟩
    · have f : Free X J0 ρ hc w' (RL.blk .nil) := fun b e => by cases e
      have ex' : Ext J0 ρ w' J0 (rup ρ d .nil) w' := rf.butExt hid f ((Same.refl w').but _)
      refine ⟨J0, rup ρ d .nil, ex.trans ex', rf.add hid f ((Same.refl w').but _) rfl (.inl ⟨rup_same _ _ _, h2, h3⟩), ?_⟩
      cases hv with
      | row0 _ => exact .row0 (rup_same _ _ _)
      | row hρ _ => rw [h1] at hρ; cases hρ
    · obtain ⟨m1, m2, m3⟩ := hmut 0 p b rfl (by rw [h1]; rfl)
      have f : Free X J0 ρ hc w' (RL.blk (.row b base n cap p.len)) := by
        intro b' hb'
        cases hb'
        refine .inr ⟨fun h => m1 (hJ2 b h), ?_, fun j oj hj hb => ?_⟩
        · rcases m2 with m2 | m2
          · exact .inl (Nat.le_trans rc.size m2)
          · exact (hMf b m2).2.1
        · rcases m2 with m2 | m2
          · exact absurd ((rc.objs j oj hj).blk_lt hb) (Nat.not_lt.2 m2)
          · exact (hMf b m2).2.2 j oj hj hb
      have out := addRow (id := d) rf hid f ((Same.refl w').but _) h2 h3 h4 h5 h6 (h7 rfl)
      have hx : x = .slice (some ⟨b, base, none⟩) p.len cap := by
        cases hv with
        | row0 hρ => rw [h1] at hρ; cases hρ
        | row hρ _ => rw [h1] at hρ; cases hρ; rfl
      subst hx
      exact Out.of ex out
  · rename_i a
    cases ret_inv e
    exact plain rfl
  · rename_i hne1 hne2
    cases ret_inv e
    refine plain ?_
    match rs, hne1 with
    | [], _ => rfl
    | [a], hne1 => exact (hne1 a rfl).elim
    | _ :: _ :: _, _ => rfl
theorem call_sound (hcall : CallOK P call) {f nres d : Nat} {own : Bool} {avs : List (AV × Md)} {xs : Array Value} (r : SRel X I ρ h w) (hl : avs.length = xs.size) (hv : ∀ (i : Nat) (v : AV × Md) (x : Value), avs[i]? = some v → xs[i]? = some x → VRel I w ρ v.1 x) {v : AV} {h' : Heap}
    (e : (argsK avs (callGo d f nres own)).run call h = some (v, h')) : Calls P (f % 100000) xs w fun e w' => ∃ x, e = .returned x ∧ Out X I ρ w v h' x w' := by
  obtain ⟨as, ids, os, us, e, ha⟩ := args_inv r (xs := xs.toList) (by simpa using hl) (fun i v x h1 h2 => hv i v x h1 (by simpa using h2)) e
  unfold callGo at e
  obtain ⟨hnd, e⟩ := chk_inv e
  obtain ⟨hdis, e⟩ := chk_inv e
  have hdis : ∀ i ∈ ids, i ∉ us := fun i hi => by
    have := List.all_eq_true.1 hdis i hi
    simpa using this
  obtain ⟨e, _⟩ := dels_run e
  obtain ⟨rs, hrs, e⟩ := kb_inv (show kb (call f as) _ = _ from e)
  have hlent := ha.lent
  obtain ⟨ρ0, g1, g2, _, g4, g5, _⟩ := args_given r hlent hdis (M := fun b => ∃ id ∈ us, (ρ id).bind RL.blk = some b) (fun _ => Iff.rfl) ha (fun _ h => h) (fun _ h => h) hnd 0
  have hal := ha.len
  refine (hcall f as rs hrs _ _ ρ0 w xs g1 (by rw [hal]; simp) fun i hi => ?_).mono ?_
  · have hlt : i < xs.size := by rw [hal] at hi; simpa using hi
    have := g2 i xs[i] (by simp [hlt])
    rw [Nat.zero_add] at this
    simpa [Array.getD, hlt] using this
  · rintro en w' ⟨x, rfl, I', ρr, vs, rfl, hlen, sr, hres, _⟩
    refine ⟨_, rfl, ?_⟩
    unfold callBack at e
    obtain ⟨hos, e1⟩ := chk_inv e
    obtain ⟨hnr, e2⟩ := chk_inv e1
    clear e e1
    have hos : os = [] := by simpa using hos
    subst hos
    have e := e2
    clear e2
    have hobj : (objSlots 0 as).length = 0 := by rw [← g5]; rfl
    have hlen : vs.length = rs.length := by omega
    have r1 : SRel X I ρ (delH us h) w := r.dels ha.live
    have hMf : ∀ b, (∃ id ∈ us, (ρ id).bind RL.blk = some b) → ¬ I b ∧ (X.B ≤ b ∨ X.M b) ∧ ∀ j oj, delH us h j = some (some oj) → (ρ j).bind RL.blk ≠ some b := by
      rintro b ⟨id, hid, hb⟩
      obtain ⟨o, ho, hm⟩ := ha.mutables id hid
      refine ⟨(r.muts id o b ho hm hb).1, (r.muts id o b ho hm hb).2, fun j oj hj hb' => ?_⟩
      unfold delH at hj
      split at hj
      · cases hj
      · rename_i hju
        exact hju (r.sep j id oj o b hj ho hb' hb ▸ hid)
    have retAt : ∀ i p, rs[i]? = some (.own p) → retH 0 rs i = some (some (.row p true)) := fun i p hi => by have := retH_at rs 0 i _ hi; simpa using this
    have hpv : ∀ (i : Nat) (p : PV) (x : Value), rs[i]? = some (.pv p) → vs[i]? = some x → PRep I' w' p x := fun i p x hi hx => by
      have := hres i _ x hi hx
      have e0 := retE_at rs 0 i _ hi
      rw [Nat.zero_add] at e0
      rw [e0] at this
      cases this with
      | pv h => exact h
    have hownv : ∀ (i : Nat) (p : PV) (x : Value), rs[i]? = some (.own p) → vs[i]? = some x → VRel I' w' ρr (.row i none) x := fun i p x hi hx => by
      have := hres i _ x hi hx
      have e0 := retE_at rs 0 i _ hi
      rw [Nat.zero_add] at e0
      rwa [e0] at this
    have rowAny : ∀ {J : Nat → Prop} {i : Nat} {x : Value}, VRel I' w' ρr (.row i none) x → VRel J w' ρr (.row i none) x := by
      intro J i x hx
      cases hx with
      | row0 h => exact .row0 h
      | row h hl => exact .row h hl
    rcases kif_some (show kif _ _ _ = _ from e) with ⟨hflat, e⟩ | ⟨hflat, e⟩
    · by_cases hids : ids = []
      · subst hids
        have hI : Iadds I ρ [] = I := funext fun b => by simp [Iadds]
        rw [hI] at sr
        exact after_call r1 sr hMf (fun b h => sr.i0 b h) (fun b h => h) (fun b h => (sr.inI b h).2) hlen hpv (fun i p hi => sr.objs i _ (retAt i p hi)) hownv e
      · have hall : rs.all AR.flat = true := by
          simp only [Bool.or_eq_true, List.isEmpty_iff] at hflat
          exact hflat.resolve_left hids
        have hf : ∀ (i : Nat) (a : AR), rs[i]? = some a → a.flat = true := fun i a hi => List.all_eq_true.1 hall a (List.mem_of_getElem? hi)
        refine after_call (J0 := I) r1 sr hMf (fun b h => h) (fun b h => sr.i0 b (.inl h)) (fun b h => .inl h) hlen (fun i p x hi hx => (hpv i p x hi hx).flat (hf i _ hi)) (fun i p hi => own_flat (hf i _ hi) (sr.objs i _ (retAt i p hi))) (fun i p x hi hx => rowAny (hownv i p x hi hx)) e
    · obtain ⟨e, hsh⟩ := shuts_run e
      have r2 := r1.shuts hsh
      have hMf2 : ∀ b, (∃ id ∈ us, (ρ id).bind RL.blk = some b) → ¬ Iadds I ρ ids b ∧ (X.B ≤ b ∨ X.M b) ∧ ∀ j oj, shutH ids (delH us h) j = some (some oj) → (ρ j).bind RL.blk ≠ some b := by
        intro b hb
        obtain ⟨m1, m2, m3⟩ := hMf b hb
        have noId : ∀ i ∈ ids, (ρ i).bind RL.blk ≠ some b := by
          intro i hi
          obtain ⟨c, m, hc⟩ := hsh i hi
          exact m3 i _ hc
        refine ⟨fun h => h.elim m1 fun ⟨i, hi, hb'⟩ => noId i hi hb', m2, fun j oj hj hb' => ?_⟩
        unfold shutH at hj
        split at hj
        · exact noId j ‹_› hb'
        · exact m3 j oj hj hb'
      exact Out.of (Iadds.ext ids) (after_call (call := call) r2 sr hMf2 (fun b h => sr.i0 b h) (fun b h => h) (fun b h => (sr.inI b h).2) hlen hpv (fun i p hi => sr.objs i _ (retAt i p hi)) hownv e)
end
end Go.Proofs.Ytkeipmkiilimeaa.V
set_option linter.unusedSimpArgs false
namespace Go.Proofs.Ytkeipmkiilimeaa.V
open Go
section
variable {X : Ctx} {I : Nat → Prop} {ρ : Rho} {h : Heap} {w : World} {P : Program} {call : Call}
theorem appz_sound {qs : List PV} {t tx ty e : TypeId} {n : Nat} {k : Option IntKind} {kn : IntKind} (ht : elemT P t = some (e, n, k)) {z : PV} (hz : zeroOf P qs e k = some z) (hk : P.underlying tx = some (.int kn)) {x y : AV} {xv yv : Value} (r : SRel X I ρ h w) (hx : VRel I w ρ x xv) (hy : VRel I w ρ y yv) {d : Nat} {v : AV} {h' : Heap}
    (er : (appzK d n k z x y).run call h = some (v, h')) : SOut P (Builtin.append_ #[t, tx] ty #[xv, yv]) X I ρ w v h' := by
  obtain ⟨i, g1, g2, gb, g3, g4, _, g5⟩ := elemT_inv ht
  have hn : sizeT P e = some n := by simp [sizeT, g2, g3]
  obtain ⟨zs, hzs, z1, z2, z3⟩ := zeroOf_spec hn g5 hz
  obtain ⟨zv, y1, y2, y3, y4, y5⟩ := zero_run hzs
  have hzi : ∃ z', i.zero = some z' ∧ z'.cells.size = i.size ∧ z' = zv := by
    have := hzs
    simp only [zeroPV, Option.bind_eq_some_iff] at this
    obtain ⟨i', hi', z', hz', hc⟩ := this
    rw [g2] at hi'; cases hi'
    split at hc
    · refine ⟨z', hz', ‹_›, ?_⟩
      have := y1 w
      simp [zeroValue, typeInfo, g2, hz'] at this
      exact this
    · cases hc
  obtain ⟨z', hz', hzsz, rfl⟩ := hzi
  have hone : ∀ u ∈ z'.cells, u.oneCell' = true := by
    intro u hu
    obtain ⟨j, hj, rfl⟩ := Array.mem_iff_getElem.1 hu
    have hj' : j < zs.length := by omega
    exact prep_one (y5 I w j zs[j] _ (List.getElem?_eq_getElem hj') (Array.getElem?_eq_getElem hj)) (y4 _ (List.getElem_mem _))
  unfold appzK at er
  split at er
  · rename_i k1 l
    obtain ⟨h0, er⟩ := chk_inv er
    obtain ⟨h1, er⟩ := chk_inv er
    have h0 : 0 ≤ l := by simpa using h0
    have h1 : l < 4294967296 := by have h1 := of_decide_eq_true h1; simp only [big] at h1; omega
    cases hy with
    | pv hy =>
      cases hy.int_inv
      obtain ⟨s1, s2, s3, s4⟩ := z3 l.toNat
      refine appK_sound ht (by rw [hzs]; rfl) r hx er fun _ => ⟨.inr s2, (Builtin.zeroCells z'.cells l.toNat).toList, fun i' hi' => ?_, fun j hj => ?_⟩
      · rw [g2] at hi'; cases hi'
        have := zeros_feed (P := P) (w := w) (e := e) (k1 := k1) (l := l.toNat) hk g2 hz' hzsz gb (by omega) hone
        rw [s3]
        rwa [Int.toNat_of_nonneg h0] at this
      · rw [s3] at hj
        rw [s4 j hj]
        refine ⟨z1, z2, fun q p hp => ?_⟩
        have hq : q < n := by rw [← z1]; exact (List.getElem?_eq_some_iff.1 hp).1
        have hmul := mul_lt (n := n) hj (Nat.le_refl l.toNat)
        have hzn : z'.cells.size = n := by rw [hzsz, g3]
        refine ⟨z'.cells[q]'(by omega), ?_, y5 I _ q p _ hp (Array.getElem?_eq_getElem (by omega))⟩
        have hmod : (j * n + q) % z'.cells.size = q := by rw [hzn, Nat.mul_comm, Nat.mul_add_mod, Nat.mod_eq_of_lt hq]
        rw [List.getElem?_eq_getElem (by simp [size_zeroCells, hzn]; omega)]
        simp only [Builtin.zeroCells, Array.getElem_toList, Array.getElem_map, Array.getElem_range, hmod]
        rw [getElem!_pos z'.cells q (by omega)]
  · exact (fail_inv er).elim
theorem range_sound {t : TypeId} (ht : P.underlying t = some .string) {x : AV} {xv : Value} (r : SRel X I ρ h w) (hx : VRel I w ρ x xv) {d : Nat} {v : AV} {h' : Heap} (e : (rangeK d x).run call h = some (v, h')) :
    SOut P (Instr.range t xv) X I ρ w v h' := by
  unfold rangeK at e
  split at e
  · rename_i s
    obtain ⟨hid, e⟩ := new_inv e
    cases ret_inv e
    cases hx with
    | pv hp =>
      cases hp with
      | str bs =>
        have ex : Ext I ρ w I (rup ρ d (.obj w.heap.size)) { w with heap := w.heap.push (.stringIter bs 0) } := r.butExt hid (free_new X I ρ h w) (push_but w _)
        refine ⟨.pointer (some ⟨w.heap.size, 0, none⟩), { w with heap := w.heap.push (.stringIter bs 0) }, ?_, I, rup ρ d (.obj w.heap.size), ex, r.add hid (free_new X I ρ h w) (push_but w _) rfl ?_, .iter (rup_same _ _ _)⟩
        · unfold Instr.range
          simp only [Sem.run_bind, run_underlying ht, Result.andThen_ok, Sem.run_pure]
          rfl
        · exact ⟨w.heap.size, bs, rup_same _ _ _, push_at w _, rfl⟩
  · exact (fail_inv e).elim
theorem next_sound {x : AV} {xv : Value} {ty : TypeId} (r : SRel X I ρ h w) (hx : VRel I w ρ x xv) {v : AV} {h' : Heap} (e : (nextK x).run call h = some (v, h')) :
    SOut P (Instr.next xv true ty) X I ρ w v h' := by
  unfold nextK at e
  split at e
  · rename_i id
    obtain ⟨o, hid, e⟩ := get_inv e
    unfold nextIter at e
    split at e
    · rename_i s pos
      cases hx with
      | iter hρ =>
        rename_i b
        obtain ⟨b', t, g1, g2, g3⟩ := r.objs id _ hid
        rw [hρ] at g1; cases g1
        have hsz : s.length = t.size := by rw [← g3, Array.length_toList]; rfl
        have ht : (⟨s.toArray⟩ : ByteArray) = t := by rw [← g3]
        rcases kif_some (show kif _ _ _ = _ from e) with ⟨hc, e⟩ | ⟨hc, e⟩
        · have hlt : pos < t.size := by rw [← hsz]; exact of_decide_eq_true hc
          obtain ⟨_, e⟩ := put_inv e
          cases ret_inv e
          rw [ht]
          have hbl : b < w.heap.size := (Array.getElem?_eq_some_iff.1 g2).1
          generalize hw : ({ w with heap := w.heap.setIfInBounds b (.stringIter t (pos + (Utf8.decode t pos).2)) } : World) = w'
          have hat : w'.heap[b]? = some (.stringIter t (pos + (Utf8.decode t pos).2)) := by
            subst hw
            show (w.heap.setIfInBounds b _)[b]? = _
            rw [Array.getElem?_setIfInBounds_self_of_lt hbl]
          have but : But w w' (some b) := by
            subst hw
            exact ⟨fun b' hb' hne => by
              have : b ≠ b' := fun h => hne (by rw [h])
              show (w.heap.setIfInBounds b _)[b']? = _
              rw [Array.getElem?_setIfInBounds_ne this], by show _ ≤ (w.heap.setIfInBounds b _).size; rw [Array.size_setIfInBounds]; exact Nat.le_refl _, rfl, rfl, rfl⟩
          obtain ⟨r', ex⟩ := r.put (w' := w') (o' := .iter s (pos + (Utf8.decode t pos).2)) hid rfl rfl (by rw [hρ]; exact but) ⟨b, t, hρ, hat, g3⟩
          refine ⟨.tuple #[.bool true, .int .i64 pos, .int .i32 (Utf8.decode t pos).1], w', ?_, I, ρ, ex, r', ?_⟩
          · subst hw
            simp only [Instr.next, getObj, setObj, Sem.run_bind, Sem.run, g2, Result.andThen, hlt, if_true]
            simp [goInt, Sem.run, g2]
          · refine .tup _ _ rfl fun i c y hc hy => ?_
            match i with
            | 0 => simp at hc hy; subst hc; subst hy; exact .pv (.bool _)
            | 1 => simp at hc hy; subst hc; subst hy; exact .pv (.int _ _)
            | 2 => simp at hc hy; subst hc; subst hy; exact .pv (.int _ _)
            | i + 3 => simp at hc
        · have hge : ¬ pos < t.size := by rw [← hsz]; simpa using hc
          cases ret_inv e
          refine ⟨.tuple #[.bool false], w, ?_, .same r ?_⟩
          · simp [Instr.next, getObj, Sem.run, g2, hge]
          · refine .tup _ _ rfl fun i c y hc hy => ?_
            match i with
            | 0 => simp at hc hy; subst hc; subst hy; exact .pv (.bool _)
            | i + 1 => simp at hc
    · exact (fail_inv e).elim
  · exact (fail_inv e).elim
end
theorem idxB_eq (c : UInt8) : ∀ (l : List UInt8) (i : Nat), idxB c l i = if Lib.indexByte l c = -1 then -1 else Lib.indexByte l c + i
  | [], i => by simp [idxB, Lib.indexByte]
  | b :: l, i => by
    unfold idxB Lib.indexByte
    rw [idxB_eq c l (i + 1)]
    have hge := Lib.indexByte_ge l c
    cases hb : b == c
    · simp only [cond_false, Bool.false_eq_true, if_false, beq_iff_eq]
      split
      · simp
      · rw [if_neg (by omega)]; omega
    · simp
theorem idxb_next : (Extern.allNextRows.lookup "internal/bytealg.IndexByteString").isNone = true ∧ (Extern.allNextRows.lookup "").isNone = true := by
  constructor <;> kernel_rfl
theorem idxb_find : (Extern.allGenericRows.lookup "internal/bytealg.IndexByteString").isNone = true ∧ (Extern.allTypedRows.lookup "internal/bytealg.IndexByteString").isNone = true ∧ Extern.allRows.lookup "internal/bytealg.IndexByteString" = some Extern.BytealgIndexByte.indexByte := by
  refine ⟨?_, ?_, ?_⟩ <;> kernel_rfl
section
variable {X : Ctx} {I : Nat → Prop} {ρ : Rho} {h : Heap} {w : World} {P : Program} {call : Call}
theorem idxb_sound {f : FuncId} {fn : Func} (hf : P.funcs[f]? = some fn) (hb : fn.body.isNone = true) (hn : fn.name = "internal/bytealg.IndexByteString") (ho : fn.origin = "") {x y : AV} {xv yv : Value} (r : SRel X I ρ h w) (hx : VRel I w ρ x xv) (hy : VRel I w ρ y yv) {v : AV} {h' : Heap}
    (e : (idxbK x y).run call h = some (v, h')) : ∃ z, (callFunc f #[xv, yv]).run P w = .ok (.value z) w ∧ Out X I ρ w v h' z w := by
  unfold idxbK at e
  split at e
  · rename_i s c
    cases ret_inv e
    cases hx with
    | pv hx => cases hy with
      | pv hy =>
        cases hy.int_inv
        cases hx with
        | str bs =>
          refine ⟨.int .i64 (Lib.indexByte bs.data.toList c.toNat.toUInt8), ?_, .same r (.pv ?_)⟩
          · have h1 : (fn.name == "runtime.NumGoroutine") = false := by rw [hn]; decide
            have h2 : Extern.findNext fn = none := by
              unfold Extern.findNext
              simp only [hn, ho]
              obtain ⟨g1, g2⟩ := idxb_next
              rw [Option.isNone_iff_eq_none.1 g1, Option.isNone_iff_eq_none.1 g2]
              rfl
            have h3 : Extern.find fn = some Extern.BytealgIndexByte.indexByte := by
              unfold Extern.find
              simp only [hn]
              obtain ⟨g1, g2, g3⟩ := idxb_find
              rw [Option.isNone_iff_eq_none.1 g1, Option.isNone_iff_eq_none.1 g2, g3]
              rfl
            rw [run_callFunc_extern hf h1 hb h2 h3, Lib.run_indexByteString]
            rfl
          · rw [idxB_eq]
            split
            · rw [‹Lib.indexByte _ _ = -1›]; exact .int _ _
            · rw [show ∀ z : Int, z + ((0 : Nat) : Int) = z from fun z => by omega]; exact .int _ _
  · exact (fail_inv e).elim
end
end Go.Proofs.Ytkeipmkiilimeaa.V
set_option linter.unusedSimpArgs false
namespace Go.Proofs.Ytkeipmkiilimeaa.V
open Go
/-- What an operation comes to: a value, nothing, or a call that yields a value. -/
def Does (P : Program) (s : Sem Next) (w : World) (R : Value → World → Prop) : Prop :=
  (∃ v w', s.run P w = .ok (.value v) w' ∧ R v w') ∨ (∃ w', s.run P w = .ok .skip w' ∧ R undef w') ∨
    ∃ f args, s.run P w = .ok (.enter f args) w ∧ Calls P f args w fun e w' => ∃ v, e = .returned v ∧ R v w'
theorem Does.wp {P : Program} {o : Oper} {a : Act} {w : World} {R : Value → World → Prop} {next : Act → World → Prop} {Q : Exit → Act → World → Prop} (h : Does P (execOp a.eval o) w R) (hn : ∀ v w', R v w' → next (a.put o.dst v) w') : o.wp P a w next Q := by
  unfold Oper.wp
  rcases h with ⟨v, w', e, hr⟩ | ⟨w', e, hr⟩ | ⟨f, args, e, hc⟩
  · rw [e]; exact hn v w' hr
  · rw [e]; exact hn undef w' hr
  · rw [e]
    refine Calls.mono hc fun en w'' ⟨v, he, hr⟩ => ?_
    subst he
    exact hn v w'' hr
section
variable {X : Ctx} {I : Nat → Prop} {ρ : Rho} {h : Heap} {w : World} {P : Program} {call : Call}
theorem SOut.does {s : Sem Value} {v : AV} {h' : Heap} (h : SOut P s X I ρ w v h') : Does P (do pure (.value (← s))) w (Out X I ρ w v h') := by
  obtain ⟨x, w', e, ho⟩ := h
  exact .inl ⟨x, w', by simp only [Sem.run_bind, e, Result.andThen_ok, Sem.run_pure], ho⟩
theorem UOut.does {s : Sem Unit} {v : AV} {h' : Heap} (h : UOut P s X I ρ w v h') : Does P (do s; pure .skip) w (Out X I ρ w v h') := by
  obtain ⟨w', e, ho⟩ := h
  exact .inr (.inl ⟨w', by simp only [Sem.run_bind, e, Result.andThen_ok, Sem.run_pure], ho⟩)
theorem trO_rep {x : Option Operand} {y : Option AOpd} (e : trO x = some y) {env : Env} {a : Act} (he : ERel I w ρ env a.tmps) :
    (y.map (opd env) = none ∧ x.map a.eval = none) ∨ ∃ b z, y.map (opd env) = some b ∧ x.map a.eval = some z ∧ VRel I w ρ b z := by
  cases x with
  | none => cases e; exact .inl ⟨rfl, rfl⟩
  | some x =>
    simp only [trO, Option.map_eq_some_iff] at e
    obtain ⟨b, hb, rfl⟩ := e
    exact .inr ⟨_, _, rfl, rfl, trOpd_rep hb he⟩
theorem trArgs_rep {env : Env} {a : Act} (he : ERel I w ρ env a.tmps) : ∀ {xs : List Operand} {ms ys : List (AOpd × Md)}, trArgs xs ms = some ys → ys.length = xs.length ∧ ∀ (i : Nat) (y : AOpd × Md) (x : Operand), ys[i]? = some y → xs[i]? = some x → VRel I w ρ (opd env y.1) (a.eval x)
  | [], ms, ys, e => by cases e; exact ⟨rfl, by simp⟩
  | x :: r, ms, ys, e => by
    simp only [trArgs, Option.bind_eq_some_iff, Option.map_eq_some_iff] at e
    obtain ⟨y, hy, zs, hz, rfl⟩ := e
    obtain ⟨h1, h2⟩ := trArgs_rep he hz
    refine ⟨by simp [h1], fun i y' x' hy' hx' => ?_⟩
    cases i with
    | zero => simp at hy' hx'; subst hy'; subst hx'; exact trOpd_rep hy he
    | succ i => exact h2 i y' x' (by simpa using hy') (by simpa using hx')
theorem isRowT_inv {t : TypeId} (h : isRowT P t = true) : (∃ e', P.underlying t = some (.slice e')) ∨ P.underlying t = some .string := by
  unfold isRowT at h
  split at h
  · exact .inr ‹_›
  · exact .inl ⟨_, ‹_›⟩
  · cases h
theorem list1 {α : Type} {a : Array α} {x : α} (h : a.toList = [x]) : a = #[x] := by rw [← Array.toArray_toList (xs := a), h]
theorem list2 {α : Type} {a : Array α} {x y : α} (h : a.toList = [x, y]) : a = #[x, y] := by rw [← Array.toArray_toList (xs := a), h]
/-- A builtin's run is the run of its own semantics. -/
theorem builtin_does {a : Act} {o : Oper} {c : Go.Call} {b : Builtin} (ho : o.op = .call c) (hc : c.callee = .builtin b) {s : Sem Value} {v : AV} {h' : Heap}
    (hb : builtin b c.argTypes o.type (c.args.map fun | .const _ => true | _ => false) (c.args.map a.eval) = (do pure (.value (← s)))) (h : SOut P s X I ρ w v h') : Does P (execOp a.eval o) w (Out X I ρ w v h') := by
  have : execOp a.eval o = (do pure (.value (← s))) := by
    unfold execOp
    rw [ho]
    simp only [resolve, hc]
    exact hb
  rw [this]
  exact h.does
theorem callee_does {a : Act} {o : Oper} {c : Go.Call} {f : FuncId} (ho : o.op = .call c) (hc : c.callee = .value (.func f)) (hf : (P.funcs[f]?).any (fun fn => fn.body.isSome && fn.name != "runtime.NumGoroutine") = true) {R : Value → World → Prop}
    (h : Calls P f (c.args.map a.eval) w fun e w' => ∃ v, e = .returned v ∧ R v w') : Does P (execOp a.eval o) w R := by
  refine .inr (.inr ⟨f, c.args.map a.eval, ?_, h⟩)
  have : execOp a.eval o = callFunc f (c.args.map a.eval) := by
    unfold execOp
    rw [ho]
    simp only [resolve, hc, Act.eval, Deferred.ofValue]
    show invoke (.fn (.func f) #[]) (#[] ++ c.args.map a.eval) = _
    simp [invoke]
  rw [this]
  cases hfn : P.funcs[f]? with
  | none => rw [hfn] at hf; cases hf
  | some fn =>
    rw [hfn] at hf
    simp only [Option.any_some, Bool.and_eq_true, bne_iff_ne, ne_eq] at hf
    unfold callFunc
    simp only [Sem.run_bind, run_program, Result.andThen_ok, hfn]
    have h1 : (fn.name == "runtime.NumGoroutine") = false := by simpa using hf.2
    have h2 : fn.body.isNone = false := by cases hb : fn.body <;> simp_all
    rw [if_neg (by simp [h1]), if_neg (by simp [h2])]
    rfl
theorem kindT_inv {t : TypeId} {k : IntKind} (h : kindT P t = some k) : P.underlying t = some (.int k) := by
  unfold kindT at h
  split at h
  · cases h; assumption
  · cases h
theorem op0_sound (hcall : CallOK P call) {p ao : AOp} {o : Oper} (e : trOp0 P p o.op = some ao) {env : Env} {a : Act} (r : SRel X I ρ h w) (he : ERel I w ρ env a.tmps) {d : Nat} {v : AV} {h' : Heap}
    (er : (opK d env ao).run call h = some (v, h')) : Does P (execOp a.eval o) w (Out X I ρ w v h') := by
  cases ho : o.op with
  | move x =>
    rw [ho] at e
    simp only [trOp0, Option.map_eq_some_iff] at e
    obtain ⟨y, hy, rfl⟩ := e
    cases ret_inv er
    exact .inl ⟨_, w, by unfold execOp; rw [ho]; rfl, .same r (trOpd_rep hy he)⟩
  | assign x =>
    rw [ho] at e
    simp only [trOp0, Option.map_eq_some_iff] at e
    obtain ⟨y, hy, rfl⟩ := e
    cases ret_inv er
    exact .inl ⟨_, w, by unfold execOp; rw [ho]; rfl, .same r (trOpd_rep hy he)⟩
  | pick c x y =>
    rw [ho] at e
    simp only [trOp0, Option.map_eq_some_iff, Option.bind_eq_some_iff] at e
    obtain ⟨c', hc, x', hx, y', hy, rfl⟩ := e
    have := (pick_sound (P := P) r (trOpd_rep hc he) (trOpd_rep hx he) (trOpd_rep hy he) er)
    obtain ⟨z, w', e1, e2⟩ := this
    refine .inl ⟨z, w', ?_, e2⟩
    unfold execOp
    rw [ho]
    simp only [Sem.run_bind, Sem.run_pure] at e1 ⊢
    cases hb : (asBool (a.eval c)).run P w with
    | ok t w1 => rw [hb] at e1; simp only [Result.andThen_ok] at e1 ⊢; cases e1; rfl
    | halt t w1 => rw [hb] at e1; cases e1
  | box t x =>
    rw [ho] at e
    simp only [trOp0, Option.map_eq_some_iff] at e
    obtain ⟨y, hy, rfl⟩ := e
    unfold execOp; rw [ho]
    exact (box_sound r (trOpd_rep hy he) er).does
  | alloc t =>
    rw [ho] at e
    simp only [trOp0, Option.map_eq_some_iff] at e
    obtain ⟨y, hy, rfl⟩ := e
    unfold execOp; rw [ho]
    exact (alloc_sound hy r er).does
  | build t parts =>
    rw [ho] at e
    simp only [trOp0] at e
    split at e
    · rename_i fs hu
      split at e
      · rename_i hsz
        simp only [Option.map_eq_some_iff, Option.bind_eq_some_iff] at e
        obtain ⟨z, hz, ps, hps, rfl⟩ := e
        unfold execOp; rw [ho]
        exact (build_sound hu hz hsz hps r he er).does
      · cases e
    · cases e
  | buildSlice t len parts =>
    rw [ho] at e
    simp only [trOp0, Option.bind_eq_some_iff] at e
    obtain ⟨⟨e1, n, k⟩, ht, e⟩ := e
    split at e
    · rename_i hc
      simp only [Bool.and_eq_true, beq_iff_eq, decide_eq_true_eq] at hc
      simp only [Option.map_eq_some_iff] at e
      obtain ⟨xs, hxs, rfl⟩ := e
      unfold execOp; rw [ho]
      exact (bslice_sound ht hc.1.1.1 hc.1.1.2 hc.1.2 hc.2 hxs r he er).does
    · cases e
  | load t x =>
    rw [ho] at e
    simp only [trOp0, Option.bind_eq_some_iff] at e
    obtain ⟨n, hn, g, hg, e⟩ := e
    split at e
    · rename_i hc
      simp only [Bool.or_eq_true, beq_iff_eq] at hc
      simp only [Option.map_eq_some_iff] at e
      obtain ⟨y, hy, rfl⟩ := e
      unfold execOp; rw [ho]
      exact (load_sound hn hg hc r (trOpd_rep hy he) er).does
    · cases e
  | store t x y =>
    rw [ho] at e
    simp only [trOp0, Option.bind_eq_some_iff] at e
    obtain ⟨n, hn, e⟩ := e
    split at e
    · cases e
    · rename_i hn0
      simp only [Option.map_eq_some_iff, Option.bind_eq_some_iff] at e
      obtain ⟨x', hx, y', hy, rfl⟩ := e
      unfold execOp; rw [ho]
      exact (store_sound hn (Nat.pos_of_ne_zero hn0) r (trOpd_rep hx he) (trOpd_rep hy he) er).does
  | binOp op t x y f =>
    rw [ho] at e
    simp only [trOp0, Option.bind_eq_some_iff] at e
    obtain ⟨x', hx, y', hy, e⟩ := e
    unfold execOp; rw [ho]
    unfold trBin at e
    split at e
    · cases e; exact (bin_sound _ _ r (trOpd_rep hx he) (trOpd_rep hy he) er).does
    · cases e; exact (bin_sound _ _ r (trOpd_rep hx he) (trOpd_rep hy he) er).does
    · cases e; exact (beq_sound ‹_› _ _ r (trOpd_rep hx he) (trOpd_rep hy he) er).does
    · cases e
  | unOp op t x =>
    rw [ho] at e
    simp only [trOp0, Option.map_eq_some_iff] at e
    obtain ⟨y, hy, rfl⟩ := e
    unfold execOp; rw [ho]
    exact (un_sound r (trOpd_rep hy he) er).does
  | convert s t x =>
    rw [ho] at e
    simp only [trOp0, Option.map_eq_some_iff, Option.bind_eq_some_iff] at e
    obtain ⟨c, hc, y, hy, rfl⟩ := e
    unfold execOp; rw [ho]
    exact (conv_sound hc r (trOpd_rep hy he) er).does
  | slice t x lo hi mx =>
    rw [ho] at e
    cases mx with
    | some _ => simp [trOp0] at e
    | none =>
      simp only [trOp0] at e
      unfold execOp; rw [ho]
      split at e
      · rename_i hu
        simp only [Option.map_eq_some_iff, Option.bind_eq_some_iff] at e
        obtain ⟨x', hx, lo', hlo, hi', hhi, rfl⟩ := e
        exact (sslice_sound hu r (trOpd_rep hx he) (trO_rep hlo he) (trO_rep hhi he) er).does
      · simp only [Option.map_eq_some_iff, Option.bind_eq_some_iff] at e
        obtain ⟨⟨e1, n, k⟩, ht, x', hx, lo', hlo, hi', hhi, rfl⟩ := e
        exact (slice_sound ht r (trOpd_rep hx he) (trO_rep hlo he) (trO_rep hhi he) er).does
      · cases e
  | fieldAddr s x f =>
    rw [ho] at e
    simp only [trOp0] at e
    split at e
    · rename_i fs hu
      simp only [Option.bind_eq_some_iff] at e
      obtain ⟨fl, hf, n, hn, e⟩ := e
      split at e
      · cases e
      · rename_i hn0
        simp only [Option.map_eq_some_iff] at e
        obtain ⟨y, hy, rfl⟩ := e
        unfold execOp; rw [ho]
        exact (faddr_sound hu hf hn hn0 r (trOpd_rep hy he) er).does
    · cases e
  | field s x f =>
    rw [ho] at e
    simp only [trOp0] at e
    split at e
    · rename_i fs hu
      simp only [Option.bind_eq_some_iff] at e
      obtain ⟨fl, hf, n, hn, g, hg, e⟩ := e
      split at e
      · rename_i hc
        simp only [Bool.or_eq_true, beq_iff_eq] at hc
        simp only [Option.map_eq_some_iff] at e
        obtain ⟨y, hy, rfl⟩ := e
        unfold execOp; rw [ho]
        exact (field_sound hu hf hn hg hc r (trOpd_rep hy he) er).does
      · cases e
    · cases e
  | indexAddr t x i =>
    rw [ho] at e
    simp only [trOp0, Option.map_eq_some_iff, Option.bind_eq_some_iff] at e
    obtain ⟨⟨e1, n, k⟩, ht, x', hx, i', hi, rfl⟩ := e
    unfold execOp; rw [ho]
    exact (iaddr_sound ht r (trOpd_rep hx he) (trOpd_rep hi he) er).does
  | index t x i =>
    rw [ho] at e
    simp only [trOp0] at e
    split at e
    · rename_i hu
      simp only [Option.map_eq_some_iff, Option.bind_eq_some_iff] at e
      obtain ⟨x', hx, i', hi, rfl⟩ := e
      unfold execOp; rw [ho]
      exact (sidx_sound hu r (trOpd_rep hx he) (trOpd_rep hi he) er).does
    · cases e
  | extract x i =>
    rw [ho] at e
    simp only [trOp0, Option.map_eq_some_iff] at e
    obtain ⟨y, hy, rfl⟩ := e
    unfold execOp; rw [ho]
    exact (ext_sound r (trOpd_rep hy he) er).does
  | makeSlice t l c =>
    rw [ho] at e
    simp only [trOp0, Option.map_eq_some_iff, Option.bind_eq_some_iff] at e
    obtain ⟨⟨e1, n, k⟩, ht, l', hl, c', hc, z, hz, rfl⟩ := e
    unfold execOp; rw [ho]
    exact (mkslice_sound ht hz r (trOpd_rep hl he) (trOpd_rep hc he) er).does
  | nilCheck x =>
    rw [ho] at e
    simp only [trOp0, Option.map_eq_some_iff] at e
    obtain ⟨y, hy, rfl⟩ := e
    obtain ⟨rfl, rfl, ad, hx⟩ := nilchk_sound r (trOpd_rep hy he) er
    refine .inl ⟨a.eval x, w, ?_, .same r (trOpd_rep hy he)⟩
    unfold execOp; rw [ho]
    simp only [hx]
    rfl
  | call c =>
    rw [ho] at e
    simp only [trOp0] at e
    split at e
    · rename_i f hf
      split at e
      · rename_i hfn
        split at e
        · rename_i g ms nres own
          split at e
          · rename_i hg
            simp only [Option.map_eq_some_iff] at e
            obtain ⟨as, has, rfl⟩ := e
            obtain ⟨h1, h2⟩ := trArgs_rep he has
            refine callee_does ho hf hfn ?_
            have := call_sound (xs := c.args.map a.eval) hcall r (by simp [h1]) (fun i v x hv hx => ?_) er
            · rwa [hg] at this
            · simp only [List.getElem?_map, Option.map_eq_some_iff] at hv
              obtain ⟨y, hy, rfl⟩ := hv
              simp only [Array.getElem?_map, Option.map_eq_some_iff] at hx
              obtain ⟨z, hz, rfl⟩ := hx
              exact h2 i y z hy (by simpa using hz)
          · cases e
        · cases e
      · split at e
        · rename_i hfn
          split at e
          · rename_i x y hx
            simp only [Option.map_eq_some_iff, Option.bind_eq_some_iff] at e
            obtain ⟨x', hx', y', hy', rfl⟩ := e
            cases hfun : P.funcs[f]? with
            | none => rw [hfun] at hfn; cases hfn
            | some fn =>
            rw [hfun] at hfn
            simp only [Option.any_some] at hfn
            simp only [Bool.and_eq_true, beq_iff_eq] at hfn
            obtain ⟨z, hz, out⟩ := idxb_sound hfun hfn.1.1 hfn.1.2 hfn.2 r (trOpd_rep hx' he) (trOpd_rep hy' he) er
            refine .inl ⟨z, w, ?_, out⟩
            have : execOp a.eval o = callFunc f (c.args.map a.eval) := by
              unfold execOp
              rw [ho]
              simp only [resolve, hf, Act.eval, Deferred.ofValue]
              show invoke (.fn (.func f) #[]) (#[] ++ c.args.map a.eval) = _
              simp [invoke]
            rw [this, list2 hx, show Array.map a.eval #[x, y] = #[a.eval x, a.eval y] from by simp]
            exact hz
          · cases e
        · cases e
    · rename_i hcal
      split at e
      · rename_i x t hx ht
        simp only [Option.bind_eq_some_iff] at e
        obtain ⟨x', hx', e⟩ := e
        refine builtin_does ho hcal rfl ?_
        rw [list1 hx, list1 ht, show Array.map a.eval #[x] = #[a.eval x] from by simp]
        unfold trLen at e
        split at e
        · cases e; exact slen_sound ‹_› r (trOpd_rep hx' he) er
        · cases e; exact len_sound ‹_› r (trOpd_rep hx' he) er
        · cases e
      · cases e
    · rename_i hcal
      split at e
      · rename_i x y s t hx ht
        simp only [Option.bind_eq_some_iff] at e
        obtain ⟨⟨e1, n, k⟩, hel, e⟩ := e
        split at e
        · rename_i hc
          simp only [Bool.and_eq_true] at hc
          simp only [Option.map_eq_some_iff, Option.bind_eq_some_iff] at e
          obtain ⟨x', hx', y', hy', rfl⟩ := e
          refine builtin_does ho hcal rfl ?_
          rw [list2 hx, list2 ht, show Array.map a.eval #[x, y] = #[a.eval x, a.eval y] from by simp]
          exact append_sound hel hc.2 (isRowT_inv hc.1) r (trOpd_rep hx' he) (trOpd_rep hy' he) er
        · simp only [Option.map_eq_some_iff, Option.bind_eq_some_iff] at e
          obtain ⟨kn, hkn, z, hz, x', hx', y', hy', rfl⟩ := e
          refine builtin_does ho hcal rfl ?_
          rw [list2 hx, list2 ht, show Array.map a.eval #[x, y] = #[a.eval x, a.eval y] from by simp]
          exact appz_sound hel hz (kindT_inv hkn) r (trOpd_rep hx' he) (trOpd_rep hy' he) er
      · cases e
    · rename_i hcal
      split at e
      · rename_i x y s t hx ht
        simp only [Option.bind_eq_some_iff] at e
        obtain ⟨⟨e1, n, k⟩, hel, e⟩ := e
        split at e
        · rename_i hc
          simp only [Option.map_eq_some_iff, Option.bind_eq_some_iff] at e
          obtain ⟨x', hx', y', hy', rfl⟩ := e
          refine builtin_does ho hcal rfl ?_
          rw [list2 hx, list2 ht, show Array.map a.eval #[x, y] = #[a.eval x, a.eval y] from by simp]
          exact copy_sound hel (isRowT_inv hc) r (trOpd_rep hx' he) (trOpd_rep hy' he) er
        · cases e
      · cases e
    · rename_i hcal
      split at e
      · rename_i x y hx
        simp only [Option.map_eq_some_iff, Option.bind_eq_some_iff] at e
        obtain ⟨x', hx', y', hy', rfl⟩ := e
        refine builtin_does ho hcal rfl ?_
        rw [list2 hx, show Array.map a.eval #[x, y] = #[a.eval x, a.eval y] from by simp]
        exact max_sound r (trOpd_rep hx' he) (trOpd_rep hy' he) er
      · cases e
    · rename_i hcal
      split at e
      · rename_i x y hx
        simp only [Option.map_eq_some_iff, Option.bind_eq_some_iff] at e
        obtain ⟨x', hx', y', hy', rfl⟩ := e
        refine builtin_does ho hcal rfl ?_
        rw [list2 hx, show Array.map a.eval #[x, y] = #[a.eval x, a.eval y] from by simp]
        exact min_sound r (trOpd_rep hx' he) (trOpd_rep hy' he) er
      · cases e
    · cases e
  | range t x =>
    rw [ho] at e
    simp only [trOp0] at e
    split at e
    · rename_i hu
      simp only [Option.map_eq_some_iff] at e
      obtain ⟨y, hy, rfl⟩ := e
      unfold execOp; rw [ho]
      exact (range_sound hu r (trOpd_rep hy he) er).does
    · cases e
  | next x b =>
    rw [ho] at e
    cases b with
    | false => simp [trOp0] at e
    | true =>
      simp only [trOp0, Option.map_eq_some_iff] at e
      obtain ⟨y, hy, rfl⟩ := e
      unfold execOp; rw [ho]
      exact (next_sound r (trOpd_rep hy he) er).does
  | _ => rw [ho] at e; simp [trOp0] at e
theorem op_sound (hcall : CallOK P call) {p ao : AOp} {o : Oper} (e : trOp P p o.op = some ao) {env : Env} {a : Act} (r : SRel X I ρ h w) (he : ERel I w ρ env a.tmps) {d : Nat} {v : AV} {h' : Heap}
    (er : (opK d env ao).run call h = some (v, h')) : Does P (execOp a.eval o) w (Out X I ρ w v h') := by
  unfold trOp at e
  split at e
  · cases e; exact (fail_inv er).elim
  · exact op0_sound hcall e r he er
end
end Go.Proofs.Ytkeipmkiilimeaa.V
set_option linter.unusedSimpArgs false
namespace Go.Proofs.Ytkeipmkiilimeaa.V
open Go
/-- The state of the interpreter is that of the running function. -/
def StRel (X : Ctx) (nt : Nat) (σ : St) (a : Act) (w : World) : Prop := ∃ I ρ, SRel X I ρ σ.heap w ∧ ERel I w ρ σ.env a.tmps ∧ nt ≤ a.tmps.size ∧ a.defers = []
section
variable {X : Ctx} {I : Nat → Prop} {ρ : Rho} {h : Heap} {w : World} {P : Program} {call : Call} {nt : Nat}
theorem Act.put_size (a : Act) (d : Option Tmp) (v : Value) : (a.put d v).tmps.size = a.tmps.size := by
  cases d <;> simp [Act.put]
theorem Act.put_def (a : Act) (d : Option Tmp) (v : Value) : (a.put d v).defers = a.defers := by
  cases d <;> rfl
theorem ERel.put {e : Env} {a : Act} {d : Option Nat} {v : AV} {x : Value} (he : ERel I w ρ e a.tmps) (hv : VRel I w ρ v x) (hd : d.all (· < a.tmps.size) = true) : ERel I w ρ (updO e d v) (a.put d x).tmps := by
  cases d with
  | none => exact he
  | some d =>
    have hlt : d < a.tmps.size := by simpa using hd
    intro t
    show VRel I w ρ (upd e d v t) ((a.tmps.setIfInBounds d x).getD t undef)
    unfold upd
    by_cases ht : t = d
    · subst ht
      rw [if_pos rfl]
      have : (a.tmps.setIfInBounds t x).getD t undef = x := by simp [Array.getD, hlt]
      rw [this]
      exact hv
    · rw [if_neg ht]
      have : (a.tmps.setIfInBounds d x).getD t undef = a.tmps.getD t undef := by
        simp only [Array.getD_eq_getD_getElem?, Array.getElem?_setIfInBounds_ne (Ne.symm ht)]
      rw [this]
      exact he t
theorem ERel.keep {e : Env} {t : Array Value} (he : ERel I w ρ e t) : ∀ ks, ERel I w ρ (keepE ks e) t
  | [], _ => .bad _
  | k :: ks, s => by
    show VRel I w ρ (upd (keepE ks e) k (e k) s) _
    unfold upd
    split
    · rename_i h; subst h; exact he _
    · exact ERel.keep he ks s
theorem kb_inv' {α β : Type} {x : Option α} {f : α → Option β} {b : β} (h : kb x f = some b) : ∃ a, x = some a ∧ f a = some b := by
  unfold kb at h
  exact Option.bind_eq_some_iff.1 h
/-- A guard: wanted, or not. -/
theorem guard_sound {ops : Array Oper} {o : Oper} {g : Option (Nat × Bool)} (hg : trGuard ops o.guard = some g) {env : Env} {a : Act} (he : ERel I w ρ env a.tmps) :
    match (generalizing := false) g with
    | none => Region.wanted o (yielded ops a.tmps) = true
    | some (t, b) => ∀ {α : Type} (x y : Option α) (r : α), kw (env t) b x y = some r → (Region.wanted o (yielded ops a.tmps) = true ∧ x = some r) ∨ (Region.wanted o (yielded ops a.tmps) = false ∧ y = some r) := by
  cases hgd : o.guard with
  | none =>
    rw [hgd] at hg
    cases hg
    show Region.wanted o _ = true
    unfold Region.wanted
    rw [hgd]
  | some jb =>
    obtain ⟨j, b⟩ := jb
    rw [hgd] at hg
    simp only [trGuard, Option.map_eq_some_iff] at hg
    obtain ⟨t, ht, rfl⟩ := hg
    show ∀ {α : Type} (x y : Option α) (r : α), _
    intro α x y r hk
    have hw : ∀ q, yielded ops a.tmps j = q → Region.wanted o (yielded ops a.tmps) = (q == some b) := by
      intro q hq
      unfold Region.wanted
      rw [hgd]
      simp only [hq]
    have hv := he t
    unfold kw at hk
    split at hk
    · rename_i c hc
      rw [hc] at hv
      have hx : a.tmps.getD t undef = .bool c := by
        generalize a.tmps.getD t undef = z at hv
        cases hv with
        | pv hp => cases hp; rfl
      have hx2 : a.tmps[t]? = some (.bool c) := by
        simp only [Array.getD_eq_getD_getElem?] at hx
        cases h9 : a.tmps[t]? with
        | none => rw [h9] at hx; simp [undef] at hx
        | some z => rw [h9] at hx; simpa using hx
      have hy : yielded ops a.tmps j = some c := by
        unfold yielded
        rw [ht]
        simp only [Option.bind_some, hx2]
      rw [hw _ hy]
      unfold kif at hk
      split at hk
      · rename_i h; subst h; exact .inl ⟨by simp, hk⟩
      · rename_i h; exact .inr ⟨by simpa using h, hk⟩
    · rename_i hc
      rw [hc] at hv
      have hx : a.tmps.getD t undef = undef := by
        generalize a.tmps.getD t undef = z at hv
        cases hv; rfl
      have hy : yielded ops a.tmps j = none := by
        unfold yielded
        rw [ht]
        simp only [Option.bind_some]
        cases h9 : a.tmps[t]? with
        | none => rfl
        | some z =>
          simp only [Array.getD_eq_getD_getElem?, h9, Option.getD_some] at hx
          subst hx
          rfl
      rw [hw _ hy]
      exact .inr ⟨rfl, hk⟩
    · cases hk
/-- One operation. -/
theorem aop_sound (hcall : CallOK P call) {ops : Array Oper} {p ao : AOper} {o : Oper} (e : trOper P nt ops p o = some ao) {σ σ' : St} {a : Act} (s : StRel X nt σ a w) (er : aop call ao σ = some σ') {K : Act → World → Prop} {Q : Exit → Act → World → Prop}
    (hK : ∀ a' w', StRel X nt σ' a' w' → K a' w') : if Region.wanted o (yielded ops a.tmps) then o.wp P a w K Q else K (a.put o.dst undef) w := by
  unfold trOper at e
  split at e
  case isFalse => cases e
  rename_i hdst
  simp only [Option.bind_eq_some_iff, Option.map_eq_some_iff] at e
  obtain ⟨g, hg, ao', hop, rfl⟩ := e
  obtain ⟨I, ρ, r, he, hn, hd⟩ := s
  have hdst' : Option.all (· < a.tmps.size) o.dst = true := by
    cases h : o.dst with
    | none => rfl
    | some d =>
      rw [h] at hdst
      have : d < nt := by simpa using hdst
      simp only [Option.all_some, decide_eq_true_eq]
      exact Nat.lt_of_lt_of_le this hn
  have hgs := guard_sound hg he
  have run : ∀ {σ' : St}, kb ((opK (o.dst.getD 0) σ.env ao').run call σ.heap) (fun r => some ⟨updO σ.env o.dst r.1, r.2⟩) = some σ' → (∀ a' w', StRel X nt σ' a' w' → K a' w') → o.wp P a w K Q := by
    intro σ' hr hK
    obtain ⟨⟨v, h'⟩, hr1, hs⟩ := kb_inv' hr
    cases hs
    refine (op_sound hcall hop r he hr1).wp fun x w' hout => hK _ _ ?_
    obtain ⟨I', ρ', ex, r', hv⟩ := hout
    exact ⟨I', ρ', r', (he.ext ex).put hv hdst', by rw [Act.put_size]; exact hn, by rw [Act.put_def, hd]⟩
  unfold aop at er
  split at er
  · rename_i hgn
    have hgn : g = none := hgn
    subst hgn
    rw [if_pos hgs]
    exact run er hK
  · rename_i t b hgn
    have hgn : g = some (t, b) := hgn
    subst hgn
    rcases hgs _ _ _ er with ⟨hw, er⟩ | ⟨hw, er⟩
    · rw [if_pos hw]; exact run er hK
    · rw [if_neg (by simp [hw])]
      cases er
      exact hK _ _ ⟨I, ρ, r, he.put .und hdst', by rw [Act.put_size]; exact hn, by rw [Act.put_def, hd]⟩
theorem trOpers_at : ∀ {l : List Oper} {ps as : List AOper} {ops : Array Oper}, trOpers P nt ops ps l = some as → as.length = l.length ∧ ∀ (i : Nat) (o : Oper), l[i]? = some o → ∃ p ao, as[i]? = some ao ∧ trOper P nt ops p o = some ao
  | [], ps, as, ops, e => by cases e; exact ⟨rfl, by simp⟩
  | o :: l, ps, as, ops, e => by
    simp only [trOpers, Option.bind_eq_some_iff, Option.map_eq_some_iff] at e
    obtain ⟨ao, h1, as', h2, rfl⟩ := e
    obtain ⟨g1, g2⟩ := trOpers_at h2
    refine ⟨by simp [g1], fun i o' hi => ?_⟩
    cases i with
    | zero => simp at hi; subst hi; exact ⟨_, ao, rfl, h1⟩
    | succ i => exact g2 i o' (by simpa using hi)
theorem aops_sound (hcall : CallOK P call) {ops : Array Oper} {Q : Exit → Act → World → Prop} : ∀ {l : List Oper} {ps as : List AOper} (_ : trOpers P nt ops ps l = some as) {σ σ' : St} {a : Act} {w : World} (_ : StRel X nt σ a w) (_ : aops call as σ = some σ')
    (_ : ∀ a' w', StRel X nt σ' a' w' → Q .normal a' w'), wpList P ops Q l a w
  | [], ps, as, e, σ, σ', a, w, s, er, hK => by
    cases e
    cases er
    exact wpList_nil (hK a w s)
  | o :: l, ps, as, e, σ, σ', a, w, s, er, hK => by
    simp only [trOpers, Option.bind_eq_some_iff, Option.map_eq_some_iff] at e
    obtain ⟨ao, h1, as', h2, rfl⟩ := e
    obtain ⟨σ1, e1, e2⟩ := kb_inv' er
    exact wpList_step fun K hK' => aop_sound hcall h1 s e1 fun a' w' s' => hK' _ _ (aops_sound hcall h2 s' e2 hK)
theorem region_sound (hcall : CallOK P call) {ops : Array Oper} {id : Nat} {ps as : List AOper} {ks : List Nat} (e : trOpers P nt ops ps ops.toList = some as) {σ σ' : St} {a : Act} (s : StRel X nt σ a w) (er : aops call as σ = some σ') {Q : Exit → Act → World → Prop}
    (hK : ∀ a' w', StRel X nt ⟨keepE ks σ'.env, σ'.heap⟩ a' w' → Q .normal a' w') : (Code.region id ops false).wp P Q a w :=
  wp_region_list (aops_sound hcall e s er fun a' w' s' => hK a' w' (let ⟨I, ρ, r, he, h1, h2⟩ := s'; ⟨I, ρ, r, he.keep ks, h1, h2⟩))
end
end Go.Proofs.Ytkeipmkiilimeaa.V
set_option linter.unusedSimpArgs false
namespace Go.Proofs.Ytkeipmkiilimeaa.V
open Go
section
variable {call : Call}
theorem kif_inv {α : Type} {c : Prop} [Decidable c] {x y : Option α} {r : α} (h : kif c x y = some r) : (c ∧ x = some r) ∨ (¬ c ∧ y = some r) := by
  unfold kif at h
  split at h
  · exact .inl ⟨‹_›, h⟩
  · exact .inr ⟨‹_›, h⟩
theorem kd_inv {α β : Type} {x : Option (Option α)} {y : Option β} {b : β} (h : kd x y = some b) : x = some none ∧ y = some b := by
  unfold kd at h
  split at h
  · exact ⟨rfl, h⟩
  · cases h
/-- The run with its places is the run. -/
theorem runF_run : ∀ (p : HP) {h : Heap} {r w : List Nat} {v : AV} {h' : Heap} {r' w' : List Nat}, p.runF call h r w = some (v, h', r', w') → p.run call h = some (v, h')
  | .ret _, h, r, w, v, h', r', w', e => by cases e; rfl
  | .fail, _, _, _, _, _, _, _, e => by cases e
  | .br c x y, h, r, w, v, h', r', w', e => by
    show kif (c = true) (x.run call h) (y.run call h) = _
    rcases kif_inv (show kif (c = true) (x.runF call h r w) (y.runF call h r w) = _ from e) with ⟨hc, e⟩ | ⟨hc, e⟩
    · rw [kif, if_pos hc]; exact runF_run x e
    · rw [kif, if_neg hc]; exact runF_run y e
  | .get id k, h, r, w, v, h', r', w', e => by
    obtain ⟨o, ho, e⟩ := kg_inv (show kg (h id) (fun o => (k o).runF call h (id :: r) w) = _ from e)
    show kg (h id) (fun o => (k o).run call h) = _
    rw [ho]; exact runF_run (k o) e
  | .put id o k, h, r, w, v, h', r', w', e => by
    obtain ⟨o', ho, e⟩ := kg_inv (show kg (h id) (fun _ => k.runF call (hup h id (some (some o))) r (id :: w)) = _ from e)
    show kg (h id) (fun _ => k.run call (hup h id (some (some o)))) = _
    rw [ho]; exact runF_run k e
  | .new id o k, h, r, w, v, h', r', w', e => by
    obtain ⟨ho, e⟩ := kn_inv (show kn (h id) (k.runF call (hup h id (some (some o))) r (id :: w)) = _ from e)
    show kn (h id) (k.run call (hup h id (some (some o)))) = _
    rw [ho]; exact runF_run k e
  | .del id k, h, r, w, v, h', r', w', e => by
    obtain ⟨o', ho, e⟩ := kg_inv (show kg (h id) (fun _ => k.runF call (hup h id (some none)) r (id :: w)) = _ from e)
    show kg (h id) (fun _ => k.run call (hup h id (some none))) = _
    rw [ho]; exact runF_run k e
  | .back id o k, h, r, w, v, h', r', w', e => by
    obtain ⟨ho, e⟩ := kd_inv (show kd (h id) (k.runF call (hup h id (some (some o))) r (id :: w)) = _ from e)
    show kd (h id) (k.run call (hup h id (some (some o)))) = _
    rw [ho]; exact runF_run k e
  | .call f as k, h, r, w, v, h', r', w', e => by
    obtain ⟨rs, hr, e⟩ := kb_inv' (show kb (call f as) (fun rs => (k rs).runF call h r w) = _ from e)
    show kb (call f as) (fun rs => (k rs).run call h) = _
    rw [hr]; exact runF_run (k rs) e
/-- A run knows of the heap no more than the places that it reads and writes. -/
structure Local (call : Call) (p : HP) (h : Heap) (r w : List Nat) (v : AV) (h' : Heap) (r' w' : List Nat) : Prop where
  inR : ∀ i ∈ r, i ∈ r'
  inW : ∀ i ∈ w, i ∈ w'
  loc : ∀ g : Heap, (∀ i, i ∈ r' ∨ i ∈ w' → g i = h i) → ∃ g', p.runF call g r w = some (v, g', r', w') ∧ (∀ i, i ∈ r' ∨ i ∈ w' → g' i = h' i) ∧ ∀ i, i ∉ w' → g' i = g i
theorem hup_agree {g h : Heap} {id : Nat} {o : Option (Option AObj)} {S : Nat → Prop} (hg : ∀ i, S i → g i = h i) : ∀ i, S i → hup g id o i = hup h id o i := by
  intro i hi
  unfold hup
  split
  · rfl
  · exact hg i hi
theorem loc_put {k : HP} {g h : Heap} {id : Nat} {o : Option (Option AObj)} {r w : List Nat} {v : AV} {h' : Heap} {r' w' : List Nat} (ih : Local call k (hup h id o) r (id :: w) v h' r' w') (hg : ∀ i, i ∈ r' ∨ i ∈ w' → g i = h i) :
    g id = h id ∧ ∃ g', k.runF call (hup g id o) r (id :: w) = some (v, g', r', w') ∧ (∀ i, i ∈ r' ∨ i ∈ w' → g' i = h' i) ∧ ∀ i, i ∉ w' → g' i = g i := by
  have hid : id ∈ w' := ih.inW id (by simp)
  refine ⟨hg id (.inr hid), ?_⟩
  obtain ⟨g', h1, h2, h3⟩ := ih.loc (hup g id o) (hup_agree hg)
  refine ⟨g', h1, h2, fun i hi => (h3 i hi).trans (hup_ne fun e => hi (e ▸ hid))⟩
theorem runF_loc : ∀ (p : HP) {h : Heap} {r w : List Nat} {v : AV} {h' : Heap} {r' w' : List Nat}, p.runF call h r w = some (v, h', r', w') → Local call p h r w v h' r' w'
  | .ret _, h, r, w, v, h', r', w', e => by
    cases e
    exact ⟨fun _ h => h, fun _ h => h, fun g hg => ⟨g, rfl, hg, fun _ _ => rfl⟩⟩
  | .fail, _, _, _, _, _, _, _, e => by cases e
  | .br c x y, h, r, w, v, h', r', w', e => by
    rcases kif_inv (show kif (c = true) (x.runF call h r w) (y.runF call h r w) = _ from e) with ⟨hc, e⟩ | ⟨hc, e⟩
    · have ih := runF_loc x e
      refine ⟨ih.inR, ih.inW, fun g hg => ?_⟩
      show ∃ g', kif (c = true) (x.runF call g r w) (y.runF call g r w) = _ ∧ _
      rw [kif, if_pos hc]; exact ih.loc g hg
    · have ih := runF_loc y e
      refine ⟨ih.inR, ih.inW, fun g hg => ?_⟩
      show ∃ g', kif (c = true) (x.runF call g r w) (y.runF call g r w) = _ ∧ _
      rw [kif, if_neg hc]; exact ih.loc g hg
  | .get id k, h, r, w, v, h', r', w', e => by
    obtain ⟨o, ho, e⟩ := kg_inv (show kg (h id) (fun o => (k o).runF call h (id :: r) w) = _ from e)
    have ih := runF_loc (k o) e
    refine ⟨fun i hi => ih.inR i (by simp [hi]), ih.inW, fun g hg => ?_⟩
    show ∃ g', kg (g id) (fun o => (k o).runF call g (id :: r) w) = _ ∧ _
    rw [hg id (.inl (ih.inR id (by simp))), ho]
    exact ih.loc g hg
  | .put id o k, h, r, w, v, h', r', w', e => by
    obtain ⟨o', ho, e⟩ := kg_inv (show kg (h id) (fun _ => k.runF call (hup h id (some (some o))) r (id :: w)) = _ from e)
    have ih := runF_loc k e
    refine ⟨ih.inR, fun i hi => ih.inW i (by simp [hi]), fun g hg => ?_⟩
    show ∃ g', kg (g id) (fun _ => k.runF call (hup g id (some (some o))) r (id :: w)) = _ ∧ _
    obtain ⟨h1, h2⟩ := loc_put ih hg
    rw [h1, ho]
    exact h2
  | .new id o k, h, r, w, v, h', r', w', e => by
    obtain ⟨ho, e⟩ := kn_inv (show kn (h id) (k.runF call (hup h id (some (some o))) r (id :: w)) = _ from e)
    have ih := runF_loc k e
    refine ⟨ih.inR, fun i hi => ih.inW i (by simp [hi]), fun g hg => ?_⟩
    show ∃ g', kn (g id) (k.runF call (hup g id (some (some o))) r (id :: w)) = _ ∧ _
    obtain ⟨h1, h2⟩ := loc_put ih hg
    rw [h1, ho]
    exact h2
  | .del id k, h, r, w, v, h', r', w', e => by
    obtain ⟨o', ho, e⟩ := kg_inv (show kg (h id) (fun _ => k.runF call (hup h id (some none)) r (id :: w)) = _ from e)
    have ih := runF_loc k e
    refine ⟨ih.inR, fun i hi => ih.inW i (by simp [hi]), fun g hg => ?_⟩
    show ∃ g', kg (g id) (fun _ => k.runF call (hup g id (some none)) r (id :: w)) = _ ∧ _
    obtain ⟨h1, h2⟩ := loc_put ih hg
    rw [h1, ho]
    exact h2
  | .back id o k, h, r, w, v, h', r', w', e => by
    obtain ⟨ho, e⟩ := kd_inv (show kd (h id) (k.runF call (hup h id (some (some o))) r (id :: w)) = _ from e)
    have ih := runF_loc k e
    refine ⟨ih.inR, fun i hi => ih.inW i (by simp [hi]), fun g hg => ?_⟩
    show ∃ g', kd (g id) (k.runF call (hup g id (some (some o))) r (id :: w)) = _ ∧ _
    obtain ⟨h1, h2⟩ := loc_put ih hg
    rw [h1, ho]
    exact h2
  | .call f as k, h, r, w, v, h', r', w', e => by
    obtain ⟨rs, hr, e⟩ := kb_inv' (show kb (call f as) (fun rs => (k rs).runF call h r w) = _ from e)
    have ih := runF_loc (k rs) e
    refine ⟨ih.inR, ih.inW, fun g hg => ?_⟩
    show ∃ g', kb (call f as) (fun rs => (k rs).runF call g r w) = _ ∧ _
    rw [hr]; exact ih.loc g hg
/-- Two runs of which neither writes what the other knows of. -/
theorem runF_swap {p q : HP} {h h1 h2 : Heap} {v u : AV} {fx fy : List Nat × List Nat} (hp : p.runF call h [] [] = some (v, h1, fx)) (hq : q.runF call h1 [] [] = some (u, h2, fy)) (ha : apartF fx fy = true) :
    ∃ g, q.runF call h [] [] = some (u, g, fy) ∧ p.runF call g [] [] = some (v, h2, fx) := by
  obtain ⟨rx, wx⟩ := fx
  obtain ⟨ry, wy⟩ := fy
  simp only [apartF, Bool.and_eq_true, List.all_eq_true, Bool.not_eq_true', List.contains_eq_mem, decide_eq_false_iff_not] at ha
  obtain ⟨ha, hb⟩ := ha
  have lx := runF_loc p hp
  have ly := runF_loc q hq
  obtain ⟨k1, e1, k2, k3⟩ := lx.loc h fun _ _ => rfl
  rw [hp] at e1; cases e1
  obtain ⟨m1, e1, m2, m3⟩ := ly.loc h1 fun _ _ => rfl
  rw [hq] at e1; cases e1
  obtain ⟨g, g1, g2, g3⟩ := ly.loc h fun i hi => (k3 i fun hx => by
    obtain ⟨a1, a2⟩ := ha i hx
    exact hi.elim a1 a2).symm
  obtain ⟨g', p1, p2, p3⟩ := lx.loc g fun i hi => g3 i fun hy => hi.elim (hb i hy) fun hx => (ha i hx).2 hy
  refine ⟨g, g1, ?_⟩
  have : g' = h2 := by
    funext i
    by_cases hx : i ∈ wx
    · rw [p2 i (.inr hx), m3 i (ha i hx).2]
    · rw [p3 i hx]
      by_cases hy : i ∈ wy
      · exact g2 i (.inr hy)
      · rw [g3 i hy, m3 i hy, k3 i hx]
  rw [← this]
  exact p1
end
end Go.Proofs.Ytkeipmkiilimeaa.V
set_option linter.unusedSimpArgs false
namespace Go.Proofs.Ytkeipmkiilimeaa.V
open Go
/-- Writes nothing; reads no more than rd allows. -/
def HP.still (rd : Bool) : HP → Prop
  | .ret _ | .fail => True
  | .br _ x y => x.still rd ∧ y.still rd
  | .get _ k => rd = true ∧ ∀ o, (k o).still rd
  | _ => False
theorem still_chk {rd c : Bool} {k : HP} (h : k.still rd) : (chk c k).still rd := ⟨h, trivial⟩
section
variable {call : Call}
theorem still_run {rd : Bool} : ∀ (p : HP) {h : Heap} {r w : List Nat} {v : AV} {h' : Heap} {r' w' : List Nat}, p.still rd → p.runF call h r w = some (v, h', r', w') → w' = w ∧ (rd = false → r' = r)
  | .ret _, h, r, w, v, h', r', w', _, e => by cases e; exact ⟨rfl, fun _ => rfl⟩
  | .fail, _, _, _, _, _, _, _, _, e => by cases e
  | .br c x y, h, r, w, v, h', r', w', hs, e => by
    rcases kif_inv (show kif (c = true) (x.runF call h r w) (y.runF call h r w) = _ from e) with ⟨hc, e⟩ | ⟨hc, e⟩
    · exact still_run x hs.1 e
    · exact still_run y hs.2 e
  | .get id k, h, r, w, v, h', r', w', hs, e => by
    obtain ⟨o, ho, e⟩ := kg_inv (show kg (h id) (fun o => (k o).runF call h (id :: r) w) = _ from e)
    obtain ⟨h1, h2⟩ := still_run (k o) (hs.2 o) e
    exact ⟨h1, fun hr => by rw [hs.1] at hr; cases hr⟩
  | .put _ _ _, _, _, _, _, _, _, _, hs, _ => hs.elim
  | .new _ _ _, _, _, _, _, _, _, _, hs, _ => hs.elim
  | .del _ _, _, _, _, _, _, _, _, hs, _ => hs.elim
  | .back _ _ _, _, _, _, _, _, _, _, hs, _ => hs.elim
  | .call _ _ _, _, _, _, _, _, _, _, hs, _ => hs.elim
end
theorem still_retG {rd : Bool} {n : Nat} {cs : List PV} {g : Bool} : (retG n cs g).still rd := by
  cases g with
  | true => exact still_chk trivial
  | false => cases cs <;> trivial
theorem still_retV {rd : Bool} {n off : Nat} {cs : List AV} {g : Bool} : (retV n off cs g).still rd := by
  cases g with
  | true => exact still_chk trivial
  | false => unfold retV; simp only; cases cs.drop off <;> trivial
theorem still_retO {rd : Bool} {c : CV} : (retO c).still rd := by
  cases c with
  | none => trivial
  | some c => exact still_chk trivial
theorem still_lo {rd : Bool} {h : Nat} {k : Nat → HP} {lo : Option AV} (hk : ∀ l, (k l).still rd) : (boundLo h k lo).still rd := by
  unfold boundLo
  split
  · exact hk _
  · exact still_chk (still_chk (hk _))
  · trivial
theorem still_hi {rd : Bool} {n : Nat} {k : Nat → HP} {hi : Option AV} (hk : ∀ l, (k l).still rd) : (boundHi n k hi).still rd := by
  unfold boundHi
  split
  · exact hk _
  · exact still_chk (still_chk (hk _))
  · trivial
theorem opK_still {d : Nat} {e : Env} {op : AOp} (hw : op.writes = false) : (opK d e op).still op.touches := by
  cases op with
  | mv x => trivial
  | pick c a b =>
    show (pickK _ _ _).still _
    unfold pickK
    split
    · trivial
    · exact ⟨trivial, trivial⟩
    · trivial
  | build z ps =>
    show (retCells _).still _
    unfold retCells
    split <;> trivial
  | load n g x =>
    show (loadK n g _).still true
    unfold loadK
    split
    · refine ⟨rfl, fun o => ?_⟩
      unfold loadVars
      split
      · exact still_retV
      · trivial
    · exact still_retG
    · refine ⟨rfl, fun o => ?_⟩
      unfold loadElem
      split
      · exact still_chk still_retG
      · trivial
    · trivial
  | bin op x y =>
    show (binK op _ _).still _
    unfold binK
    split
    · exact still_retO
    · trivial
  | beq op x y =>
    show (beqK op _ _).still _
    unfold beqK
    split
    · exact still_retO
    · trivial
  | un op x =>
    show (unK op _).still _
    unfold unK
    split
    · exact still_retO
    · trivial
  | conv c x =>
    cases c with
    | strToBytes => cases hw
    | int k =>
      show (convK d _ _).still _
      unfold convK
      split <;> first | trivial | contradiction
    | str =>
      show (convK d _ _).still _
      unfold convK
      split <;> first | trivial | contradiction
    | bytesToStr =>
      show (convK d _ _).still true
      have key : ∀ p, (retText p).still true := by
        intro p
        unfold retText
        split <;> trivial
      unfold convK
      split <;> first
        | trivial
        | contradiction
        | exact key _
        | (refine ⟨rfl, fun o => ?_⟩
           unfold rowText
           split
           · exact key _
           · trivial)
  | slice n x lo hi =>
    show (sliceK n _ _ _).still true
    unfold sliceK
    split
    · exact still_chk (still_hi fun _ => still_lo fun _ => trivial)
    · refine ⟨rfl, fun o => ?_⟩
      unfold sliceRow
      split
      · exact still_chk (still_hi fun _ => still_lo fun _ => trivial)
      · trivial
    · trivial
  | sslice x lo hi =>
    show (ssliceK _ _ _).still _
    unfold ssliceK
    split
    · exact still_hi fun _ => still_lo fun _ => trivial
    · trivial
  | faddr off x =>
    show (faddrK off _).still _
    unfold faddrK
    split <;> first | trivial | exact still_chk trivial
  | field off n g x =>
    show (fieldK off n g _).still _
    unfold fieldK
    split
    · exact still_retG
    · exact still_retV
    · trivial
  | iaddr n x i =>
    show (iaddrK n _ _).still true
    unfold iaddrK
    split
    · exact still_chk (still_chk (still_chk trivial))
    · refine ⟨rfl, fun o => ?_⟩
      unfold iaddrRow
      split
      · exact still_chk (still_chk (still_chk trivial))
      · trivial
    · trivial
  | sidx x i =>
    show (sidxK _ _).still _
    unfold sidxK
    split
    · exact still_chk (still_chk trivial)
    · trivial
  | ext x i =>
    show (extK i _).still _
    unfold extK
    split
    · split <;> trivial
    · trivial
  | len x =>
    show (lenK _).still true
    unfold lenK
    split
    · exact still_chk trivial
    · refine ⟨rfl, fun o => ?_⟩
      unfold lenRow
      split <;> trivial
    · trivial
  | slen x =>
    show (slenK _).still _
    unfold slenK
    split <;> trivial
  | mlen x =>
    show (mlenK _).still true
    unfold mlenK
    split
    · refine ⟨rfl, fun o => ?_⟩
      unfold lenMap
      split <;> trivial
    · trivial
  | mlook z x i ok =>
    show (mlookK z ok _ _).still true
    unfold mlookK
    split
    · refine ⟨rfl, fun o => ?_⟩
      unfold mlookMap
      split
      · unfold mlookO
        split
        · split <;> trivial
        · trivial
      · trivial
    · trivial
  | max x y =>
    show (maxK _ _).still _
    unfold maxK
    split <;> trivial
  | min x y =>
    show (minK _ _).still _
    unfold minK
    split <;> trivial
  | nilchk x =>
    show (nilchkK _).still _
    unfold nilchkK
    split <;> trivial
  | _ => cases hw
/-- An operation looks at what it reads. -/
theorem opK_congr {d : Nat} {e e' : Env} {op : AOp} (h : ∀ x ∈ op.reads, opd e x = opd e' x) : opK d e op = opK d e' op := by
  cases op <;> simp only [AOp.reads, List.mem_cons, List.not_mem_nil, or_false, forall_eq_or_imp, forall_eq, List.mem_map, List.mem_append, Option.mem_toList] at h <;> simp only [opK]
  case build z ps => exact congrArg (fun l => retCells (layParts (z.map .pv) l)) (List.map_congr_left fun p hp => by rw [h _ ⟨p, hp, rfl⟩])
  case bslice n k xs => exact congrArg (bsliceK d n k) (List.map_congr_left fun x hx => by rw [h x hx])
  case slice n x lo hi =>
    rw [h.1, show lo.map (opd e) = lo.map (opd e') from Option.map_congr fun y hy => h.2 y (.inl hy), show hi.map (opd e) = hi.map (opd e') from Option.map_congr fun y hy => h.2 y (.inr hy)]
  case sslice x lo hi =>
    rw [h.1, show lo.map (opd e) = lo.map (opd e') from Option.map_congr fun y hy => h.2 y (.inl hy), show hi.map (opd e) = hi.map (opd e') from Option.map_congr fun y hy => h.2 y (.inr hy)]
  case call f as n o => exact congrArg (fun l => argsK l (callGo d f n o)) (List.map_congr_left fun p hp => by rw [h _ ⟨p, hp, rfl⟩])
  all_goals simp only [h]
section
variable {call : Call}
theorem updO_ne {e : Env} {d : Option Nat} {v : AV} {t : Nat} (h : d ≠ some t) : updO e d v t = e t := by
  cases d with
  | none => rfl
  | some d => exact if_neg fun e => h (by rw [e])
theorem updO_comm {e : Env} {d d' : Option Nat} {v v' : AV} (h : ∀ t, d = some t → d' ≠ some t) : updO (updO e d v) d' v' = updO (updO e d' v') d v := by
  cases d with
  | none => rfl
  | some d =>
    cases d' with
    | none => rfl
    | some d' =>
      funext t
      have : d' ≠ d := fun e => h d rfl (by rw [e])
      simp only [updO, upd]
      by_cases h1 : t = d' <;> by_cases h2 : t = d <;> simp_all
/-- What an operation yields in an environment: its value, and the heap. -/
def aopV (call : Call) (o : AOper) (e : Env) (h : Heap) : Option (AV × Heap × List Nat × List Nat) :=
  match o.guard with
  | none => (opK (o.dst.getD 0) e o.op).runF call h [] []
  | some (t, b) => kw (e t) b ((opK (o.dst.getD 0) e o.op).runF call h [] []) (some (.und, h, [], []))
theorem kw_kb {α β : Type} (v : AV) (b : Bool) (x y : Option α) (f : α → Option β) : kw v b (kb x f) (kb y f) = kb (kw v b x y) f := by
  unfold kw
  split
  · unfold kif; split <;> rfl
  · rfl
  · rfl
theorem aopF_eq (o : AOper) (σ : St) : aopF call o σ = kb (aopV call o σ.env σ.heap) fun r => some (⟨updO σ.env o.dst r.1, r.2.1⟩, r.2.2) := by
  obtain ⟨d, op, g⟩ := o
  cases g with
  | none => rfl
  | some tb =>
    unfold aopF aopV
    simp only
    rw [← kw_kb]
    rfl
theorem aopV_upd {o : AOper} {e : Env} {d : Option Nat} {v : AV} {h : Heap} (hd : ∀ t, d = some t → t ∉ o.looks) : aopV call o (updO e d v) h = aopV call o e h := by
  have h1 : opK (o.dst.getD 0) (updO e d v) o.op = opK (o.dst.getD 0) e o.op := by
    refine opK_congr fun x hx => ?_
    cases x with
    | c p => rfl
    | t n =>
      refine updO_ne fun he => hd n he ?_
      unfold AOper.looks
      exact List.mem_append.2 (.inl (List.mem_filterMap.2 ⟨_, hx, rfl⟩))
  unfold aopV
  rw [h1]
  split
  · rfl
  · rename_i t b hg
    rw [updO_ne fun he => hd t he (by unfold AOper.looks; rw [hg]; simp)]
theorem apart_inv {x y : AOper} (h : x.apart y = true) : (∀ t, x.dst = some t → t ∉ y.looks) ∧ (∀ t, x.dst = some t → y.dst ≠ some t) ∧ ∀ t, y.dst = some t → t ∉ x.looks := by
  unfold AOper.apart at h
  simp only [Bool.and_eq_true] at h
  obtain ⟨h1, h2⟩ := h
  refine ⟨fun t ht => ?_, fun t ht => ?_, fun t ht => ?_⟩
  · rw [ht] at h1; simp at h1; exact h1.1
  · rw [ht] at h1; simp at h1; exact h1.2
  · rw [ht] at h2; simpa using h2
theorem aopV_run {o : AOper} {e : Env} {h : Heap} {r : AV × Heap × List Nat × List Nat} (hr : aopV call o e h = some r) : (∀ g, (opK (o.dst.getD 0) e o.op).runF call g [] [] = aopV call o e g) ∨ ∀ g, aopV call o e g = some (.und, g, [], []) := by
  obtain ⟨d, op, g⟩ := o
  cases g with
  | none => exact .inl fun g => rfl
  | some tb =>
    obtain ⟨t, b⟩ := tb
    have hr : kw (e t) b ((opK (d.getD 0) e op).runF call h [] []) (some (.und, h, [], [])) = some r := hr
    show (∀ g, (opK (d.getD 0) e op).runF call g [] [] = kw (e t) b ((opK (d.getD 0) e op).runF call g [] []) (some (.und, g, [], []))) ∨ ∀ g, kw (e t) b ((opK (d.getD 0) e op).runF call g [] []) (some (.und, g, [], [])) = some (.und, g, [], [])
    unfold kw at hr ⊢
    split at hr
    · rename_i c _
      unfold kif
      by_cases hcb : c = b
      · left; intro g; rw [if_pos hcb]
      · right; intro g; rw [if_neg hcb]
    · exact .inr fun g => rfl
    · cases hr
theorem aopV_swap {x y : AOper} {e : Env} {h h1 h2 : Heap} {v u : AV} {fx fy : List Nat × List Nat} (hx : aopV call x e h = some (v, h1, fx)) (hy : aopV call y e h1 = some (u, h2, fy)) (ha : apartF fx fy = true) :
    ∃ g, aopV call y e h = some (u, g, fy) ∧ aopV call x e g = some (v, h2, fx) := by
  rcases aopV_run hx with kx | kx
  · rcases aopV_run hy with ky | ky
    · rw [← kx] at hx
      rw [← ky] at hy
      obtain ⟨g, g1, g2⟩ := runF_swap hx hy ha
      exact ⟨g, by rw [← ky]; exact g1, by rw [← kx]; exact g2⟩
    · rw [ky] at hy; cases hy
      exact ⟨h, ky h, hx⟩
  · rw [kx] at hx; cases hx
    exact ⟨h2, hy, kx h2⟩
/-- Two operations that nothing binds change places. -/
theorem aopF_swap {x y : AOper} {σ σ1 σ2 : St} {fx fy : List Nat × List Nat} (hx : aopF call x σ = some (σ1, fx)) (hy : aopF call y σ1 = some (σ2, fy)) (hap : x.apart y = true) (ha : apartF fx fy = true) :
    ∃ τ, aopF call y σ = some (τ, fy) ∧ aopF call x τ = some (σ2, fx) := by
  obtain ⟨a1, a2, a3⟩ := apart_inv hap
  rw [aopF_eq] at hx hy
  obtain ⟨⟨v, h1, f1⟩, e1, e2⟩ := kb_inv' hx
  simp only [Option.some.injEq, Prod.mk.injEq] at e2
  obtain ⟨rfl, rfl⟩ := e2
  obtain ⟨⟨u, h2, f2⟩, e3, e4⟩ := kb_inv' hy
  simp only [Option.some.injEq, Prod.mk.injEq] at e4
  obtain ⟨rfl, rfl⟩ := e4
  have e3' : aopV call y σ.env h1 = some (u, h2, f2) := by rw [← e3]; exact (aopV_upd a1).symm
  obtain ⟨g, g1, g2⟩ := aopV_swap e1 e3' ha
  refine ⟨⟨updO σ.env y.dst u, g⟩, by rw [aopF_eq, g1]; rfl, ?_⟩
  rw [aopF_eq]
  simp only
  rw [aopV_upd a3, g2]
  show some (St.mk (updO (updO σ.env y.dst u) x.dst v) h2, f1) = _
  rw [updO_comm (d := x.dst) (d' := y.dst) a2]
theorem aopF_aop {o : AOper} {σ σ' : St} {f : List Nat × List Nat} (h : aopF call o σ = some (σ', f)) : aop call o σ = some σ' := by
  have key : ∀ {σ' : St} {f : List Nat × List Nat}, kb ((opK (o.dst.getD 0) σ.env o.op).runF call σ.heap [] []) (fun r => some (⟨updO σ.env o.dst r.1, r.2.1⟩, r.2.2)) = some (σ', f) → kb ((opK (o.dst.getD 0) σ.env o.op).run call σ.heap) (fun r => some ⟨updO σ.env o.dst r.1, r.2⟩) = some σ' := by
    intro σ' f h
    obtain ⟨⟨v, h1, f1, f2⟩, e1, e2⟩ := kb_inv' h
    cases e2
    rw [runF_run _ e1]
    rfl
  obtain ⟨d, op, g⟩ := o
  cases g with
  | none => exact key h
  | some tb =>
    obtain ⟨t, b⟩ := tb
    unfold aopF at h
    unfold aop
    simp only at h ⊢
    unfold kw at h ⊢
    split at h
    · rcases kif_inv h with ⟨h1, h⟩ | ⟨h1, h⟩
      · rw [kif, if_pos h1]; exact key h
      · rw [kif, if_neg h1]; cases h; rfl
    · cases h; rfl
    · cases h
theorem aopF_still {o : AOper} {σ σ' : St} {f : List Nat × List Nat} (h : aopF call o σ = some (σ', f)) : (o.op.writes = false → f.2 = []) ∧ (o.op.writes = false → o.op.touches = false → f.1 = []) := by
  rw [aopF_eq] at h
  obtain ⟨⟨v, h1, f⟩, e1, e2⟩ := kb_inv' h
  simp only [Option.some.injEq, Prod.mk.injEq] at e2
  obtain ⟨rfl, rfl⟩ := e2
  rcases aopV_run e1 with k | k
  · rw [← k] at e1
    refine ⟨fun hw => (still_run _ (opK_still hw) e1).1, fun hw ht => (still_run _ (opK_still hw) e1).2 ht⟩
  · rw [k] at e1; cases e1
    exact ⟨fun _ => rfl, fun _ _ => rfl⟩
end
end Go.Proofs.Ytkeipmkiilimeaa.V
set_option linter.unusedSimpArgs false
namespace Go.Proofs.Ytkeipmkiilimeaa.V
open Go
theorem orBits_bit {acc : List Nat} {j : Nat} : ∀ {es : List Edge} {m : Nat}, (orBits acc es m).testBit j = true → m.testBit j = true ∨ ∃ e ∈ es, Region.binds .any e = true ∧ ((acc.getD e.on 0).testBit j = true ∨ j = e.on)
  | [], m, h => .inl h
  | e :: es, m, h => by
    rcases orBits_bit (es := es) h with h | ⟨e', h1, h2⟩
    · split at h
      · rename_i hb
        rw [Nat.testBit_or, Nat.testBit_or, Bool.or_eq_true, Bool.or_eq_true, Nat.testBit_two_pow, decide_eq_true_eq] at h
        rcases h with (h | h) | h
        · exact .inl h
        · exact .inr ⟨e, by simp, hb, .inl h⟩
        · exact .inr ⟨e, by simp, hb, .inr h.symm⟩
      · exact .inl h
    · exact .inr ⟨e', by simp [h1], h2⟩
theorem befs_at : ∀ (l : List Oper) (acc : List Nat), ∃ news, befs l acc = acc ++ news ∧ news.length = l.length ∧ ∀ (k : Nat) (o : Oper), l[k]? = some o → news[k]? = some (orBits (acc ++ news.take k) o.after.toList 0)
  | [], acc => ⟨[], by simp [befs], rfl, by simp⟩
  | o :: l, acc => by
    have step : befs (o :: l) acc = befs l (acc ++ [orBits acc o.after.toList 0]) := by
      rw [befs]
      split <;> rename_i h <;> rw [h]
    obtain ⟨news, h1, h2, h3⟩ := befs_at l (acc ++ [orBits acc o.after.toList 0])
    refine ⟨orBits acc o.after.toList 0 :: news, by rw [step, h1]; simp, by simp [h2], fun k o' hk => ?_⟩
    cases k with
    | zero => simp at hk; subst hk; simp
    | succ k =>
      have := h3 k o' (by simpa using hk)
      simpa using this
/-- What lies before an operation is an edge's end or lies before one. -/
theorem before_inv {ops : Array Oper} {i j : Nat} {o : Oper} (ho : ops[i]? = some o) (h : ((befs ops.toList []).getD i 0).testBit j = true) :
    ∃ e ∈ o.after.toList, Region.binds .any e = true ∧ (((befs ops.toList []).getD e.on 0).testBit j = true ∨ j = e.on) := by
  obtain ⟨news, h1, h2, h3⟩ := befs_at ops.toList []
  have ho' : ops.toList[i]? = some o := by simpa using ho
  have := h3 i o ho'
  rw [List.nil_append] at h1 this
  rw [h1, List.getD_eq_getElem?_getD, this, Option.getD_some] at h
  rcases orBits_bit h with h | ⟨e, e1, e2, e3⟩
  · simp at h
  · refine ⟨e, e1, e2, e3.imp_left fun h => ?_⟩
    rw [h1, List.getD_eq_getElem?_getD]
    rw [List.getD_eq_getElem?_getD, List.getElem?_take] at h
    split at h
    · exact h
    · simp at h
section
variable {X : Ctx} {P : Program} {call : Call} {nt : Nat}
/-- The operations in an order; f: what each reads and writes. -/
def RunL (call : Call) (as : List AOper) (f : Nat → List Nat × List Nat) : List Nat → St → St → Prop
  | [], σ, σ' => σ = σ'
  | i :: r, σ, σ' => ∃ τ, aopF call (as.getD i noOp) σ = some (τ, f i) ∧ RunL call as f r τ σ'
theorem aopsF_runL {as : List AOper} : ∀ {l : List AOper} {fs gs : List (List Nat × List Nat)} {σ σ' : St}, (∀ j, l[j]? = as[fs.length + j]?) → aopsF call l fs σ = some (σ', gs) →
    (∃ ns, gs = fs ++ ns) ∧ RunL call as (fun i => gs.getD i ([], [])) (List.range' fs.length l.length) σ σ'
  | [], fs, gs, σ, σ', _, e => by cases e; exact ⟨⟨[], by simp⟩, rfl⟩
  | o :: l, fs, gs, σ, σ', hl, e => by
    obtain ⟨⟨τ, f⟩, e1, e2⟩ := kb_inv' (show kb (aopF call o σ) (fun s => aopsF call l (fs ++ [s.2]) s.1) = _ from e)
    obtain ⟨⟨ns, h1⟩, h2⟩ := aopsF_runL (as := as) (fun j => by
      have := hl (j + 1)
      rw [List.getElem?_cons_succ] at this
      rw [this]; congr 1; simp; omega) e2
    refine ⟨⟨f :: ns, by rw [h1]; simp⟩, ?_⟩
    rw [List.length_cons, List.range'_succ]
    refine ⟨τ, ?_, by simpa using h2⟩
    have h0 : as.getD fs.length noOp = o := by
      have := hl 0
      simp only [List.getElem?_cons_zero, Nat.add_zero] at this
      rw [List.getD_eq_getElem?_getD, ← this]; rfl
    have hf : gs.getD fs.length ([], []) = f := by
      rw [h1, List.getD_eq_getElem?_getD]
      simp
    show aopF call (as.getD fs.length noOp) σ = some (τ, gs.getD fs.length ([], []))
    rw [h0, hf]
    exact e1
theorem RunL.each {as : List AOper} {f : Nat → List Nat × List Nat} : ∀ {l : List Nat} {σ σ' : St}, RunL call as f l σ σ' → ∀ i ∈ l, ∃ τ τ', aopF call (as.getD i noOp) τ = some (τ', f i)
  | [], _, _, _, i, hi => by simp at hi
  | j :: l, σ, σ', ⟨τ, h1, h2⟩, i, hi => by
    rcases List.mem_cons.1 hi with rfl | hi
    · exact ⟨_, _, h1⟩
    · exact h2.each i hi
/-- The operation i goes first. -/
theorem RunL.front {as : List AOper} {f : Nat → List Nat × List Nat} {i : Nat} : ∀ {s : List Nat} {σ σ' : St}, RunL call as f s σ σ' → i ∈ s → s.Pairwise (· < ·) →
    (∀ j ∈ s, j < i → (as.getD j noOp).apart (as.getD i noOp) = true ∧ apartF (f j) (f i) = true) → RunL call as f (i :: s.filter (· != i)) σ σ'
  | [], _, _, _, hi, _, _ => by simp at hi
  | j :: s, σ, σ', ⟨τ, h1, h2⟩, hi, hs, hc => by
    obtain ⟨hs1, hs2⟩ := List.pairwise_cons.1 hs
    by_cases hj : j = i
    · subst hj
      refine ⟨τ, h1, ?_⟩
      have : (j :: s).filter (· != j) = s := by
        rw [List.filter_cons_of_neg (by simp)]
        exact List.filter_eq_self.2 fun k hk => by have := hs1 k hk; simp; omega
      rw [this]
      exact h2
    · have hi' : i ∈ s := (List.mem_cons.1 hi).resolve_left fun e => hj e.symm
      obtain ⟨τ', g1, g2⟩ := h2.front hi' hs2 fun k hk => hc k (by simp [hk])
      obtain ⟨a1, a2⟩ := hc j (by simp) (hs1 i hi')
      obtain ⟨υ, u1, u2⟩ := aopF_swap h1 g1 a1 a2
      refine ⟨υ, u1, ?_⟩
      rw [List.filter_cons_of_pos (by simpa using hj)]
      exact ⟨τ', u2, g2⟩
theorem edgesBack_inv {ops : Array Oper} (h : edgesBack ops = true) {i : Nat} {o : Oper} (ho : ops[i]? = some o) {e : Edge} (he : e ∈ o.after.toList) (hb : Region.binds .any e = true) : e.on < i := by
  unfold edgesBack at h
  rw [List.all_eq_true] at h
  have := h (o, i) (by
    rw [List.mem_zipIdx_iff_getElem?]
    simpa using ho)
  rw [List.all_eq_true] at this
  have := this e he
  simpa [hb] using this
theorem dregion_any (hcall : CallOK P call) {ops : Array Oper} {ps as : List AOper} (ht : trOpers P nt ops ps ops.toList = some as) (hb : edgesBack ops = true) {f : Nat → List Nat × List Nat} {σ' : St} {Q : Exit → Act → World → Prop}
    (hfree : ∀ i j, j < i → i < ops.size → ((befs ops.toList []).getD i 0).testBit j = false → (as.getD j noOp).apart (as.getD i noOp) = true ∧ apartF (f j) (f i) = true) (hQ : ∀ a' w', StRel X nt σ' a' w' → Q .normal a' w') :
    ∀ (fuel : Nat) (s : List Nat) (listed : Array Bool) (a : Act) (w : World) (σ : St), s.length = fuel → s.Pairwise (· < ·) → listed.size = ops.size → (∀ i, i ∈ s ↔ i < ops.size ∧ listed.getD i true = false) →
      (∀ i, i < ops.size → i ∉ s → ∀ j, ((befs ops.toList []).getD i 0).testBit j = true → j ∉ s) → StRel X nt σ a w → RunL call as f s σ σ' → wpAny P .any ops Q fuel listed a w
  | 0, s, listed, a, w, σ, hlen, hs, hsz, hm, hcl, st, hr => by
    have : s = [] := List.eq_nil_of_length_eq_zero hlen
    subst this
    cases hr
    refine ⟨?_, hQ a w st⟩
    unfold Region.ready
    rw [List.filter_eq_nil_iff]
    intro i hi hc
    simp only [Bool.and_eq_true, Bool.not_eq_true'] at hc
    have := (hm i).2 ⟨List.mem_range.1 hi, hc.1⟩
    simp at this
  | fuel + 1, s, listed, a, w, σ, hlen, hs, hsz, hm, hcl, st, hr => by
    have hl : ∀ i, i < ops.size → i ∉ s → listed.getD i false = true := by
      intro i hi hns
      have h1 : ¬ listed.getD i true = false := fun h => hns ((hm i).2 ⟨hi, h⟩)
      have hi' : i < listed.size := by rw [hsz]; exact hi
      simp only [Array.getD, hi', dif_pos] at h1 ⊢
      simpa using h1
    constructor
    · intro hready
      cases s with
      | nil => simp at hlen
      | cons i s =>
        exfalso
        obtain ⟨hs1, hs2⟩ := List.pairwise_cons.1 hs
        obtain ⟨hi1, hi2⟩ := (hm i).1 (by simp)
        have ho : ops[i]? = some ops[i] := Array.getElem?_eq_getElem hi1
        have hin : i ∈ Region.ready .any ops listed := by
          unfold Region.ready
          rw [List.mem_filter]
          refine ⟨List.mem_range.2 hi1, ?_⟩
          rw [hi2, ho]
          simp only [Bool.not_false, Bool.true_and, Option.map_some, Option.getD_some]
          rw [← Array.all_toList, List.all_eq_true]
          intro e he
          cases hbe : Region.binds .any e with
          | false => rfl
          | true =>
            have hlt := edgesBack_inv hb ho he hbe
            have := hl e.on (by omega) (by
              intro h
              rcases List.mem_cons.1 h with h | h
              · omega
              · have := hs1 _ h; omega)
            simpa using this
        rw [hready] at hin
        simp at hin
    · intro i hi
      unfold Region.ready at hi
      rw [List.mem_filter, Bool.and_eq_true, Bool.not_eq_true'] at hi
      obtain ⟨hi1, hi2, hi3⟩ := hi
      have hi1 : i < ops.size := List.mem_range.1 hi1
      have his : i ∈ s := (hm i).2 ⟨hi1, hi2⟩
      have ho : ops[i]? = some ops[i] := Array.getElem?_eq_getElem hi1
      rw [ho, Option.map_some, Option.getD_some, ← Array.all_toList, List.all_eq_true] at hi3
      have hedge : ∀ e ∈ ops[i].after.toList, Region.binds .any e = true → e.on < ops.size ∧ e.on ∉ s := by
        intro e he hbe
        have h1 := hi3 e he
        rw [hbe] at h1
        have h1 : listed.getD e.on false = true := by simpa using h1
        have hlt := edgesBack_inv hb ho he hbe
        refine ⟨by omega, fun hin => ?_⟩
        have h2 := ((hm e.on).1 hin).2
        have h3 : e.on < listed.size := by omega
        simp only [Array.getD, h3, dif_pos] at h1 h2
        rw [h1] at h2
        cases h2
      have hbits : ∀ j, ((befs ops.toList []).getD i 0).testBit j = true → j ∉ s := by
        intro j hj
        obtain ⟨e, e1, e2, e3⟩ := before_inv ho hj
        obtain ⟨g1, g2⟩ := hedge e e1 e2
        rcases e3 with h | rfl
        · exact hcl e.on g1 g2 j h
        · exact g2
      obtain ⟨τ, r1, r2⟩ := hr.front his hs fun j hj hji => hfree i j hji hi1 (by
        cases h : ((befs ops.toList []).getD i 0).testBit j with
        | false => rfl
        | true => exact absurd hj (hbits j h))
      obtain ⟨_, hat⟩ := trOpers_at ht
      obtain ⟨p, ao, g1, g2⟩ := hat i ops[i] (by simp)
      have hao : as.getD i noOp = ao := by rw [List.getD_eq_getElem?_getD, g1]; rfl
      rw [hao] at r1
      have hmem' : ∀ k, k ∈ s.filter (· != i) ↔ k ∈ s ∧ k ≠ i := by intro k; simp [List.mem_filter]
      have hlisted : ∀ k b, (listed.setIfInBounds i true).getD k b = if k = i then true else listed.getD k b := by
        intro k b
        have hi' : i < listed.size := by omega
        by_cases hk : k = i
        · subst hk; simp [Array.getD, hi']
        · rw [if_neg hk]
          simp only [Array.getD_eq_getD_getElem?, Array.getElem?_setIfInBounds_ne (Ne.symm hk)]
      unfold wpOp
      simp only [ho]
      have hnext : ∀ a' w', StRel X nt τ a' w' → wpAny P .any ops Q fuel (listed.setIfInBounds i true) a' w' := by
        intro a' w' st'
        refine dregion_any hcall ht hb hfree hQ fuel (s.filter (· != i)) _ a' w' τ ?_ (hs.sublist List.filter_sublist) (by rw [Array.size_setIfInBounds]; exact hsz) (fun k => ?_) (fun k hk hns j hj hin => ?_) st' r2
        · have hnd : s.Nodup := hs.imp (fun h => Nat.ne_of_lt h)
          have := hnd.erase_eq_filter i
          rw [← this, List.length_erase_of_mem his, hlen]
          rfl
        · rw [hmem', hm, hlisted]
          by_cases hk : k = i
          · simp [hk]
          · simp [hk]
        · have hjs := (hmem' j).1 hin
          by_cases hki : k = i
          · subst hki; exact hbits j hj hjs.1
          · exact hcl k hk (fun h => hns ((hmem' k).2 ⟨h, hki⟩)) j hj hjs.1
      have := aop_sound (Q := Q) hcall g2 st (aopF_aop r1) hnext
      split
      · rename_i hw; rw [if_pos hw] at this; exact .inl this
      · rename_i hw; rw [if_neg hw] at this; exact this
theorem dregion_sound (hcall : CallOK P call) (hmix : P.follows .mixedOrders = true) {ops : Array Oper} {id : Nat} {ps as : List AOper} {ks : List Nat} (ht : trOpers P nt ops ps ops.toList = some as) (hap : allApart as (freePairs ops) = true) (hb : edgesBack ops = true) {σ σ' : St} {a : Act} {w : World} (s : StRel X nt σ a w)
    {fs : List (List Nat × List Nat)} (er : aopsF call as [] σ = some (σ', fs)) (hp : pairsOk fs (heapPairs as (freePairs ops)) = true) {Q : Exit → Act → World → Prop} (hK : ∀ a' w', StRel X nt ⟨keepE ks σ'.env, σ'.heap⟩ a' w' → Q .normal a' w') :
    (Code.region id ops true).wp P Q a w := by
  obtain ⟨hlen, _⟩ := trOpers_at ht
  have hlen : as.length = ops.size := by simpa using hlen
  obtain ⟨_, hr⟩ := aopsF_runL (as := as) (by simp) er
  rw [List.length_nil, hlen, ← List.range_eq_range'] at hr
  refine wp_region_any hmix (dregion_any hcall ht hb (f := fun i => fs.getD i ([], [])) (σ' := σ') (fun i j hji hi hbit => ?_) (fun a' w' st' => hK a' w' (let ⟨I, ρ, r, he, h1, h2⟩ := st'; ⟨I, ρ, r, he.keep ks, h1, h2⟩)) ops.size (List.range ops.size) _ a _ σ (by simp) List.pairwise_lt_range (by simp) (fun i => ?_) (fun i hi hn => absurd (List.mem_range.2 hi) hn) ?_ hr)
  · have hfp : (j, i) ∈ freePairs ops := by
      unfold freePairs
      simp only [List.mem_flatMap, List.mem_range, List.mem_filterMap]
      exact ⟨i, hi, j, hji, by rw [if_neg (by rw [hbit]; simp)]⟩
    refine ⟨List.all_eq_true.1 hap _ hfp, ?_⟩
    obtain ⟨τ, τ', h1⟩ := hr.each j (List.mem_range.2 (by omega))
    obtain ⟨υ, υ', h2⟩ := hr.each i (List.mem_range.2 hi)
    obtain ⟨x1, x2⟩ := aopF_still h1
    obtain ⟨y1, y2⟩ := aopF_still h2
    by_cases hh : (((as.getD j noOp).op.writes && (as.getD i noOp).op.touches) || ((as.getD j noOp).op.touches && (as.getD i noOp).op.writes)) = true
    · exact List.all_eq_true.1 hp (j, i) (List.mem_filter.2 ⟨hfp, hh⟩)
    · generalize fs.getD j ([], []) = fx at *
      generalize fs.getD i ([], []) = fy at *
      generalize (as.getD j noOp).op = ox at *
      generalize (as.getD i noOp).op = oy at *
      have wt : ∀ o : AOp, o.writes = true → o.touches = true := by
        intro o ho
        cases o with
        | conv c x => cases c <;> first | rfl | cases ho
        | _ => first | rfl | cases ho
      unfold apartF
      simp only [Bool.or_eq_true, Bool.and_eq_true, not_or, not_and, Bool.not_eq_true] at hh
      by_cases hx : ox.writes = true
      · have hty := hh.1 hx
        have hwy : oy.writes = false := by
          cases h : oy.writes with
          | false => rfl
          | true => rw [wt _ h] at hty; cases hty
        simp [y1 hwy, y2 hwy hty]
      · have hx : ox.writes = false := by simpa using hx
        by_cases hy : oy.writes = true
        · have htx : ox.touches = false := by
            cases h : ox.touches with
            | false => rfl
            | true => rw [hh.2 h] at hy; cases hy
          simp [x1 hx, x2 hx htx]
        · have hy : oy.writes = false := by simpa using hy
          simp [x1 hx, y1 hy]
  · constructor
    · intro hi
      have hi := List.mem_range.1 hi
      exact ⟨hi, by simp [Array.getD, hi]⟩
    · intro h; exact List.mem_range.2 h.1
  · obtain ⟨I, ρ, r, he, h1, h2⟩ := s
    have sm : Same w { w with drawn := w.drawn + 1 } := ⟨rfl, rfl, rfl, rfl⟩
    exact ⟨I, ρ, r.same sm, fun t => (he t).ext (Ext.same sm), h1, h2⟩
end
end Go.Proofs.Ytkeipmkiilimeaa.V
set_option linter.unusedSimpArgs false
namespace Go.Proofs.Ytkeipmkiilimeaa.V
open Go
section
variable {X : Ctx} {I : Nat → Prop} {ρ : Rho} {h : Heap} {w : World}
/-- No object of g lies where one of h does. -/
def Disj (ρ : Rho) (h : Heap) (ρg : Rho) (g : Heap) : Prop :=
  ∀ j oj b, g j = some (some oj) → (ρg j).bind RL.blk = some b → ∀ k ok, h k = some (some ok) → (ρ k).bind RL.blk ≠ some b
/-- A row that is taken over lies where it lay. -/
theorem row_over (s : SRel X I ρ h w) {id : Nat} {vw : Option (Nat × Nat)} {c : PV} {x : Value} (hl : h id = some (some (.row c true))) (hp : VRel I w ρ (.row id vw) x) :
    ∃ l : RL, (∀ b, l.blk = some b → (ρ id).bind RL.blk = some b) ∧ ∀ (ρ' : Rho) (st : Nat), ρ' st = some l → ORel I w ρ' st (.row (viewOf c vw) true) ∧ VRel I w ρ' (.row st none) x := by
  rcases row_at s hl hp with ⟨q1, rfl, q2, q3, q4, q5⟩ | ⟨b, base, N, cap, a, cap', q1, rfl, q2, q3, q4, q5, q6, q7⟩
  · refine ⟨.nil, (fun b h => by cases h), fun ρ' st hρ => ⟨.inl ⟨hρ, q2, ?_⟩, .row0 hρ⟩⟩
    cases vw with
    | none => exact q4
    | some q => exact PV.isSlice_sub q4
  · obtain ⟨o', rfl, hcap, ho'⟩ := q4
    rcases s.objs id _ hl with ⟨g1', _⟩ | ⟨b', base', N', cap0, arr, et, lo, hi', g1', z2, z3, z4, z5, z6, z7, z8⟩
    · rw [q1] at g1'; cases g1'
    · rw [q1] at g1'; cases g1'
      refine ⟨.row b (base + o' * N) N cap' (viewOf c vw).len, fun b' h => by rw [q1]; exact h, fun ρ' st hρ => ⟨.inr ⟨b, base + o' * N, N, cap', arr, et, lo, hi', hρ, z2, ?_, q3, q5, ?_, fun _ => z7 rfl, fun h => by cases h⟩, .row hρ q3⟩⟩
      · have := Nat.mul_le_mul_right N hcap
        rw [Nat.add_mul] at this
        omega
      · have hG0 := ContG.of z5 z6
        refine (ContG.to q5 q6 fun i hi => ?_ : ContRep I w b (base + o' * N) (viewOf c vw))
        rcases ho' with rfl | ⟨hz, _⟩
        · rw [q7 i hi]
          obtain ⟨u1, u2, u3⟩ := hG0 (viewOff vw + i) (by omega)
          refine ⟨u1, u2, fun j q hq => ?_⟩
          obtain ⟨v, hv, hp⟩ := u3 j q hq
          exact ⟨v, by rw [← hv, Nat.add_mul]; congr 2; omega, hp⟩
        · omega
theorem takeOwns_sound : ∀ {l : List ((Own × AV) × Value)} {h g h' g' : Heap} {ρg : Rho} (_ : SRel X I ρ h w) (_ : SRel X I ρg g w) (_ : Disj ρ h ρg g) (_ : ∀ q ∈ l, VRel I w ρ q.1.2 q.2) (_ : takeOwns (l.map (·.1)) h g = some (h', g')),
    ∃ ρg', SRel X I ρ h' w ∧ SRel X I ρg' g' w ∧ Disj ρ h' ρg' g' ∧ (∀ i l, ρg i = some l → ρg' i = some l) ∧
      (∀ q ∈ l, VRel I w ρg' (.row q.1.1.id none) q.2) ∧ ∀ j, h' j = h j ∨ ∃ c m, h j = some (some (.row c m)) ∧ h' j = some none
  | [], h, g, h', g', ρg, s, sg, d, _, e => by
    cases e
    exact ⟨ρg, s, sg, d, fun _ _ h => h, by simp, fun _ => .inl rfl⟩
  | ((o, v), x) :: l, h, g, h', g', ρg, s, sg, d, hv, e => by
    obtain ⟨hid, e⟩ := kn_inv (show kn (g o.id) (kb (takeOwn o h v) fun x => takeOwns (l.map (·.1)) x.2 (hup g o.id (some (some x.1)))) = _ from e)
    obtain ⟨⟨ob, h1⟩, e1, e2⟩ := kb_inv e
    have hx : VRel I w ρ v x := hv ((o, v), x) (by simp)
    have hv' : ∀ q ∈ l, VRel I w ρ q.1.2 q.2 := fun q hq => hv q (by simp [hq])
    have hρn := sg.used _ hid
    have blk : ∀ (lo : RL) (j : Nat), j ≠ o.id → (rup ρg o.id lo j).bind RL.blk = (ρg j).bind RL.blk := fun lo j e => by rw [rup_ne e]
    have ext : ∀ lo : RL, ∀ i l, ρg i = some l → rup ρg o.id lo i = some l := fun lo i l hi => by
      by_cases e : i = o.id
      · subst e; rw [hρn] at hi; cases hi
      · rwa [rup_ne e]
    have same : ∀ {ρ' : Rho} {lo : RL}, (∀ i l, rup ρg o.id lo i = some l → ρ' i = some l) → VRel I w (rup ρg o.id lo) (.row o.id none) x → VRel I w ρ' (.row o.id none) x := fun h1 h2 => h2.mono (fun _ h => h) (fun _ _ => rfl) h1
    unfold takeOwn at e1
    split at e1
    · cases e1
      have hz : (PV.emp o.n o.k).len = 0 ∧ (PV.emp o.n o.k).isSlice = true := by
        cases o.k <;> exact ⟨rfl, rfl⟩
      have sg' : SRel X I (rup ρg o.id .nil) (hup g o.id (some (some (.row (PV.emp o.n o.k) true)))) w :=
        sg.add (l := .nil) hid (fun b hb => by cases hb) ((Same.refl w).but _) rfl (.inl ⟨rup_same _ _ _, hz.1, hz.2⟩)
      obtain ⟨ρ', t1, t2, t3, t4, t5, t6⟩ := takeOwns_sound s sg' (fun j oj b hj hb => by
        by_cases e : j = o.id
        · subst e; rw [rup_same] at hb; cases hb
        · rw [blk _ _ e] at hb; rw [hup_ne e] at hj; exact d j oj b hj hb) hv' e2
      refine ⟨ρ', t1, t2, t3, fun i l hi => t4 i l (ext _ i l hi), fun q hq => ?_, t6⟩
      rcases List.mem_cons.1 hq with rfl | hq
      · cases hx with
        | pv hp => cases hp; exact .row0 (t4 _ _ (rup_same _ _ _))
      · exact t5 q hq
    · rename_i id vw _
      obtain ⟨ob', hl, e1⟩ := kg_inv e1
      unfold takeRow at e1
      split at e1
      · rename_i c
        cases e1
        have hdel : SRel X I ρ (hup h id (some none)) w := s.del hl
        have hlive : ∀ j oj, hup h id (some none) j = some (some oj) → h j = some (some oj) ∧ j ≠ id := by
          intro j oj hj
          by_cases e : j = id
          · subst e; rw [hup_same] at hj; cases hj
          · rw [hup_ne e] at hj; exact ⟨hj, e⟩
        have hchg : ∀ j, hup h id (some none) j = h j ∨ ∃ c m, h j = some (some (.row c m)) ∧ hup h id (some none) j = some none := by
          intro j
          by_cases e : j = id
          · subst e; exact .inr ⟨c, true, hl, hup_same _ _ _⟩
          · exact .inl (hup_ne e)
        obtain ⟨lo, hlo, l2⟩ := row_over s hl hx
        have sg' := sg.add (l := lo) hid (fun b hb => .inr ⟨(s.muts id _ b hl rfl (hlo b hb)).1, (s.muts id _ b hl rfl (hlo b hb)).2, fun j oj hj hb' => d j oj b hj hb' id _ hl (hlo b hb)⟩) ((Same.refl w).but _) rfl (l2 _ _ (rup_same _ _ _)).1
        obtain ⟨ρ', t1, t2, t3, t4, t5, t6⟩ := takeOwns_sound hdel sg' (fun j oj b hj hb k ok hk hkb => by
          obtain ⟨hk1, hk2⟩ := hlive k ok hk
          by_cases e : j = o.id
          · subst e; rw [rup_same] at hb
            exact hk2 (s.sep k id _ _ b hk1 hl hkb (hlo b hb))
          · rw [blk _ _ e] at hb; rw [hup_ne e] at hj; exact d j oj b hj hb k ok hk1 hkb) (fun q hq => hv' q hq) e2
        refine ⟨ρ', t1, t2, t3, fun i l hi => t4 i l (ext _ i l hi), fun q hq => ?_, fun j => ?_⟩
        · rcases List.mem_cons.1 hq with rfl | hq
          · exact same t4 (l2 _ _ (rup_same _ _ _)).2
          · exact t5 q hq
        · rcases t6 j with h1 | ⟨c1, m1, h1, h2⟩
          · rcases hchg j with h2 | ⟨c2, m2, h2, h3⟩
            · exact .inl (h1.trans h2)
            · exact .inr ⟨c2, m2, h2, h1.trans h3⟩
          · exact .inr ⟨c1, m1, (hlive j _ h1).1, h2⟩
      · cases e1
    · cases e1
/-- The blocks in which rows lie that are left. -/
def Ileft (I : Nat → Prop) (ρ : Rho) (h : Heap) : Nat → Prop := fun b => I b ∨ ∃ j c m, h j = some (some (.row c m)) ∧ (ρ j).bind RL.blk = some b
theorem scrub1_sound (s : SRel X I ρ h w) {ids : List Nat} {ρ' : Rho} (hρ : ∀ i ∈ ids, ρ' i = ρ i) {v : AV} {x : Value} (hv : VRel I w ρ v x) : VRel (Ileft I ρ h) w ρ' (scrub1 ids h v) x := by
  have hI : ∀ b, I b → Ileft I ρ h b := fun _ h => .inl h
  unfold scrub1
  split
  · cases hv with
    | pv hp => exact .pv (hp.mono hI fun _ _ => rfl)
  · cases hv with
    | cell cs b off hb hs hc =>
      refine .cell _ b off (hI _ hb) hs fun j c hj => ?_
      obtain ⟨v, hv, hp⟩ := hc j c hj
      exact ⟨v, hv, hp.mono hI fun _ _ => rfl⟩
  · cases hv; exact .und
  · split
    · rename_i id off hc
      cases hv with
      | ptr hb => exact .ptr (by rw [hρ _ (by simpa using hc)]; exact hb)
    · exact .bad _
  · split
    · rename_i id hc
      cases hv with
      | mapr hb => exact .mapr (by rw [hρ _ (by simpa using hc)]; exact hb)
    · exact .bad _
  · split
    · rename_i id hc
      cases hv with
      | iter hb => exact .iter (by rw [hρ _ (by simpa using hc)]; exact hb)
    · exact .bad _
  · rename_i id vw
    unfold rowAV
    split
    · rename_i c m hc
      have e : (frz1K (.row id vw) fun p _ => .ret (.pv p)).run noCall h = some (.pv (viewOf c vw), h) := by
        show kg (h id) _ = _
        rw [hc]
        rfl
      obtain ⟨p, ids', e1, _, hl, hp⟩ := frz1_sound s hv e
      cases e1
      refine .pv (hp.mono (fun b hb => ?_) fun _ _ => rfl)
      rcases hb with hb | ⟨i, hi, hb⟩
      · exact .inl hb
      · obtain ⟨c', hc'⟩ := hl i hi
        exact .inr ⟨i, _, _, hc', hb⟩
    · exact .bad _
  · exact .bad _
theorem scrub_sound (s : SRel X I ρ h w) {ids : List Nat} {ρ' : Rho} (hρ : ∀ i ∈ ids, ρ' i = ρ i) {v : AV} {x : Value} (hv : VRel I w ρ v x) : VRel (Ileft I ρ h) w ρ' (scrub ids h v) x := by
  unfold scrub
  split
  · rename_i cs
    cases hv with
    | agg _ vs hl hs hc =>
      unfold aggAV
      split
      · rename_i hall
        refine mkAgg_rep (by simpa using hl) (fun c hc => List.all_eq_true.1 hall c hc) fun i c v hi hv => ?_
        simp only [List.getElem?_map, Option.map_eq_some_iff] at hi
        obtain ⟨c0, h0, rfl⟩ := hi
        exact scrub1_sound s hρ (hc i c0 v h0 hv)
      · exact .bad _
  · exact scrub1_sound s hρ hv
end
end Go.Proofs.Ytkeipmkiilimeaa.V
set_option linter.unusedSimpArgs false
namespace Go.Proofs.Ytkeipmkiilimeaa.V
open Go
def cellVals (ρ : Rho) (w : World) (id : Nat) : List Value :=
  match ρ id with
  | some (.obj b) => match w.heap[b]? with
    | some (.cells arr _ _) => arr.toList
    | _ => []
  | _ => []
def ownCellsV : List (Option Own) → List AV → List Value → List ((Own × AV) × Value)
  | some o :: s, v :: vs, xs => ((o, v), xs.headD undef) :: ownCellsV s vs xs.tail
  | none :: s, _ :: vs, xs => ownCellsV s vs xs.tail
  | _, _, _ => []
def ownSlotsV (e : Env) (tmps : Array Value) : List (Nat × Option Own) → List ((Own × AV) × Value)
  | [] => []
  | (t, some o) :: r => ((o, e t), tmps.getD t undef) :: ownSlotsV e tmps r
  | (_, none) :: r => ownSlotsV e tmps r
def ownObjsV (ρ : Rho) (w : World) (h : Heap) : List (Nat × List (Option Own)) → List ((Own × AV) × Value)
  | [] => []
  | (id, spec) :: r => ownCellsV spec (cellsAt (h id)) (cellVals ρ w id) ++ ownObjsV ρ w h r
theorem ownCellsV_fst : ∀ (s : List (Option Own)) (vs : List AV) (xs : List Value), (ownCellsV s vs xs).map (·.1) = ownCells s vs
  | [], vs, xs => by simp [ownCellsV, ownCells]
  | none :: s, [], xs => by simp [ownCellsV, ownCells]
  | some o :: s, [], xs => by simp [ownCellsV, ownCells]
  | none :: s, v :: vs, xs => ownCellsV_fst s vs xs.tail
  | some o :: s, v :: vs, xs => congrArg ((o, v) :: ·) (ownCellsV_fst s vs xs.tail)
theorem ownSlotsV_fst (e : Env) (tmps : Array Value) : ∀ l, (ownSlotsV e tmps l).map (·.1) = ownSlots e l
  | [] => rfl
  | (t, some o) :: r => congrArg ((o, e t) :: ·) (ownSlotsV_fst e tmps r)
  | (_, none) :: r => ownSlotsV_fst e tmps r
theorem ownObjsV_fst (ρ : Rho) (w : World) (h : Heap) : ∀ l, (ownObjsV ρ w h l).map (·.1) = ownObjs h l
  | [] => rfl
  | (id, spec) :: r => by
    simp only [ownObjsV, ownObjs, List.map_append, ownCellsV_fst, ownObjsV_fst ρ w h r]
theorem ownCellsV_rel {R : AV → Value → Prop} : ∀ {s : List (Option Own)} {vs : List AV} {xs : List Value}, (∀ (i : Nat) (v : AV), vs[i]? = some v → R v (xs.getD i undef)) → ∀ q ∈ ownCellsV s vs xs, R q.1.2 q.2
  | [], vs, xs, _, q, hq => by simp [ownCellsV] at hq
  | none :: s, [], xs, _, q, hq => by simp [ownCellsV] at hq
  | some o :: s, [], xs, _, q, hq => by simp [ownCellsV] at hq
  | none :: s, v :: vs, xs, hr, q, hq => ownCellsV_rel (s := s) (fun i v hi => by have := hr (i + 1) v (by simpa using hi); cases xs <;> simpa using this) q hq
  | some o :: s, v :: vs, xs, hr, q, hq => by
    rcases List.mem_cons.1 hq with rfl | hq
    · have := hr 0 v rfl; cases xs <;> simpa using this
    · exact ownCellsV_rel (s := s) (fun i v hi => by have := hr (i + 1) v (by simpa using hi); cases xs <;> simpa using this) q hq
theorem newCells_at {ids : List Nat} {h : Heap} : ∀ (s : List (Option Own)) (cs : List AV), (newCells ids h s cs).length = cs.length ∧ ∀ (i : Nat) (c' : AV), (newCells ids h s cs)[i]? = some c' →
    ∃ c, cs[i]? = some c ∧ (c' = scrub1 ids h c ∨ ∃ o : Own, c' = .row o.id none ∧ ∀ xs : List Value, ((o, c), xs.getD i undef) ∈ ownCellsV s cs xs)
  | [], [] => ⟨rfl, by simp [newCells]⟩
  | none :: s, [] => ⟨rfl, by simp [newCells]⟩
  | some o :: s, [] => ⟨rfl, by simp [newCells]⟩
  | [], v :: vs => by
    obtain ⟨h1, h2⟩ := newCells_at (ids := ids) (h := h) [] vs
    refine ⟨by simp [newCells, h1], fun i c' hc => ?_⟩
    cases i with
    | zero => simp [newCells] at hc; exact ⟨v, rfl, .inl hc.symm⟩
    | succ i =>
      obtain ⟨c, g1, g2⟩ := h2 i c' (by simpa [newCells] using hc)
      refine ⟨c, by simpa using g1, g2.imp_right fun ⟨o, _, g3⟩ => ?_⟩
      have := g3 []
      simp [ownCellsV] at this
  | none :: s, v :: vs => by
    obtain ⟨h1, h2⟩ := newCells_at (ids := ids) (h := h) s vs
    refine ⟨by simp [newCells, h1], fun i c' hc => ?_⟩
    cases i with
    | zero => simp [newCells] at hc; exact ⟨v, rfl, .inl hc.symm⟩
    | succ i =>
      obtain ⟨c, g1, g2⟩ := h2 i c' (by simpa [newCells] using hc)
      refine ⟨c, by simpa using g1, g2.imp_right fun ⟨o, g3, g4⟩ => ⟨o, g3, fun xs => ?_⟩⟩
      have := g4 xs.tail
      cases xs <;> simpa [ownCellsV] using this
  | some o :: s, v :: vs => by
    obtain ⟨h1, h2⟩ := newCells_at (ids := ids) (h := h) s vs
    refine ⟨by simp [newCells, h1], fun i c' hc => ?_⟩
    cases i with
    | zero =>
      simp [newCells] at hc
      exact ⟨v, rfl, .inr ⟨o, hc.symm, fun xs => by cases xs <;> simp [ownCellsV]⟩⟩
    | succ i =>
      obtain ⟨c, g1, g2⟩ := h2 i c' (by simpa [newCells] using hc)
      refine ⟨c, by simpa using g1, g2.imp_right fun ⟨o, g3, g4⟩ => ⟨o, g3, fun xs => ?_⟩⟩
      have := g4 xs.tail
      cases xs <;> exact List.mem_cons.2 (.inr (by simpa using this))
theorem putObjs_at {ids : List Nat} {h0 h : Heap} : ∀ {l : List (Nat × List (Option Own))} {g g' : Heap}, putObjs ids h0 h l g = some g' →
    (∀ j, j ∉ objIds l → g' j = g j) ∧ ∀ q ∈ l, g q.1 = none ∧ ∃ ob ob', h0 q.1 = some (some ob) ∧ newObj ids h q.2 ob = some ob' ∧ g' q.1 = some (some ob')
  | [], g, g', e => by cases e; exact ⟨fun _ _ => rfl, by simp⟩
  | (id, spec) :: r, g, g', e => by
    obtain ⟨h1, e⟩ := kn_inv (show kn (g id) (kg (h0 id) fun ob => kb (newObj ids h spec ob) fun ob' => putObjs ids h0 h r (hup g id (some (some ob')))) = _ from e)
    obtain ⟨ob, h2, e⟩ := kg_inv e
    obtain ⟨ob', h3, e⟩ := kb_inv e
    obtain ⟨h4, h5⟩ := putObjs_at e
    have ne : ∀ q ∈ r, q.1 ≠ id := by
      intro q hq he
      have := (h5 q hq).1
      rw [he, hup_same] at this
      cases this
    have nin : id ∉ objIds r := by
      have key : ∀ l : List (Nat × List (Option Own)), (∀ q ∈ l, q.1 ≠ id) → id ∉ objIds l := by
        intro l
        induction l with
        | nil => intro _; simp [objIds]
        | cons q l ih =>
          intro hl hm
          rcases List.mem_cons.1 (show id ∈ q.1 :: objIds l from hm) with e | hm
          · exact hl q (by simp) e.symm
          · exact ih (fun q hq => hl q (by simp [hq])) hm
      exact key r ne
    refine ⟨fun j hj => ?_, fun q hq => ?_⟩
    · have hj' : j ≠ id ∧ j ∉ objIds r := by
        have : j ∉ id :: objIds r := hj
        simpa using this
      rw [h4 j hj'.2, hup_ne hj'.1]
    · rcases List.mem_cons.1 hq with rfl | hq
      · exact ⟨h1, ob, ob', h2, h3, by rw [h4 _ nin, hup_same]⟩
      · obtain ⟨g1, g2⟩ := h5 q hq
        rw [hup_ne (ne q hq)] at g1
        exact ⟨g1, g2⟩
theorem objIds_mem : ∀ {l : List (Nat × List (Option Own))} {j : Nat}, j ∈ objIds l → ∃ spec, (j, spec) ∈ l
  | [], j, h => by simp [objIds] at h
  | (id, spec) :: r, j, h => by
    rcases List.mem_cons.1 (show j ∈ id :: objIds r from h) with rfl | h
    · exact ⟨spec, by simp⟩
    · obtain ⟨s, hs⟩ := objIds_mem h
      exact ⟨s, by simp [hs]⟩
section
variable {X : Ctx} {nt : Nat} {a : Act} {w : World}
theorem canon_sound {cn : Canon} {σ τ : St} (e : canon cn σ = some τ) (s : StRel X nt σ a w) : StRel X nt τ a w := by
  obtain ⟨I, ρ, r, he, hn, hd⟩ := s
  obtain ⟨⟨h', g⟩, e1, e⟩ := kb_inv (show kb (takeOwns (ownSlots σ.env cn.slots ++ ownObjs σ.heap cn.objs) σ.heap hp0) (fun x => kb (putObjs (objIds cn.objs) σ.heap x.1 cn.objs x.2) fun g => some (⟨newEnv (objIds cn.objs) x.1 σ.env cn.slots, g⟩ : St)) = _ from e)
  obtain ⟨gf, e2, e⟩ := kb_inv e
  cases e
  obtain ⟨p1, p2⟩ := putObjs_at e2
  have p1 : ∀ j, j ∉ objIds cn.objs → gf j = g j := p1
  -- the cells of a variable
  have cellRel : ∀ id cs, σ.heap id = some (some (.vars cs)) → (cellVals ρ w id).length = cs.length ∧ ∀ (i : Nat) (v : AV), cs[i]? = some v → VRel I w ρ v ((cellVals ρ w id).getD i undef) := by
    intro id cs hid
    obtain ⟨b, arr, et, q1, q2, q3, q4, q5⟩ := r.objs id _ hid
    have hv : cellVals ρ w id = arr.toList := by unfold cellVals; rw [q1]; simp only [q2]
    rw [hv]
    refine ⟨by simpa using q3, fun i v hi => ?_⟩
    have hlt : i < arr.size := by rw [q3]; exact (List.getElem?_eq_some_iff.1 hi).1
    exact q5 i v _ hi (by rw [List.getD_eq_getElem?_getD]; simp [hlt])
  have hv : ∀ q ∈ ownSlotsV σ.env a.tmps cn.slots ++ ownObjsV ρ w σ.heap cn.objs, VRel I w ρ q.1.2 q.2 := by
    intro q hq
    rcases List.mem_append.1 hq with hq | hq
    · have key : ∀ l, q ∈ ownSlotsV σ.env a.tmps l → VRel I w ρ q.1.2 q.2 := by
        intro l
        induction l with
        | nil => intro h; simp [ownSlotsV] at h
        | cons x l ih =>
          obtain ⟨t, o⟩ := x
          cases o with
          | none => exact ih
          | some o =>
            intro h
            rcases List.mem_cons.1 h with rfl | h
            · exact he t
            · exact ih h
      exact key _ hq
    · have key : ∀ l, (∀ p ∈ l, ∃ ob ob', σ.heap p.1 = some (some ob) ∧ newObj (objIds cn.objs) h' p.2 ob = some ob') → q ∈ ownObjsV ρ w σ.heap l → VRel I w ρ q.1.2 q.2 := by
        intro l
        induction l with
        | nil => intro _ h; simp [ownObjsV] at h
        | cons x l ih =>
          intro hl h
          rcases List.mem_append.1 h with h | h
          · obtain ⟨ob, ob', h1, h2⟩ := hl x (by simp)
            cases ob with
            | vars cs =>
              have hc : cellsAt (σ.heap x.1) = cs := by rw [h1]; rfl
              exact ownCellsV_rel (R := VRel I w ρ) (fun i v hi => (cellRel x.1 cs h1).2 i v (by rw [hc] at hi; exact hi)) q h
            | _ =>
              have hc : cellsAt (σ.heap x.1) = [] := by rw [h1]; rfl
              rw [hc] at h
              have : ownCellsV x.2 [] (cellVals ρ w x.1) = [] := by cases x.2 with
                | nil => simp [ownCellsV]
                | cons o s => cases o <;> simp [ownCellsV]
              rw [this] at h
              simp at h
          · exact ih (fun p hp => hl p (by simp [hp])) h
      exact key _ (fun p hp => let ⟨_, ob, ob', h1, h2, _⟩ := p2 p hp; ⟨ob, ob', h1, h2⟩) hq
  have base : SRel X I (fun _ => none) hp0 w := { used := fun _ _ => rfl, objs := (fun _ _ h => by cases h), sep := (fun _ _ _ _ _ h => by cases h), muts := (fun _ _ _ h => by cases h), inI := r.inI, i0 := r.i0, size := r.size, keep := r.keep, os := r.os, tape := r.tape, output := r.output }
  obtain ⟨ρg, t1, t2, t3, _, t5, t6⟩ := takeOwns_sound (l := ownSlotsV σ.env a.tmps cn.slots ++ ownObjsV ρ w σ.heap cn.objs) r base (fun j oj b hj => by cases hj) hv (by rw [List.map_append, ownSlotsV_fst, ownObjsV_fst]; exact e1)
  have hnone : ∀ i ∈ objIds cn.objs, g i = none := by
    intro i hi
    obtain ⟨spec, hs⟩ := objIds_mem hi
    exact (p2 _ hs).1
  -- what is kept of the places
  have hρ : ∃ ρ' : Rho, (∀ i ∈ objIds cn.objs, ρ' i = ρ i) ∧ (∀ i, i ∉ objIds cn.objs → ρ' i = ρg i) ∧ ∀ i l, ρg i = some l → ρ' i = some l := by
    refine ⟨fun i => if i ∈ objIds cn.objs then ρ i else ρg i, fun i hi => if_pos hi, fun i hi => if_neg hi, fun i l hi => ?_⟩
    have : i ∉ objIds cn.objs := fun h => by rw [t2.used i (hnone i h)] at hi; cases hi
    exact (if_neg this).trans hi
  obtain ⟨ρ', r1, r2, r3⟩ := hρ
  have ex : Ext I ρg w (Ileft I ρ h') ρ' w := ⟨fun _ h => .inl h, r3, fun _ _ => rfl⟩
  have live' : ∀ j oj, h' j = some (some oj) → σ.heap j = some (some oj) := by
    intro j oj hj
    rcases t6 j with h | ⟨c, m, h1, h2⟩
    · rw [← h]; exact hj
    · rw [h2] at hj; cases hj
  have keptAt : ∀ j ∈ objIds cn.objs, ∃ spec ob ob', σ.heap j = some (some ob) ∧ newObj (objIds cn.objs) h' spec ob = some ob' ∧ gf j = some (some ob') ∧ h' j = some (some ob) ∧ ob.mutable = true ∧ (j, spec) ∈ cn.objs ∧ ∀ c m, ob ≠ .row c m := by
    intro j hj
    obtain ⟨spec, hs⟩ := objIds_mem hj
    obtain ⟨_, ob, ob', h1, h2, h3⟩ := p2 _ hs
    have hnr : ∀ c m, ob ≠ .row c m := by
      intro c m hc
      subst hc
      cases h2
    refine ⟨spec, ob, ob', h1, h2, h3, ?_, ?_, hs, hnr⟩
    · rcases t6 j with h | ⟨c, m, h4, h5⟩
      · rw [h]; exact h1
      · rw [h1] at h4; cases h4; exact (hnr _ _ rfl).elim
    · cases ob with
      | row c m => exact (hnr c m rfl).elim
      | _ => rfl
  have notLeft : ∀ j ∈ objIds cn.objs, ∀ b, (ρ j).bind RL.blk = some b → ¬ Ileft I ρ h' b ∧ (X.B ≤ b ∨ X.M b) := by
    intro j hj b hb
    obtain ⟨spec, ob, ob', h1, h2, h3, h4, h5, _, h6⟩ := keptAt j hj
    obtain ⟨m1, m2⟩ := r.muts j ob b h1 h5 hb
    refine ⟨fun h => h.elim m1 fun ⟨k, c, m, hk, hkb⟩ => ?_, m2⟩
    have := t1.sep k j _ _ b hk h4 hkb hb
    subst this
    rw [h4] at hk; cases hk
    exact h6 _ _ rfl
  have ownIn : ∀ j spec cs, (j, spec) ∈ cn.objs → σ.heap j = some (some (.vars cs)) → ∀ q ∈ ownCellsV spec cs (cellVals ρ w j), q ∈ ownSlotsV σ.env a.tmps cn.slots ++ ownObjsV ρ w σ.heap cn.objs := by
    intro j spec cs hs hc q hq
    refine List.mem_append.2 (.inr ?_)
    have key : ∀ l, (j, spec) ∈ l → q ∈ ownObjsV ρ w σ.heap l := by
      intro l
      induction l with
      | nil => intro h; simp at h
      | cons x l ih =>
        intro h
        refine List.mem_append.2 ?_
        rcases List.mem_cons.1 h with rfl | h
        · left
          show q ∈ ownCellsV spec (cellsAt (σ.heap j)) (cellVals ρ w j)
          rw [hc]; exact hq
        · exact .inr (ih h)
    exact key _ hs
  refine ⟨Ileft I ρ h', ρ', { used := ?_, objs := ?_, sep := ?_, muts := ?_, inI := ?_, i0 := fun b hb => .inl (r.i0 b hb), size := r.size, keep := r.keep, os := r.os, tape := r.tape, output := r.output }, ?_, hn, hd⟩
  · intro j hj
    by_cases hji : j ∈ objIds cn.objs
    · obtain ⟨_, _, _, _, _, h3, _⟩ := keptAt j hji
      have hj : gf j = none := hj
      rw [h3] at hj; cases hj
    · rw [r2 j hji]
      exact t2.used j (by rw [← p1 j hji]; exact hj)
  · intro j oj hj
    by_cases hji : j ∈ objIds cn.objs
    · obtain ⟨spec, ob, ob', h1, h2, h3, h4, h5, hs, h6⟩ := keptAt j hji
      have hj : gf j = some (some oj) := hj
      rw [h3] at hj; cases hj
      have ho := r.objs j ob h1
      cases ob with
      | row c m => exact (h6 c m rfl).elim
      | map kvs =>
        cases h2
        obtain ⟨b, es, ck, g1, g2, g3, g4⟩ := ho
        exact ⟨b, es, ck, (r1 j hji).trans g1, g2, g3, fun i kv e hk he => ⟨(g4 i kv e hk he).1.mono (fun _ h => .inl h) (fun _ _ => rfl), (g4 i kv e hk he).2.mono (fun _ h => .inl h) (fun _ _ => rfl)⟩⟩
      | iter sx pos =>
        cases h2
        obtain ⟨b, t, g1, g2, g3⟩ := ho
        exact ⟨b, t, (r1 j hji).trans g1, g2, g3⟩
      | vars cs =>
        have h2 : varsO (newCells (objIds cn.objs) h' spec cs) = some oj := h2
        unfold varsO at h2
        split at h2
        · rename_i hall
          cases h2
          obtain ⟨n1, n2⟩ := newCells_at (ids := objIds cn.objs) (h := h') spec cs
          obtain ⟨b, arr, et, q1, q2, q3, q4, q5⟩ := ho
          refine ⟨b, arr, et, (r1 j hji).trans q1, q2, by rw [n1]; exact q3, fun c hc => List.all_eq_true.1 hall c hc, fun i c' v hc hv => ?_⟩
          obtain ⟨c, hc0, hcc⟩ := n2 i c' hc
          have hcv := q5 i c v hc0 hv
          rcases hcc with rfl | ⟨o, rfl, hmem⟩
          · have := scrub1_sound (ids := objIds cn.objs) (ρ' := ρ') t1 r1 hcv
            exact this
          · have hval : (cellVals ρ w j).getD i undef = v := by
              have : cellVals ρ w j = arr.toList := by unfold cellVals; rw [q1]; simp only [q2]
              rw [this, List.getD_eq_getElem?_getD]
              simp [hv]
            have := t5 _ (ownIn j spec cs hs h1 _ (hmem (cellVals ρ w j)))
            rw [hval] at this
            exact this.ext ex
        · cases h2
    · have hj : gf j = some (some oj) := hj
      rw [p1 j hji] at hj
      exact (t2.objs j oj hj).ext ex fun _ _ => rfl
  · intro i j oi oj b hi hj hbi hbj
    have hi : gf i = some (some oi) := hi
    have hj : gf j = some (some oj) := hj
    by_cases hii : i ∈ objIds cn.objs <;> by_cases hji : j ∈ objIds cn.objs
    · obtain ⟨_, ob1, _, g1, _⟩ := keptAt i hii
      obtain ⟨_, ob2, _, g2, _⟩ := keptAt j hji
      rw [r1 i hii] at hbi
      rw [r1 j hji] at hbj
      exact r.sep i j _ _ b g1 g2 hbi hbj
    · obtain ⟨_, ob1, _, _, _, _, g4, _⟩ := keptAt i hii
      rw [r1 i hii] at hbi
      rw [r2 j hji] at hbj
      rw [p1 j hji] at hj
      exact absurd hbi (t3 j oj b hj hbj i _ g4)
    · obtain ⟨_, ob1, _, _, _, _, g4, _⟩ := keptAt j hji
      rw [r1 j hji] at hbj
      rw [r2 i hii] at hbi
      rw [p1 i hii] at hi
      exact absurd hbj (t3 i oi b hi hbi j _ g4)
    · rw [r2 i hii] at hbi
      rw [r2 j hji] at hbj
      rw [p1 i hii] at hi
      rw [p1 j hji] at hj
      exact t2.sep i j oi oj b hi hj hbi hbj
  · intro j oj b hj hm hb
    have hj : gf j = some (some oj) := hj
    by_cases hji : j ∈ objIds cn.objs
    · rw [r1 j hji] at hb
      exact notLeft j hji b hb
    · rw [r2 j hji] at hb
      rw [p1 j hji] at hj
      obtain ⟨m1, m2⟩ := t2.muts j oj b hj hm hb
      refine ⟨fun h => h.elim m1 fun ⟨k, c, m, hk, hkb⟩ => t3 j oj b hj hb k _ hk hkb, m2⟩
  · rintro b (hb | ⟨k, c, m, hk, hkb⟩)
    · exact r.inI b hb
    · have ho := t1.objs k _ hk
      refine ⟨ho.blk_lt hkb, ?_⟩
      cases m with
      | true => exact .inr (t1.muts k _ b hk rfl hkb).2
      | false =>
        rcases ho with ⟨g1, _⟩ | ⟨b', base, n, cap, arr, e, lo, hi, g1, _, _, _, _, _, _, g8⟩
        · rw [g1] at hkb; cases hkb
        · rw [g1] at hkb; cases hkb; exact (r.inI _ (g8 rfl)).2
  · have key : ∀ l, (∀ q ∈ ownSlotsV σ.env a.tmps l, VRel I w ρg (.row q.1.1.id none) q.2) → ERel (Ileft I ρ h') w ρ' (newEnv (objIds cn.objs) h' σ.env l) a.tmps := by
      intro l
      induction l with
      | nil => intro _ t; exact .bad _
      | cons x l ih =>
        obtain ⟨t, o⟩ := x
        cases o with
        | none =>
          intro hl u
          show VRel _ _ _ (upd (newEnv (objIds cn.objs) h' σ.env l) t (scrub (objIds cn.objs) h' (σ.env t)) u) _
          unfold upd
          split
          · rename_i hu; subst hu; exact scrub_sound t1 r1 (he _)
          · exact ih hl u
        | some o =>
          intro hl u
          show VRel _ _ _ (upd (newEnv (objIds cn.objs) h' σ.env l) t (.row o.id none) u) _
          unfold upd
          split
          · rename_i hu; subst hu
            exact (hl _ (List.mem_cons.2 (.inl rfl))).ext ex
          · exact ih (fun q hq => hl q (List.mem_cons.2 (.inr hq))) u
    exact key _ fun q hq => t5 q (List.mem_append.2 (.inl hq))
end
end Go.Proofs.Ytkeipmkiilimeaa.V
set_option linter.unusedSimpArgs false
namespace Go.Proofs.Ytkeipmkiilimeaa.V
open Go
def resV (tmps : Array Value) : ResultVar → Sem Value
  | .tmp t => pure (tmps.getD t undef)
  | .cell a t => do loadVar t (← asAddr (tmps.getD a undef))
section
variable {X : Ctx} {w : World} {P : Program}
theorem mapM_run {α : Type} {f : α → Sem Value} : ∀ {rs : List α} {vs : List Value}, vs.length = rs.length → (∀ (i : Nat) (r : α) (v : Value), rs[i]? = some r → vs[i]? = some v → (f r).run P w = .ok v w) → (rs.mapM f).run P w = .ok vs w
  | [], [], _, _ => by simp
  | [], _ :: _, h, _ => by simp at h
  | _ :: _, [], h, _ => by simp at h
  | r :: rs, v :: vs, hl, h => by
    rw [List.mapM_cons]
    simp only [Sem.run_bind, h 0 r v rfl rfl, Result.andThen_ok, mapM_run (rs := rs) (vs := vs) (by simpa using hl) (fun i r v hr hv => h (i + 1) r v (by simpa using hr) (by simpa using hv)), Sem.run_pure]
theorem results_run {fn : Func} {tmps : Array Value} {vs : List Value} (hl : vs.length = fn.results.toList.length) (h : ∀ (i : Nat) (r : ResultVar) (v : Value), fn.results.toList[i]? = some r → vs[i]? = some v → (resV tmps r).run P w = .ok v w) :
    (Go.results fn tmps).run P w = .ok (retVal vs) w := by
  have e : Go.results fn tmps = (do let vs ← fn.results.mapM (resV tmps); pure (if h : vs.size = 1 then vs[0] else .tuple vs)) := by
    unfold Go.results
    congr 1
  rw [e, Array.mapM_eq_mapM_toList]
  simp only [Sem.run_bind, Sem.run_map, mapM_run hl h, Result.andThen_ok, Sem.run_pure]
  match vs with
  | [] => rfl
  | [v] => rfl
  | _ :: _ :: _ => rfl
theorem trRess_at : ∀ {rs : List ResultVar} {as : List ARes}, trRess P rs = some as → as.length = rs.length
  | [], as, e => by cases e; rfl
  | r :: rs, as, e => by
    simp only [trRess, Option.bind_eq_some_iff, Option.map_eq_some_iff] at e
    obtain ⟨x, _, ys, h, rfl⟩ := e
    simp [trRess_at h]
/-- One result: the value, and what it leaves of the heap. -/
inductive Res1 (P : Program) (X : Ctx) (I : Nat → Prop) (ρ : Rho) (h : Heap) (w : World) (x : Value) : AR → Heap → Prop
  | pv {p : PV} {ids : List Nat} (hl : Lent h ids) (hp : PRep (Iadds I ρ ids) w p x) : Res1 P X I ρ h w x (.pv p) (shutH ids h)
  | own {id : Nat} {vw : Option (Nat × Nat)} {c : PV} (hl : h id = some (some (.row c true))) (hp : VRel I w ρ (.row id vw) x) : Res1 P X I ρ h w x (.own (viewOf c vw)) (hup h id (some none))
variable {I : Nat → Prop} {ρ : Rho} {h : Heap}
theorem shutH_nil (h : Heap) : shutH [] h = h := funext fun j => by simp [shutH]
theorem Iadds_nil (I : Nat → Prop) (ρ : Rho) : Iadds I ρ [] = I := funext fun b => by simp [Iadds]
theorem lent_nil (h : Heap) : Lent h [] := fun _ hi => by simp at hi
theorem finish1_sound (s : SRel X I ρ h w) {v : AV} {x : Value} (hv : VRel I w ρ v x) {r : AR} {h' : Heap} (e : finish1 h v = some (r, h')) : Res1 P X I ρ h w x r h' := by
  unfold finish1 at e
  split at e
  · rename_i id vw
    obtain ⟨o, hid, e⟩ := kg_inv e
    unfold finRow at e
    split at e
    · cases e
      exact .own hid hv
    · rename_i c
      cases e
      have e : (frz1K (.row id vw) fun p _ => .ret (.pv p)).run noCall h = some (.pv (viewOf c vw), h) := by
        show kg (h id) _ = _
        rw [hid]
        rfl
      have e2 : (frz1K (.row id vw) fun p ids => chk ids.isEmpty (.ret (.pv p))).run noCall h = some (.pv (viewOf c vw), h) := by
        show kg (h id) _ = _
        rw [hid]
        rfl
      obtain ⟨p, ids', e1, _, hl, hp⟩ := frz1_sound s hv e2
      obtain ⟨he, e1⟩ := chk_inv e1
      cases e1
      have : ids' = [] := by simpa using he
      subst this
      have := Res1.pv (P := P) (X := X) (lent_nil h) hp
      rwa [shutH_nil] at this
    · cases e
  · cases e
    cases hv with
    | pv hp =>
      have := Res1.pv (P := P) (X := X) (ids := []) (lent_nil h) (by rw [Iadds_nil I ρ]; exact hp)
      rwa [shutH_nil] at this
  · rename_i cs
    obtain ⟨⟨v1, h1⟩, e1, e2⟩ := kb_inv e
    cases hv with
    | agg _ vs hl hs hc =>
      obtain ⟨ps, ids, e3, g1, g2, g3, g4⟩ := frzs_sound s (xs := vs.toList) (by simpa using hl) hs (fun i c x hc' hx => hc i c x hc' (by simpa using hx)) e1
      obtain ⟨e4, _⟩ := shuts_run e3
      cases e4
      cases e2
      exact .pv g3 (.agg ps vs (by simpa using g1) g2 fun i c v hc hv => g4 i c v hc (by simpa using hv))
  · cases e
theorem result1_sound (s : SRel X I ρ h w) {tmps : Array Value} {env : Env} (he : ERel I w ρ env tmps) {rv : ResultVar} {ar : ARes} (ht : trRes P rv = some ar) {r : AR} {h' : Heap} (e : result1 env h ar = some (r, h')) :
    ∃ x, (resV tmps rv).run P w = .ok x w ∧ Res1 P X I ρ h w x r h' := by
  cases rv with
  | tmp t =>
    cases ht
    exact ⟨_, rfl, finish1_sound s (he t) e⟩
  | cell t ty =>
    simp only [trRes, Option.bind_eq_some_iff] at ht
    obtain ⟨n, hn, g, hg, ht⟩ := ht
    split at ht
    · rename_i hc
      cases ht
      simp only [Bool.or_eq_true, beq_iff_eq] at hc
      obtain ⟨⟨v, h1⟩, e1, e2⟩ := kb_inv (show kb ((loadK n g (env t)).run noCall h) (fun r => finish1 r.2 r.1) = _ from e)
      obtain ⟨rfl, x, l1, hv⟩ := load_now hn hg hc s (he t) e1
      have hp : ∃ a, tmps.getD t undef = .pointer (some a) := by
        have hv := he t
        generalize tmps.getD t undef = z at *
        generalize env t = y at *
        unfold loadK at e1
        split at e1
        · cases hv; exact ⟨_, rfl⟩
        · cases hv; exact ⟨_, rfl⟩
        · cases hv; exact ⟨_, rfl⟩
        · exact (fail_inv e1).elim
      obtain ⟨a, ha⟩ := hp
      refine ⟨x, ?_, finish1_sound s hv e2⟩
      rw [ha] at l1
      show Sem.run P (do loadVar ty (← asAddr (tmps.getD t undef))) _ = _
      rw [ha]
      exact l1
    · cases ht
theorem retH_lt : ∀ (rs : List AR) (s t : Nat), t < s → retH s rs t = none
  | [], _, _, _ => rfl
  | q :: rs, s, t, ht => by
    cases q <;> simp only [retH, hup] <;> first | exact retH_lt rs (s + 1) t (by omega) | (rw [if_neg (by omega)]; exact retH_lt rs (s + 1) t (by omega))
theorem shutH_live {ids : List Nat} {h : Heap} {j : Nat} {oj : AObj} (hj : shutH ids h j = some (some oj)) : ∃ oj', h j = some (some oj') := by
  unfold shutH at hj
  split at hj
  · split at hj
    · exact ⟨_, ‹_›⟩
    · exact ⟨_, hj⟩
  · exact ⟨_, hj⟩
theorem results_sound {tmps : Array Value} {env : Env} : ∀ {rvs : List ResultVar} {ars : List ARes} {I : Nat → Prop} {h h' : Heap} {out : List AR} {st : Nat}, trRess P rvs = some ars → SRel X I ρ h w → ERel I w ρ env tmps → results env ars h = some (out, h') →
    ∃ (vs : List Value) (I' : Nat → Prop) (ρg : Rho), vs.length = rvs.length ∧ out.length = rvs.length ∧ (∀ (i : Nat) (r : ResultVar) (v : Value), rvs[i]? = some r → vs[i]? = some v → (resV tmps r).run P w = .ok v w) ∧ SRel X I' ρg (retH st out) w ∧
      (∀ b, I b → I' b) ∧ (∀ b, I' b → I b ∨ ∃ j oj, h j = some (some oj) ∧ (ρ j).bind RL.blk = some b) ∧ (∀ j oj b, retH st out j = some (some oj) → (ρg j).bind RL.blk = some b → ∃ k ok, h k = some (some ok) ∧ (ρ k).bind RL.blk = some b) ∧
      ∀ (i : Nat) (r : AR) (x : Value), out[i]? = some r → vs[i]? = some x → VRel I' w ρg (retE st out (st + i)) x
  | [], ars, I, h, h', out, st, ht, s, he, e => by
    cases ht
    cases e
    exact ⟨[], I, fun _ => none, rfl, rfl, by simp, { used := fun _ _ => rfl, objs := (fun _ _ h => by cases h), sep := (fun _ _ _ _ _ h => by cases h), muts := (fun _ _ _ h => by cases h), inI := s.inI, i0 := s.i0, size := s.size, keep := s.keep, os := s.os, tape := s.tape, output := s.output }, fun _ h => h, fun _ h => .inl h, (fun _ _ _ h => by cases h), by simp⟩
  | rv :: rvs, ars, I, h, h', out, st, ht, s, he, e => by
    simp only [trRess, Option.bind_eq_some_iff, Option.map_eq_some_iff] at ht
    obtain ⟨ar, ha, ars', hars, rfl⟩ := ht
    obtain ⟨⟨r0, h1⟩, e1, e⟩ := kb_inv (show kb (result1 env h ar) (fun x => kb (results env ars' x.2) fun y => some (x.1 :: y.1, y.2)) = _ from e)
    obtain ⟨⟨out', h2⟩, e2, e⟩ := kb_inv e
    cases e
    obtain ⟨x0, hx0, hr⟩ := result1_sound s he ha e1
    have runs : ∀ {vs : List Value}, (∀ (i : Nat) (r : ResultVar) (v : Value), rvs[i]? = some r → vs[i]? = some v → (resV tmps r).run P w = .ok v w) → ∀ (i : Nat) (r : ResultVar) (v : Value), (rv :: rvs)[i]? = some r → (x0 :: vs)[i]? = some v → (resV tmps r).run P w = .ok v w := by
      intro vs hv i r v h1 h2
      cases i with
      | zero => simp at h1 h2; subst h1; subst h2; exact hx0
      | succ i => exact hv i r v (by simpa using h1) (by simpa using h2)
    cases hr with
    | @pv p ids hl hp =>
      have sh : ∀ i ∈ ids, ∃ c m, h i = some (some (.row c m)) := fun i hi => let ⟨c, hc⟩ := hl i hi; ⟨c, true, hc⟩
      obtain ⟨vs, I', ρg, t1, t2, t3, t4, t5, t6, t7, t8⟩ := results_sound (st := st + 1) hars (s.shuts sh) (he.ext (Iadds.ext ids)) e2
      refine ⟨x0 :: vs, I', ρg, by simp [t1], by simp [t2], runs t3, t4, fun b hb => t5 b (.inl hb), fun b hb => ?_, fun j oj b hj hb => ?_, fun i r x hi hx => ?_⟩
      · rcases t6 b hb with (h3 | ⟨i, hi, h4⟩) | ⟨j, oj, h3, h4⟩
        · exact .inl h3
        · obtain ⟨c, m, hc⟩ := sh i hi
          exact .inr ⟨i, _, hc, h4⟩
        · obtain ⟨oj', h5⟩ := shutH_live h3
          exact .inr ⟨j, oj', h5, h4⟩
      · obtain ⟨k, ok, h3, h4⟩ := t7 j oj b hj hb
        obtain ⟨ok', h5⟩ := shutH_live h3
        exact ⟨k, ok', h5, h4⟩
      · cases i with
        | zero =>
          simp at hx; subst hx
          simp only [retE, Nat.add_zero, upd, if_true]
          exact .pv (hp.mono t5 fun _ _ => rfl)
        | succ i =>
          have := t8 i r x (by simpa using hi) (by simpa using hx)
          simp only [retE, upd]
          rw [if_neg (by omega), show st + (i + 1) = st + 1 + i by omega]
          exact this
    | @own id vw c hl hp =>
      have live : ∀ j oj, hup h id (some none) j = some (some oj) → h j = some (some oj) ∧ j ≠ id := by
        intro j oj hj
        by_cases e : j = id
        · subst e; rw [hup_same] at hj; cases hj
        · rw [hup_ne e] at hj; exact ⟨hj, e⟩
      obtain ⟨vs, I', ρg, t1, t2, t3, t4, t5, t6, t7, t8⟩ := results_sound (st := st + 1) hars (s.del hl) he e2
      obtain ⟨lo, l1, l2⟩ := row_over s hl hp
      have hfresh : retH (st + 1) out' st = none := retH_lt _ _ _ (by omega)
      have hfree : Free X I' ρg (retH (st + 1) out') w lo.blk := by
        intro b hb
        have hb' := l1 b hb
        obtain ⟨m1, m2⟩ := s.muts id _ b hl rfl hb'
        refine .inr ⟨fun h3 => ?_, m2, fun j oj hj h3 => ?_⟩
        · rcases t6 b h3 with h3 | ⟨j, oj, h4, h5⟩
          · exact m1 h3
          · obtain ⟨g1, g2⟩ := live j oj h4
            exact g2 (s.sep j id _ _ b g1 hl h5 hb')
        · obtain ⟨k, ok, h4, h5⟩ := t7 j oj b hj h3
          obtain ⟨g1, g2⟩ := live k ok h4
          exact g2 (s.sep k id _ _ b g1 hl h5 hb')
      have l3 := l2 (rup ρg st lo) st (rup_same _ _ _)
      have l4 : ORel I' w (rup ρg st lo) st (.row (viewOf c vw) true) := l3.1.ext (⟨t5, fun _ _ h => h, fun _ _ => rfl⟩ : Ext I (rup ρg st lo) w I' (rup ρg st lo) w) fun _ _ => rfl
      refine ⟨x0 :: vs, I', rup ρg st lo, by simp [t1], by simp [t2], runs t3, t4.add hfresh hfree ((Same.refl w).but _) rfl l4, t5, fun b hb => ?_, fun j oj b hj hb => ?_, fun i r x hi hx => ?_⟩
      · rcases t6 b hb with h3 | ⟨j, oj, h3, h4⟩
        · exact .inl h3
        · exact .inr ⟨j, oj, (live j oj h3).1, h4⟩
      · by_cases e : j = st
        · subst e
          rw [rup_same] at hb
          exact ⟨id, _, hl, l1 b hb⟩
        · rw [rup_ne e] at hb
          have hj : hup (retH (st + 1) out') st (some (some (.row (viewOf c vw) true))) j = some (some oj) := hj
          rw [hup_ne e] at hj
          obtain ⟨k, ok, h3, h4⟩ := t7 j oj b hj hb
          exact ⟨k, ok, (live k ok h3).1, h4⟩
      · cases i with
        | zero =>
          simp at hx; subst hx
          simp only [retE, Nat.add_zero, upd, if_true]
          exact l3.2.mono t5 (fun _ _ => rfl) fun _ _ h => h
        | succ i =>
          have := t8 i r x (by simpa using hi) (by simpa using hx)
          simp only [retE, upd]
          rw [if_neg (by omega), show st + (i + 1) = st + 1 + i by omega]
          exact this.mono (fun _ h => h) (fun _ _ => rfl) fun j lj hj => by
            by_cases e : j = st
            · subst e; rw [t4.used _ hfresh] at hj; cases hj
            · rwa [rup_ne e]
theorem finals_inv : ∀ {args : List Arg} {i : Nat} {h : Heap} {y : List AR}, finals i args h = some y → y = [] ∧ objSlots i args = []
  | [], i, h, y, e => by cases e; exact ⟨rfl, rfl⟩
  | .pv _ :: r, i, h, y, e => finals_inv (i := i + 1) e
  | .own _ :: r, i, h, y, e => finals_inv (i := i + 1) e
  | .obj _ :: r, i, h, y, e => by cases e
/-- What a function gives back at its end. -/
theorem collect_sound {B : Nat} {M I0 : Nat → Prop} {w0 : World} {nt : Nat} {fn : Func} {ars : List ARes} (ht : trRess P fn.results.toList = some ars) {args : List Arg} {τ : St} {a : Act} (s : StRel ⟨B, M, I0, w0⟩ nt τ a w) {rs : List AR} (e : collect ars args τ = some rs) :
    ∃ vs : List Value, (Go.results fn a.tmps).run P w = .ok (retVal vs) w ∧ ∃ I' ρ', vs.length + (objSlots 0 args).length = rs.length ∧ SRel ⟨B, M, I0, w0⟩ I' ρ' (retH 0 rs) w ∧ (∀ (i : Nat) (r : AR) (x : Value), rs[i]? = some r → vs[i]? = some x → VRel I' w ρ' (retE 0 rs i) x) ∧ objSlots 0 args = [] := by
  obtain ⟨I, ρ, r, he, hn, hd⟩ := s
  obtain ⟨⟨out, h1⟩, e1, e⟩ := kb_inv (show kb (results τ.env ars τ.heap) (fun x => kb (finals 0 args x.2) fun y => some (x.1 ++ y)) = _ from e)
  obtain ⟨y, e2, e⟩ := kb_inv e
  obtain ⟨rfl, ho⟩ := finals_inv e2
  simp only [List.append_nil, Option.some.injEq] at e
  subst e
  obtain ⟨vs, I', ρg, t1, t2, t3, t4, _, _, _, t8⟩ := results_sound (st := 0) ht r he e1
  refine ⟨vs, results_run t1 t3, I', ρg, by rw [ho, t1, t2]; rfl, t4, fun i r x hi hx => ?_, ho⟩
  have := t8 i r x hi hx
  rwa [Nat.zero_add] at this
end
end Go.Proofs.Ytkeipmkiilimeaa.V
set_option linter.unusedSimpArgs false
namespace Go.Proofs.Ytkeipmkiilimeaa.V
open Go
def exitOf : AExit → Exit
  | .normal => .normal
  | .exit i => .exit i
  | .ret => .ret
/-- A loop, seen from the head of its body. -/
def LoopWp (P : Program) (c : Code) (Q : Exit → Act → World → Prop) (a : Act) (w : World) : Prop :=
  ∀ (b : Frame) (k : List Item) (cs : List Frame), ∃ e a' w', Q e a' w' ∧ Arrives P (lone (b.at a (.code c :: .inLoop c :: k)) cs w) b k cs e a' w'
section
variable {P : Program} {c : Code} {Q : Exit → Act → World → Prop} {a : Act} {w : World}
theorem LoopWp.loop (h : LoopWp P c Q a w) : (Code.loop c).wp P Q a w := by
  intro b k cs
  obtain ⟨e, a', w', hq, harr⟩ := h b k cs
  exact ⟨e, a', w', hq, .of_steps (.one step_loop) harr⟩
theorem LoopWp.round (h : c.wp P (Exit.then (LoopWp P c Q) Q) a w) : LoopWp P c Q a w := by
  intro b k cs
  obtain ⟨e, a₁, w₁, hq, harr⟩ := h b (.inLoop c :: k) cs
  cases e with
  | normal =>
    obtain ⟨e₂, a₂, w₂, hq₂, harr₂⟩ := hq b k cs
    exact ⟨e₂, a₂, w₂, hq₂, .of_steps (Steps.trans harr (.one step_inLoop)) harr₂⟩
  | exit id => exact ⟨_, a₁, w₁, hq, .pass (x := .inLoop c) rfl (fun _ _ => .inl (by simp)) harr⟩
  | goto l => exact ⟨_, a₁, w₁, hq, .pass (x := .inLoop c) rfl (fun _ _ => .inl (by simp)) harr⟩
  | ret => exact ⟨_, a₁, w₁, hq, .pass (x := .inLoop c) rfl (fun _ _ => .inl (by simp)) harr⟩
  | panic ch => exact ⟨_, a₁, w₁, hq, .pass (x := .inLoop c) rfl (fun _ _ => .inl (by simp)) harr⟩
  | outgrown => exact ⟨_, a₁, w₁, hq, .pass (x := .inLoop c) rfl (fun _ _ => .inl (by simp)) harr⟩
end
section
variable {P : Program}
/-- The loops that are reckoned by a level are those of the program. -/
def LoopOK (P : Program) (E : Lvl) : Prop := ∀ (X : Ctx) (nt : Nat) (cn : Canon) (pat b : ACode) (c : Code) (σ : St) (r : AExit × St), trCode P nt pat c = some b → E.loop cn b σ = some r → ∀ (a : Act) (w : World), StRel X nt σ a w →
  LoopWp P c (fun e a' w' => e = exitOf r.1 ∧ StRel X nt r.2 a' w') a w
def Snd (P : Program) (nt : Nat) (E : Lvl) (c : Code) (b : ACode) : Prop := ∀ {R : Type} {X : Ctx} {σ : St} {K : AExit → St → Option R} {res : R} {Q : Exit → Act → World → Prop} {a : Act} {w : World}, aev E b σ K = some res → StRel X nt σ a w →
  (∀ e τ a' w', K e τ = some res → StRel X nt τ a' w' → Q (exitOf e) a' w') → c.wp P Q a w
variable {nt : Nat} {E : Lvl}
theorem snd_seq {x y : Code} {p q : ACode} (hx : Snd P nt E x p) (hy : Snd P nt E y q) : Snd P nt E (.seq x y) (.seq p q) := by
  intro R X σ K res Q a w e s hK
  refine wp_seq (hx (show aev E p σ (thenK (fun τ => aev E q τ K) K) = some res from e) s fun ex τ a' w' hk s' => ?_)
  cases ex with
  | normal => exact hy hk s' hK
  | exit i => exact hK (.exit i) τ a' w' hk s'
  | ret => exact hK .ret τ a' w' hk s'
theorem snd_cond {x y : Code} {p q : ACode} {c : Operand} {c' qc : AOpd} (hc : trOpd qc c = some c') (hx : Snd P nt E x p) (hy : Snd P nt E y q) : Snd P nt E (.cond c x y) (.cond c' p q) := by
  intro R X σ K res Q a w e s hK
  have e : kc (opd σ.env c') (aev E p σ K) (aev E q σ K) = some res := e
  obtain ⟨I, ρ, r, he, hn, hd⟩ := s
  have hv := trOpd_rep hc he
  unfold kc at e
  split at e
  · rename_i t ht
    rw [ht] at hv
    have hb : a.eval c = .bool t := by
      generalize a.eval c = z at hv
      cases hv with
      | pv hp => cases hp; rfl
    rcases kif_inv e with ⟨h1, e⟩ | ⟨h1, e⟩
    · subst h1; exact wp_cond_true hb (hx e ⟨I, ρ, r, he, hn, hd⟩ hK)
    · have h1 : t = false := by simpa using h1
      subst h1; exact wp_cond_false hb (hy e ⟨I, ρ, r, he, hn, hd⟩ hK)
  · cases e
theorem snd_block {x : Code} {p : ACode} {id : Nat} (hx : Snd P nt E x p) : Snd P nt E (.block id x) (.block id p) := by
  intro R X σ K res Q a w e s hK
  refine wp_block (hx (show aev E p σ (blockK id K) = some res from e) s fun ex τ a' w' hk s' => ?_)
  cases ex with
  | normal => exact hK .normal τ a' w' hk s'
  | exit i =>
    show Exit.inBlock id Q (.exit i) a' w'
    have hk : (if i = id then K .normal τ else K (.exit i) τ) = some res := hk
    show if i = id then Q .normal a' w' else Q (.exit i) a' w'
    split
    · rw [if_pos ‹_›] at hk; exact hK .normal τ a' w' hk s'
    · rw [if_neg ‹_›] at hk; exact hK (.exit i) τ a' w' hk s'
  | ret => exact hK .ret τ a' w' hk s'
theorem snd_loop (hloop : LoopOK P E) {x : Code} {pat p : ACode} {cn : Canon} (ht : trCode P nt pat x = some p) : Snd P nt E (.loop x) (.loop cn p) := by
  intro R X σ K res Q a w e s hK
  obtain ⟨r, e1, e2⟩ := kb_inv (show kb (lp E cn p σ) (outK K) = some res from e)
  refine wp_mono (hloop X nt cn pat p x σ r ht e1 a w s).loop fun ex a' w' h => ?_
  obtain ⟨rfl, s'⟩ := h
  exact hK r.1 r.2 a' w' e2 s'
theorem snd_join {x : Code} {p : ACode} {cn : Canon} (hx : Snd P nt E x p) : Snd P nt E x (.join cn p) := by
  intro R X σ K res Q a w e s hK
  obtain ⟨τ, e1, e2⟩ := kb_inv (show kb (canon cn σ) (fun τ => aev E p τ K) = some res from e)
  exact hx e2 (canon_sound e1 s) hK
theorem aev_sound (hmix : P.follows .mixedOrders = true) (hcall : CallOK P E.call) (hloop : LoopOK P E) : ∀ (pat : ACode) (c : Code) (b : ACode), trCode P nt pat c = some b → Snd P nt E c b := by
  intro pat
  have leaf : ∀ (c : Code) (b : ACode), ((c = .skip ∧ b = .skip) ∨ (∃ i, c = .exit i ∧ b = .exit i) ∨ (c = .ret ∧ b = .ret)) → Snd P nt E c b := by
    rintro c b (⟨rfl, rfl⟩ | ⟨i, rfl, rfl⟩ | ⟨rfl, rfl⟩) R X σ K res Q a w e s hK
    · exact wp_skip (hK .normal σ a w e s)
    · exact wp_exit (hK (.exit i) σ a w e s)
    · exact wp_ret (hK .ret σ a w e s)
  have reg : ∀ (id : Nat) (ops : Array Oper) (ps as : List AOper) (ks : List Nat), trOpers P nt ops ps ops.toList = some as → Snd P nt E (.region id ops false) (.region as ks) := by
    intro id ops ps as ks ht R X σ K res Q a w e s hK
    obtain ⟨τ, e1, e2⟩ := kb_inv (show kb (aops E.call as σ) (regK K ks) = some res from e)
    exact region_sound (ks := ks) hcall ht s e1 fun a' w' s' => hK .normal _ a' w' e2 s'
  have dreg : ∀ (id : Nat) (ops : Array Oper) (ps as : List AOper) (ks : List Nat), trOpers P nt ops ps ops.toList = some as → allApart as (freePairs ops) = true → edgesBack ops = true → Snd P nt E (.region id ops true) (.dregion as ks (heapPairs as (freePairs ops))) := by
    intro id ops ps as ks ht hap hb R X σ K res Q a w e s hK
    obtain ⟨⟨τ, fs⟩, e1, e2⟩ := kb_inv (show kb (aopsF E.call as [] σ) (dregK K ks (heapPairs as (freePairs ops))) = some res from e)
    rcases kif_inv (show kif (pairsOk fs (heapPairs as (freePairs ops)) = true) (regK K ks τ) none = some res from e2) with ⟨hp, e2⟩ | ⟨_, e2⟩
    · exact dregion_sound (ks := ks) hcall hmix ht hap hb s e1 hp fun a' w' s' => hK .normal _ a' w' e2 s'
    · cases e2
  induction pat with
  | join cn p ih =>
    intro c b h
    simp only [trCode, Option.map_eq_some_iff] at h
    obtain ⟨b', h, rfl⟩ := h
    exact snd_join (ih c b' h)
  | skip | exit | ret =>
    intro c b h
    cases c <;> simp only [trCode, Option.some.injEq, reduceCtorEq] at h <;> subst h <;> exact leaf _ _ (by simp)
  | region ps ks =>
    intro c b h
    cases c with
    | region id ops d =>
      cases d with
      | false =>
        simp only [trCode, Option.map_eq_some_iff] at h
        obtain ⟨as, h, rfl⟩ := h
        exact reg id ops ps as ks h
      | true => simp [trCode] at h
    | _ => simp only [trCode, Option.some.injEq, reduceCtorEq] at h <;> subst h <;> exact leaf _ _ (by simp)
  | dregion ps ks prs =>
    intro c b h
    cases c with
    | region id ops d =>
      cases d with
      | true =>
        simp only [trCode, Option.bind_eq_some_iff] at h
        obtain ⟨as, h, h2⟩ := h
        split at h2
        · rename_i hc
          cases h2
          simp only [Bool.and_eq_true] at hc
          exact dreg id ops ps as ks h hc.1 hc.2
        · cases h2
      | false => simp [trCode] at h
    | _ => simp only [trCode, Option.some.injEq, reduceCtorEq] at h <;> subst h <;> exact leaf _ _ (by simp)
  | seq p q ihp ihq =>
    intro c b h
    cases c with
    | seq x y =>
      simp only [trCode, Option.bind_eq_some_iff, Option.map_eq_some_iff] at h
      obtain ⟨x', h1, y', h2, rfl⟩ := h
      exact snd_seq (ihp x x' h1) (ihq y y' h2)
    | _ => simp only [trCode, Option.some.injEq, reduceCtorEq] at h <;> subst h <;> exact leaf _ _ (by simp)
  | cond o p q ihp ihq =>
    intro c b h
    cases c with
    | cond d x y =>
      simp only [trCode, Option.bind_eq_some_iff, Option.map_eq_some_iff] at h
      obtain ⟨d', h0, x', h1, y', h2, rfl⟩ := h
      exact snd_cond h0 (ihp x x' h1) (ihq y y' h2)
    | _ => simp only [trCode, Option.some.injEq, reduceCtorEq] at h <;> subst h <;> exact leaf _ _ (by simp)
  | block id p ih =>
    intro c b h
    cases c with
    | block i x =>
      simp only [trCode, Option.map_eq_some_iff] at h
      obtain ⟨x', h1, rfl⟩ := h
      exact snd_block (ih x x' h1)
    | _ => simp only [trCode, Option.some.injEq, reduceCtorEq] at h <;> subst h <;> exact leaf _ _ (by simp)
  | loop cn p ih =>
    intro c b h
    cases c with
    | loop x =>
      simp only [trCode, Option.map_eq_some_iff] at h
      obtain ⟨x', h1, rfl⟩ := h
      exact snd_loop hloop h1
    | _ => simp only [trCode, Option.some.injEq, reduceCtorEq] at h <;> subst h <;> exact leaf _ _ (by simp)
/-- A function from plain arguments to plain results is the program's f. -/
def FnOK (P : Program) (f : Nat) (g : List Arg → Option (List AR)) : Prop :=
  ∀ args rs, g args = some rs → ∀ (M I : Nat → Prop) (ρ : Rho) (w : World) (vals : Array Value), SRel ⟨w.heap.size, M, I, w⟩ I ρ (enterH 0 args) w → vals.size = args.length →
    (∀ i, i < args.length → VRel I w ρ (enterE 0 args i) (vals.getD i undef)) → Calls P (f % 100000) vals w fun e w' => ∃ v, e = .returned v ∧ RetRel M I ρ w args rs v w'
theorem enterE_ge : ∀ (as : List Arg) (s t : Nat), s + as.length ≤ t → enterE s as t = .bad
  | [], _, _, _ => rfl
  | a :: as, s, t, ht => by
    simp only [List.length_cons] at ht
    cases a <;> simp only [enterE, upd] <;> (rw [if_neg (by omega)]; exact enterE_ge as (s + 1) t (by omega))
theorem fcall_sound (hmix : P.follows .mixedOrders = true) (hcall : CallOK P E.call) (hloop : LoopOK P E) {f : Nat} {fn : Func} (hf : P.funcs[f % 100000]? = some fn) {pat F : AFun} (ht : trFun P pat fn = some F) : FnOK P f (fcall E F) := by
  intro args rs e M I ρ w vals s hsz hv
  simp only [trFun, Option.bind_eq_some_iff, Option.map_eq_some_iff] at ht
  obtain ⟨c, hc, b, hb, ars, hars, rfl⟩ := ht
  refine calls_of_wp hf hc ?_
  have st : StRel ⟨w.heap.size, M, I, w⟩ fn.ntmps ⟨enterE 0 args, enterH 0 args⟩ { tmps := vals ++ Array.replicate (fn.ntmps - vals.size) undef, defers := [] } w := by
    refine ⟨I, ρ, s, fun t => ?_, ?_, rfl⟩
    · by_cases ht : t < args.length
      · have := hv t ht
        have heq : (vals ++ Array.replicate (fn.ntmps - vals.size) undef).getD t undef = vals.getD t undef := by
          simp only [Array.getD_eq_getD_getElem?]
          rw [Array.getElem?_append_left (by omega)]
        simp only
        rw [heq]
        exact this
      · simp only
        rw [enterE_ge args 0 t (by omega)]
        exact .bad _
    · simp; omega
  refine aev_sound hmix hcall hloop pat.body c b hb (show aev E b ⟨enterE 0 args, enterH 0 args⟩ (endK ars args) = some rs from e) st fun ex τ a' w' hk s' => ?_
  have fin : collect ars args τ = some rs → a'.defers = [] ∧ ∃ v, (Go.results fn a'.tmps).run P w' = .ok v w' ∧ ∃ v', Ending.returned v = .returned v' ∧ RetRel M I ρ w args rs v' w' := by
    intro hcol
    refine ⟨let ⟨_, _, _, _, _, h⟩ := s'; h, ?_⟩
    obtain ⟨vs, h1, I', ρ', h2, h3, h4, h5⟩ := collect_sound hars s' hcol
    exact ⟨_, h1, _, rfl, I', ρ', vs, rfl, h2, h3, h4, fun j s hs => by rw [h5] at hs; simp at hs⟩
  cases ex with
  | normal => exact fin hk
  | ret => exact fin hk
  | exit i => cases hk
/-- The table of functions is the program's. -/
def TabOK (P : Program) (A : Nat → Option AFun) : Prop := ∀ f F, A f = some F → ∃ fn pat, P.funcs[f % 100000]? = some fn ∧ trFun P pat fn = some F
def ExtOK (P : Program) (X : Nat → Option (List Arg → Option (List AR))) : Prop := ∀ f g, X f = some g → FnOK P f g
theorem lvl_sound (hmix : P.follows .mixedOrders = true) {A : Nat → Option AFun} {X : Nat → Option (List Arg → Option (List AR))} (hA : TabOK P A) (hX : ExtOK P X) : ∀ k, CallOK P (lvl A X k).call ∧ LoopOK P (lvl A X k)
  | 0 => by
    refine ⟨fun f args rs h => ?_, fun X' nt cn pat b c σ r _ h => ?_⟩
    · cases (show (none : Option (List AR)) = some rs from h)
    · cases (show (none : Option (AExit × St)) = some r from h)
  | k + 1 => by
    obtain ⟨hc, hl⟩ := lvl_sound hmix hA hX k
    refine ⟨fun f args rs h => ?_, fun X' nt cn pat b c σ r ht h a w s => ?_⟩
    · have h : (match X f with | some g => g args | none => kb (A f) fun F => fcall (lvl A X k) F args) = some rs := h
      split at h
      · rename_i g hg
        exact hX f g hg args rs h
      · obtain ⟨F, hF, h⟩ := kb_inv h
        obtain ⟨fn, pat, h1, h2⟩ := hA f F hF
        exact fcall_sound hmix hc hl h1 h2 args rs h
    · obtain ⟨σ', e1, e2⟩ := kb_inv (show kb (canon cn σ) (fun σ' => aev (lvl A X k) b σ' (loopK (lp (lvl A X k) cn b))) = some r from h)
      refine LoopWp.round (aev_sound hmix hc hl pat c b ht e2 (canon_sound e1 s) fun ex τ a' w' hk s' => ?_)
      cases ex with
      | normal => exact hl X' nt cn pat b c τ r ht hk a' w' s'
      | exit i => cases hk; exact ⟨rfl, s'⟩
      | ret => cases hk; exact ⟨rfl, s'⟩
end
end Go.Proofs.Ytkeipmkiilimeaa.V
set_option linter.unusedSimpArgs false
namespace Go.Proofs.Ytkeipmkiilimeaa.V
open Go
inductive All2 {α β : Type} (R : α → β → Prop) : List α → List β → Prop
  | nil : All2 R [] []
  | cons {a : α} {b : β} {as : List α} {bs : List β} (h : R a b) (hs : All2 R as bs) : All2 R (a :: as) (b :: bs)
theorem All2.append {α β : Type} {R : α → β → Prop} {as : List α} {bs : List β} {as' : List α} {bs' : List β} (h : All2 R as bs) (h' : All2 R as' bs') : All2 R (as ++ as') (bs ++ bs') := by
  induction h with
  | nil => exact h'
  | cons h _ ih => exact .cons h ih
theorem All2.len {α β : Type} {R : α → β → Prop} {as : List α} {bs : List β} (h : All2 R as bs) : as.length = bs.length := by
  induction h with
  | nil => rfl
  | cons _ _ ih => simp [ih]
theorem All2.at {α β : Type} {R : α → β → Prop} {as : List α} {bs : List β} (h : All2 R as bs) : ∀ (i : Nat) (a : α) (b : β), as[i]? = some a → bs[i]? = some b → R a b := by
  induction h with
  | nil => intro i a b h; simp at h
  | cons h _ ih =>
    intro i a b h1 h2
    cases i with
    | zero => simp at h1 h2; subst h1; subst h2; exact h
    | succ i => exact ih i a b (by simpa using h1) (by simpa using h2)
/-- The cells of a struct, field by field. -/
def TyFs (T : TypeId → List PV → Prop) : List Field → List PV → Prop
  | [], ps => ps = []
  | f :: fs, ps => ∃ p q, ps = p ++ q ∧ T f.type p ∧ TyFs T fs q
/-- Cells of the type t. -/
def TyPV (P : Program) : Nat → TypeId → List PV → Prop
  | 0, _, _ => False
  | n + 1, t, ps => match P.underlying t with
    | some .bool => ∃ b, ps = [.bool b]
    | some (.int k) => ∃ z, ps = [.int k z] ∧ (Lit.int k z).wf = true
    | some .string => ∃ s, ps = [.str s] ∧ s.length ≤ maxLen
    | some (.slice e) => match P.underlying e with
      | some (.int k) => ∃ l : List Int, ps = [.ints k l] ∧ (∀ z ∈ l, (Lit.int k z).wf = true) ∧ l.length ≤ maxLen
      | some (.struct _) => ∃ xs : List PV, ps = [.sl (P.cellsOf e) xs] ∧ xs.length ≤ maxLen ∧ ∀ x ∈ xs, ∃ qs, x = .agg qs ∧ TyPV P n e qs
      | _ => ∃ xs : List PV, ps = [.sl 1 xs] ∧ xs.length ≤ maxLen ∧ ∀ x ∈ xs, TyPV P n e [x]
    | some (.struct fs) => TyFs (TyPV P n) fs.toList ps
    | _ => False
def offsOk (P : Program) : List Field → Nat → Option Nat
  | [], o => some o
  | f :: fs, o => if f.offset = o then offsOk P fs (o + P.cellsOf f.type) else none
/-- A type of which the values are plain. -/
def plainT (P : Program) (L : List TypeId) (t : TypeId) : Bool :=
  match P.underlying t with
  | some .bool | some (.int _) | some .string => P.cellsOf t == 1
  | some (.slice e) => P.cellsOf t == 1 && L.contains e && P.cellsOf e != 0
  | some (.struct fs) => offsOk P fs.toList 0 == some (P.cellsOf t) && fs.toList.all fun f => L.contains f.type
  | _ => false
abbrev Old (w : World) : Nat → Prop := fun b => b < w.heap.size
section
variable {H : Type} {enc : TypeId × Value → H} {P : Program} {w : World}
def CRep (w : World) (c : PV) (v : Value) : Prop := PRep (Old w) w c v ∧ c.sc = true
theorem cell_lt {a : Addr} {v : Value} (h : w.cell? a = some v) : a.block < w.heap.size ∧ a.spot = none := by
  unfold World.cell? at h
  split at h
  · rename_i c x y hb
    refine ⟨(Array.getElem?_eq_some_iff.1 hb).1, ?_⟩
    split at h
    · cases h
    · rename_i hs; simpa using hs
  · cases h
theorem fields_open {L : List TypeId} {m : Nat} (ih : ∀ t ∈ L, ∀ cs x, DataW.trod enc P w 0 (fun _ => true) true m t cs = some x → ∃ ps, All2 (CRep w) ps cs ∧ TyPV P m t ps ∧ cs.length = P.cellsOf t) {cs : List Value} : ∀ (fs : List Field) (o e : Nat), offsOk P fs o = some e → e ≤ cs.length → (∀ f ∈ fs, f.type ∈ L) →
    (∀ f ∈ fs, ∃ x, DataW.trod enc P w 0 (fun _ => true) true m f.type ((cs.drop f.offset).take (P.cellsOf f.type)) = some x) → o ≤ e ∧ ∃ ps, All2 (CRep w) ps ((cs.drop o).take (e - o)) ∧ TyFs (TyPV P m) fs ps
  | [], o, e, h, _, _, _ => by
    cases h
    exact ⟨Nat.le_refl _, [], by rw [Nat.sub_self, List.take_zero]; exact .nil, rfl⟩
  | f :: fs, o, e, h, he, hL, hf => by
    unfold offsOk at h
    split at h
    · rename_i ho
      obtain ⟨x, hx⟩ := hf f (by simp)
      rw [ho] at hx
      obtain ⟨p, p1, p2, p3⟩ := ih f.type (hL f (by simp)) _ x hx
      obtain ⟨hle, q, q1, q2⟩ := fields_open ih fs _ e h he (fun g hg => hL g (by simp [hg])) fun g hg => hf g (by simp [hg])
      refine ⟨by omega, p ++ q, ?_, p, q, rfl, p2, q2⟩
      have : (cs.drop o).take (e - o) = (cs.drop o).take (P.cellsOf f.type) ++ (cs.drop (o + P.cellsOf f.type)).take (e - (o + P.cellsOf f.type)) := by
        rw [show e - o = P.cellsOf f.type + (e - (o + P.cellsOf f.type)) by omega, List.take_add, List.drop_drop]
      rw [this]
      exact p1.append q1
    · cases h
theorem at0_spot {a : Addr} {n : Nat} {vs : List Value} (hn : n ≠ 0) (hl : vs.length = n) (h : ∀ j, j < n → w.cell? ((a.add (0 * n)).add j) = vs[j]?) : ∃ b o, a = ⟨b, o, none⟩ ∧ b < w.heap.size := by
  have := h 0 (by omega)
  rw [List.getElem?_eq_getElem (by omega : 0 < vs.length)] at this
  simp only [Nat.zero_mul, Addr.add, if_true] at this
  obtain ⟨g1, g2⟩ := cell_lt this
  obtain ⟨b, o, s⟩ := a
  simp only at g2
  subst g2
  exact ⟨b, o, rfl, g1⟩
theorem sl_build {a : Addr} {len cap n : Nat} (hn : n ≠ 0) (hl : len ≤ cap) (f : Nat → PV) (each : ∀ i, i < len → ∃ vs, All2 (CRep w) (f i).cells vs ∧ vs.length = n ∧ ∀ j, j < n → w.cell? ((a.add (i * n)).add j) = vs[j]?) :
    PRep (Old w) w (.sl n ((List.range len).map f)) (.slice (some a) len cap) := by
  by_cases h0 : len = 0
  · subst h0; exact .sl0 n (some a) cap
  · obtain ⟨vs, _, g2, g3⟩ := each 0 (by omega)
    obtain ⟨b, o, rfl, hb⟩ := at0_spot hn g2 g3
    have hc : ContRep (Old w) w b o (.sl n ((List.range len).map f)) := by
      refine ⟨fun x hx => ?_, fun i x j c hx hc => ?_⟩
      · obtain ⟨i, hi, rfl⟩ := List.mem_map.1 hx
        obtain ⟨vs, g1, g2, g3⟩ := each i (List.mem_range.1 hi)
        refine ⟨g1.len.trans g2, fun c hc => ?_⟩
        obtain ⟨j, hj⟩ := List.mem_iff_getElem?.1 hc
        have hlt : j < vs.length := by rw [← g1.len]; exact (List.getElem?_eq_some_iff.1 hj).1
        exact (g1.at j c _ hj (List.getElem?_eq_getElem hlt)).2
      · simp only [List.getElem?_map, Option.map_eq_some_iff] at hx
        obtain ⟨i', hi', rfl⟩ := hx
        have hlt : i < len := by have := (List.getElem?_eq_some_iff.1 hi').1; simpa using this
        have : i' = i := by rw [List.getElem?_range hlt] at hi'; simpa using hi'.symm
        subst this
        obtain ⟨vs, g1, g2, g3⟩ := each i' hlt
        have hj : j < vs.length := by rw [← g1.len]; exact (List.getElem?_eq_some_iff.1 hc).1
        refine ⟨vs[j], ?_, (g1.at j c _ hc (List.getElem?_eq_getElem hj)).1⟩
        have := g3 j (by omega)
        rw [addr_add, addr_add, List.getElem?_eq_getElem hj] at this
        exact this
    have := prep_slice (I := Old w) (cap := cap) hb (by simpa [PV.len] using hl) hc
    simpa [PV.len] using this
theorem ints_build {a : Addr} {len cap : Nat} {k : IntKind} (hl : len ≤ cap) (f : Nat → Int) (each : ∀ i, i < len → w.cell? ((a.add (i * 1)).add 0) = some (.int k (f i))) :
    PRep (Old w) w (.ints k ((List.range len).map f)) (.slice (some a) len cap) := by
  by_cases h0 : len = 0
  · subst h0; exact .ints0 k (some a) cap
  · obtain ⟨b, o, rfl, hb⟩ := at0_spot (w := w) (a := a) (n := 1) (vs := [.int k (f 0)]) (by omega) rfl (fun j hj => by
      have : j = 0 := by omega
      subst this
      exact each 0 (by omega))
    have hc : ContRep (Old w) w b o (.ints k ((List.range len).map f)) := by
      intro i x hx
      simp only [List.getElem?_map, Option.map_eq_some_iff] at hx
      obtain ⟨i', hi', rfl⟩ := hx
      have hlt : i < len := by have := (List.getElem?_eq_some_iff.1 hi').1; simpa using this
      have : i' = i := by rw [List.getElem?_range hlt] at hi'; simpa using hi'.symm
      subst this
      have := each i' hlt
      rw [addr_add, addr_add, Nat.mul_one, Nat.add_zero] at this
      exact this
    have := prep_slice (I := Old w) (cap := cap) hb (by simpa [PV.len] using hl) hc
    simpa [PV.len] using this
theorem sc_cells {c : PV} (h : c.sc = true) : c.cells = [c] := by
  cases c <;> first | rfl | cases h
theorem trod_open {L : List TypeId} (hL : L.all (plainT P L) = true) : ∀ (m : Nat) (t : TypeId), t ∈ L → ∀ (cs : List Value) (x : DataW H × List MemPlace), DataW.trod enc P w 0 (fun _ => true) true m t cs = some x → ∃ ps, All2 (CRep w) ps cs ∧ TyPV P m t ps ∧ cs.length = P.cellsOf t
  | 0, t, _, cs, x, h => by simp [DataW.trod] at h
  | m + 1, t, ht, cs, x, h => by
    have hp := List.all_eq_true.1 hL t ht
    unfold plainT at hp
    have one : ∀ {c : PV} {v : Value}, CRep w c v → cs = [v] → P.cellsOf t = 1 → TyPV P (m + 1) t [c] → ∃ ps, All2 (CRep w) ps cs ∧ TyPV P (m + 1) t ps ∧ cs.length = P.cellsOf t := by
      intro c v h1 h2 h3 h4
      subst h2
      exact ⟨[c], .cons h1 .nil, h4, by rw [h3]; rfl⟩
    cases hu : P.underlying t with
    | none => rw [hu] at hp; cases hp
    | some d =>
      rw [hu] at hp
      cases d with
      | bool =>
        have : ∃ b, cs = [.bool b] := by
          clear one
          unfold DataW.trod at h
          rw [hu] at h
          split at h <;> simp_all
        obtain ⟨b, hb⟩ := this
        exact one ⟨.bool b, rfl⟩ hb (by simpa using hp) (by unfold TyPV; rw [hu]; exact ⟨b, rfl⟩)
      | int k =>
        have : ∃ n, cs = [.int k n] ∧ (Lit.int k n).wf = true := by
          clear one
          unfold DataW.trod at h
          rw [hu] at h
          split at h <;> simp_all
        obtain ⟨n, hn, hw⟩ := this
        exact one ⟨.int k n, rfl⟩ hn (by simpa using hp) (by unfold TyPV; rw [hu]; exact ⟨n, rfl, hw⟩)
      | string =>
        have : ∃ s : ByteArray, cs = [.string s] ∧ s.size ≤ maxLen := by
          clear one
          unfold DataW.trod at h
          rw [hu] at h
          split at h <;> simp_all
        obtain ⟨s, hs, hm⟩ := this
        exact one ⟨.str s, rfl⟩ hs (by simpa using hp) (by unfold TyPV; rw [hu]; exact ⟨_, rfl, by simpa using hm⟩)
      | slice e =>
        simp only [Bool.and_eq_true, beq_iff_eq, bne_iff_ne, ne_eq, List.contains_eq_mem, decide_eq_true_eq] at hp
        obtain ⟨⟨hp1, hp2⟩, hp3⟩ := hp
        rcases DataW.trod_slice hu h with ⟨rfl, _⟩ | ⟨a, len, cap, elems, rest, n, hn, rfl, _, _, hl, hm, hlen, hel, _, _⟩
        · have hpe := List.all_eq_true.1 hL e hp2
          unfold plainT at hpe
          cases hue : P.underlying e with
          | none => rw [hue] at hpe; cases hpe
          | some de =>
            rw [hue] at hpe
            cases de with
            | int k => exact one ⟨.ints0 k none 0, rfl⟩ rfl hp1 (by unfold TyPV; rw [hu]; simp only [hue]; exact ⟨[], rfl, by simp, by simp⟩)
            | struct fs => exact one ⟨.sl0 (P.cellsOf e) none 0, rfl⟩ rfl hp1 (by unfold TyPV; rw [hu]; simp only [hue]; exact ⟨[], rfl, by simp, by simp⟩)
            | bool => exact one ⟨.sl0 1 none 0, rfl⟩ rfl hp1 (by unfold TyPV; rw [hu]; simp only [hue]; exact ⟨[], rfl, by simp, by simp⟩)
            | string => exact one ⟨.sl0 1 none 0, rfl⟩ rfl hp1 (by unfold TyPV; rw [hu]; simp only [hue]; exact ⟨[], rfl, by simp, by simp⟩)
            | slice e2 => exact one ⟨.sl0 1 none 0, rfl⟩ rfl hp1 (by unfold TyPV; rw [hu]; simp only [hue]; exact ⟨[], rfl, by simp, by simp⟩)
            | _ => cases hpe
        · cases hn
          have each : ∀ i, ∃ ps : List PV, i < len → ∃ vs, All2 (CRep w) ps vs ∧ TyPV P m e ps ∧ vs.length = P.cellsOf e ∧ ∀ j, j < P.cellsOf e → w.cell? ((a.add (i * P.cellsOf e)).add j) = vs[j]? := by
            intro i
            by_cases hi : i < len
            · have := hel i hi
              rw [List.getElem?_eq_getElem (by omega : i < elems.length)] at this
              obtain ⟨vs, h1, h2⟩ := Option.bind_eq_some_iff.1 this
              obtain ⟨_, g2, g3⟩ := World.cells?_some h1
              obtain ⟨ps, p1, p2, p3⟩ := trod_open hL m e hp2 vs _ h2
              exact ⟨ps, fun _ => ⟨vs, p1, p2, g2, g3⟩⟩
            · exact ⟨[], fun h => absurd h hi⟩
          have hel : ∃ g : Nat → List PV, ∀ i, i < len → ∃ vs, All2 (CRep w) (g i) vs ∧ TyPV P m e (g i) ∧ vs.length = P.cellsOf e ∧ ∀ j, j < P.cellsOf e → w.cell? ((a.add (i * P.cellsOf e)).add j) = vs[j]? := ⟨fun i => (each i).choose, fun i => (each i).choose_spec⟩
          obtain ⟨g, hg⟩ := hel
          have hpe := List.all_eq_true.1 hL e hp2
          unfold plainT at hpe
          have elemTy : ∀ {Q : List PV → Prop}, (∀ n ps, m = n + 1 → TyPV P (n + 1) e ps → Q ps) → ∀ i, i < len → Q (g i) := by
            intro Q hQ i hi
            obtain ⟨vs, g1, g2, g3, g4⟩ := hg i hi
            cases m with
            | zero => exact g2.elim
            | succ n => exact hQ n _ rfl g2
          -- the elements of one cell
          have oneCell : P.cellsOf e = 1 → (∃ xs : List PV, [PV.sl 1 ((List.range len).map fun i => (g i).headD .nil)] = [.sl 1 xs] ∧ xs.length ≤ maxLen ∧ ∀ x ∈ xs, TyPV P m e [x]) ∧ PRep (Old w) w (.sl 1 ((List.range len).map fun i => (g i).headD .nil)) (.slice (some a) len cap) := by
            intro h1
            have single : ∀ i, i < len → ∃ c, g i = [c] ∧ c.sc = true := by
              intro i hi
              obtain ⟨vs, g1, g2, g3, g4⟩ := hg i hi
              rw [h1] at g3
              generalize g i = gi at g1 ⊢
              cases g1 with
              | nil => simp at g3
              | cons hc hs =>
                cases hs with
                | nil => exact ⟨_, rfl, hc.2⟩
                | cons _ _ => simp at g3
            refine ⟨⟨_, rfl, by simp; omega, fun x hx => ?_⟩, sl_build (by omega) hl _ fun i hi => ?_⟩
            · obtain ⟨i, hi, rfl⟩ := List.mem_map.1 hx
              have hi := List.mem_range.1 hi
              obtain ⟨c, hc, _⟩ := single i hi
              obtain ⟨vs, g1, g2, g3, g4⟩ := hg i hi
              rw [hc] at g2 ⊢
              exact g2
            · obtain ⟨c, hc, hs⟩ := single i hi
              obtain ⟨vs, g1, g2, g3, g4⟩ := hg i hi
              rw [h1] at g3 g4
              rw [hc] at g1
              refine ⟨vs, ?_, g3, g4⟩
              rw [hc, List.headD_cons, sc_cells hs]
              exact g1
          cases hue : P.underlying e with
          | none => rw [hue] at hpe; cases hpe
          | some de =>
            rw [hue] at hpe
            cases de with
            | int k =>
              have h1 : P.cellsOf e = 1 := by simpa using hpe
              have hz : ∀ i, ∃ z : Int, i < len → g i = [.int k z] ∧ (Lit.int k z).wf = true := by
                intro i
                by_cases hi : i < len
                · have := elemTy (Q := fun ps => ∃ z, ps = [.int k z] ∧ (Lit.int k z).wf = true) (fun n ps hn ht => by unfold TyPV at ht; rw [hue] at ht; exact ht) i hi
                  obtain ⟨z, hz⟩ := this
                  exact ⟨z, fun _ => hz⟩
                · exact ⟨0, fun h => absurd h hi⟩
              have hz : ∃ z : Nat → Int, ∀ i, i < len → g i = [.int k (z i)] ∧ (Lit.int k (z i)).wf = true := ⟨fun i => (hz i).choose, fun i => (hz i).choose_spec⟩
              obtain ⟨z, hz⟩ := hz
              refine one ⟨ints_build (k := k) hl z fun i hi => ?_, rfl⟩ rfl hp1 ?_
              · obtain ⟨vs, g1, g2, g3, g4⟩ := hg i hi
                rw [(hz i hi).1] at g1
                rw [h1] at g4
                have := g4 0 (by omega)
                rw [this]
                cases g1 with
                | cons hc hs => cases hc.1; rfl
              · unfold TyPV
                rw [hu]
                simp only [hue]
                refine ⟨_, rfl, fun y hy => ?_, by simp; omega⟩
                obtain ⟨i, hi, rfl⟩ := List.mem_map.1 hy
                exact (hz i (List.mem_range.1 hi)).2
            | struct fs =>
              refine one ⟨sl_build (n := P.cellsOf e) hp3 hl (fun i => .agg (g i)) fun i hi => ?_, rfl⟩ rfl hp1 ?_
              · obtain ⟨vs, g1, g2, g3, g4⟩ := hg i hi
                exact ⟨vs, g1, g3, g4⟩
              · unfold TyPV
                rw [hu]
                simp only [hue]
                refine ⟨_, rfl, by simp; omega, fun y hy => ?_⟩
                obtain ⟨i, hi, rfl⟩ := List.mem_map.1 hy
                obtain ⟨vs, g1, g2, g3, g4⟩ := hg i (List.mem_range.1 hi)
                exact ⟨_, rfl, g2⟩
            | bool =>
              obtain ⟨o1, o2⟩ := oneCell (by simpa using hpe)
              refine one ⟨o2, rfl⟩ rfl hp1 ?_
              unfold TyPV
              rw [hu]
              simp only [hue]
              exact o1
            | string =>
              obtain ⟨o1, o2⟩ := oneCell (by simpa using hpe)
              refine one ⟨o2, rfl⟩ rfl hp1 ?_
              unfold TyPV
              rw [hu]
              simp only [hue]
              exact o1
            | slice e2 =>
              obtain ⟨o1, o2⟩ := oneCell (by simp at hpe; exact hpe.1.1)
              refine one ⟨o2, rfl⟩ rfl hp1 ?_
              unfold TyPV
              rw [hu]
              simp only [hue]
              exact o1
            | _ => cases hpe
      | struct fs =>
        simp only [Bool.and_eq_true, beq_iff_eq, List.all_eq_true, List.contains_eq_mem, decide_eq_true_eq] at hp
        obtain ⟨xs, n, hn, _, hlen, hxs, hf⟩ := DataW.trod_struct hu h
        cases hn
        obtain ⟨_, ps, p1, p2⟩ := fields_open (L := L) (m := m) (fun t ht cs x h => trod_open hL m t ht cs x h) (cs := cs) fs.toList 0 _ hp.1 (by rw [hlen]; exact Nat.le_refl _) hp.2 (fun f hf' => by
          obtain ⟨i, hi⟩ := List.mem_iff_getElem?.1 hf'
          have hi' : fs[i]? = some f := by simpa using hi
          have hlt : i < fs.size := (Array.getElem?_eq_some_iff.1 hi').1
          have := hf i f hi'
          rw [List.getElem?_eq_getElem (by omega)] at this
          exact ⟨_, this⟩)
        refine ⟨ps, ?_, by unfold TyPV; rw [hu]; exact p2, hlen⟩
        rw [List.drop_zero, Nat.sub_zero, ← hlen, List.take_length] at p1
        exact p1
      | _ => cases hp
end
end Go.Proofs.Ytkeipmkiilimeaa.V
set_option linter.unusedSimpArgs false
namespace Go.Proofs.Ytkeipmkiilimeaa.V
open Go Go.RowKit
/-- An argument of the type t, of these cells. -/
def argPV (P : Program) (t : TypeId) (ps : List PV) : PV :=
  match P.underlying t with
  | some (.struct _) => .agg ps
  | _ => ps.headD .nil
section
variable {H : Type} {enc : TypeId × Value → H} {P : Program} {w : World} {b0 : Nat}
theorem arg_open {L : List TypeId} (hL : L.all (plainT P L) = true) {t : TypeId} (ht : t ∈ L) {v : Value} {d : DataW H} {p : List MemPlace} (hok : Value.okWide P w .any b0 t v) (h : DataW.Trod enc P w 0 (fun _ => true) true t v d p) :
    ∃ ps m, TyPV P m t ps ∧ PRep (Old w) w (argPV P t ps) v := by
  obtain ⟨m, hm⟩ := h
  obtain ⟨ps, h1, h2, h3⟩ := trod_open hL m t ht _ _ hm
  refine ⟨ps, m, h2, ?_⟩
  have hp := List.all_eq_true.1 hL t ht
  unfold plainT at hp
  unfold Value.okWide at hok
  unfold argPV
  have scalar : Value.one v = true → PRep (Old w) w (ps.headD .nil) v := by
    intro ho
    rw [cells_one ho] at h1
    cases h1 with
    | cons hc hs => exact hc.1
  split at hok
  · rename_i fs hu
    rw [hu]
    obtain ⟨cs, rfl, _, _⟩ := hok
    refine .agg ps cs (by simpa [Value.cells] using h1.len) (fun c hc => ?_) fun i c v hc hv => (h1.at i c v hc (by simpa [Value.cells] using hv)).1
    obtain ⟨i, hi⟩ := List.mem_iff_getElem?.1 hc
    have hlt : i < (Value.agg cs).cells.toList.length := by rw [← h1.len]; exact (List.getElem?_eq_some_iff.1 hi).1
    exact (h1.at i c _ hi (List.getElem?_eq_getElem hlt)).2
  · rename_i n e hu
    rw [hu] at hp
    cases hp
  · rename_i hn1 hn2
    have ho : Value.one v = true := by
      cases v with
      | agg cs =>
        exfalso
        cases hu : P.underlying t with
        | none => rw [hu] at hp; cases hp
        | some d => cases d <;> simp_all [Cell.okWide, Cell.ok]
      | tuple cs =>
        exfalso
        cases hu : P.underlying t with
        | none => rw [hu] at hp; cases hp
        | some d => cases d <;> simp_all [Cell.okWide, Cell.ok]
      | _ => rfl
    split
    · rename_i fs hu; exact absurd hu (hn1 fs)
    · exact scalar ho
theorem args_open {L : List TypeId} (hL : L.all (plainT P L) = true) : ∀ {ts : List TypeId} {vs : List Value} {ds : List (DataW H)} {p : List MemPlace}, (∀ t ∈ ts, t ∈ L) → (∀ (j : Nat) (t : TypeId) (v : Value), ts[j]? = some t → vs[j]? = some v → Value.okWide P w .any b0 t v) → DataW.TrodAll enc P w 0 (fun _ => true) true ts vs ds p →
    ∃ pss, All2 (fun t ps => ∃ m, TyPV P m t ps) ts pss ∧ All2 (fun q v => PRep (Old w) w (argPV P q.1 q.2) v) (ts.zip pss) vs
  | [], [], [], p, _, _, _ => ⟨[], .nil, .nil⟩
  | t :: ts, v :: vs, d :: ds, p, ht, hok, h => by
    obtain ⟨p1, q1, h1, h2, _⟩ := h
    obtain ⟨ps, m, g1, g2⟩ := arg_open hL (ht t (by simp)) (hok 0 t v rfl rfl) h1
    obtain ⟨pss, g3, g4⟩ := args_open hL (fun t h => ht t (by simp [h])) (fun j t v h1 h2 => hok (j + 1) t v (by simpa using h1) (by simpa using h2)) h2
    exact ⟨ps :: pss, .cons ⟨m, g1⟩ g3, .cons g2 g4⟩
  | [], [], _ :: _, _, _, _, h => h.elim
  | [], _ :: _, _, _, _, _, h => by cases ‹List (DataW H)› <;> exact h.elim
  | _ :: _, [], _, _, _, _, h => by cases ‹List (DataW H)› <;> exact h.elim
  | _ :: _, _ :: _, [], _, _, _, h => h.elim
theorem enterE_pv : ∀ (ps : List PV) (s i : Nat) (p : PV), ps[i]? = some p → enterE s (ps.map .pv) (s + i) = .pv p
  | [], s, i, p, h => by simp at h
  | q :: ps, s, i, p, h => by
    cases i with
    | zero => simp at h; subst h; simp [enterE, upd]
    | succ i =>
      have := enterE_pv ps (s + 1) i p (by simpa using h)
      simp only [List.map_cons, enterE, upd]
      rw [if_neg (by omega), show s + (i + 1) = s + 1 + i by omega]
      exact this
theorem enterH_pv : ∀ (ps : List PV) (s : Nat), enterH s (ps.map .pv) = hp0
  | [], _ => rfl
  | _ :: ps, s => enterH_pv ps (s + 1)
/-- What a law's call comes to. -/
theorem law_sound (hmix : P.follows .mixedOrders = true) {A : Nat → Option AFun} {X : Nat → Option (List Arg → Option (List AR))} (hA : TabOK P A) (hX : ExtOK P X) {L : List TypeId} (hL : L.all (plainT P L) = true) {f : Nat} (hf : f < 100000) {ts : List TypeId} (hts : ts.all (fun t => L.contains t) = true)
    (pure : ∀ pss, All2 (fun t ps => ∃ m, TyPV P m t ps) ts pss → ∃ k, (lvl A X k).call f (((ts.zip pss).map fun q => argPV P q.1 q.2).map .pv) = some [.pv (.bool true)])
    {args : Array Value} {ds : List (DataW H)} {p : List MemPlace} (hok : ∀ (j : Nat) (t : TypeId) (v : Value), ts[j]? = some t → args[j]? = some v → Value.okWide P w .any b0 t v) (h : DataW.TrodAll enc P w 0 (fun _ => true) true ts args.toList ds p) :
    Calls P f args w fun e w' => e = .returned (.bool true) ∧ Below w.heap.size w w' := by
  obtain ⟨pss, g1, g2⟩ := args_open hL (fun t ht => by simpa using List.all_eq_true.1 hts t ht) (fun j t v h1 h2 => hok j t v h1 (by simpa using h2)) h
  obtain ⟨k, hk⟩ := pure pss g1
  have hc := (lvl_sound hmix hA hX k).1 f _ _ hk (fun _ => False) (Old w) (fun _ => none) w args
    (by rw [enterH_pv]; exact { used := fun _ _ => rfl, objs := (fun _ _ h => by cases h), sep := (fun _ _ _ _ _ h => by cases h), muts := (fun _ _ _ h => by cases h), inI := fun b hb => ⟨hb, .inl hb⟩, i0 := fun _ h => h, size := Nat.le_refl _, keep := fun _ _ _ => rfl, os := rfl, tape := rfl, output := rfl })
    (by simpa using g2.len.symm)
    (fun i hi => by
      have hi2 : i < (ts.zip pss).length := by simpa using hi
      have hi3 : i < args.size := by have := g2.len; simp only [Array.length_toList] at this; omega
      have := enterE_pv ((ts.zip pss).map fun q => argPV P q.1 q.2) 0 i _ (by rw [List.getElem?_map, List.getElem?_eq_getElem hi2]; rfl)
      rw [Nat.zero_add] at this
      rw [this]
      refine .pv (g2.at i _ _ (List.getElem?_eq_getElem hi2) ?_)
      simp [Array.getD, hi3])
  rw [Nat.mod_eq_of_lt hf] at hc
  refine hc.mono fun e w' he => ?_
  obtain ⟨v, rfl, I', ρ', vs, rfl, hlen, s, hv, _⟩ := he
  have hobj : ∀ (ps : List PV) (st : Nat), objSlots st (ps.map .pv) = [] := by
    intro ps
    induction ps with
    | nil => intro _; rfl
    | cons p ps ih => intro st; exact ih (st + 1)
  rw [hobj] at hlen
  refine ⟨?_, s.os, s.tape, s.output, s.size, fun b hb => s.keep b hb fun h => h⟩
  match vs, hlen with
  | [x], _ =>
    have := hv 0 (.pv (.bool true)) x rfl rfl
    cases (show VRel I' w' ρ' (.pv (.bool true)) x from this) with
    | pv hp => cases hp; rfl
/-- The table, function by function. -/
def FOK (P : Program) (L : List (Nat × AFun)) : Prop := ∀ q ∈ L, ∃ fn pat, P.funcs[q.1 % 100000]? = some fn ∧ trFun P pat fn = some q.2
theorem fok_nil : FOK P [] := fun _ h => by simp at h
theorem fok_cons {f : Nat} {F pat : AFun} {fn : Func} {L : List (Nat × AFun)} (h1 : P.funcs[f % 100000]? = some fn) (h2 : trFun P pat fn = some F) (h : FOK P L) : FOK P ((f, F) :: L) := by
  intro q hq
  rcases List.mem_cons.1 hq with rfl | hq
  · exact ⟨fn, pat, h1, h2⟩
  · exact h q hq
theorem tabOK_of {L : List (Nat × AFun)} (h : FOK P L) : TabOK P (fun f => L.lookup f) := by
  intro f F hf
  have : (f, F) ∈ L := by
    clear h
    induction L with
    | nil => cases hf
    | cons q L ih =>
      obtain ⟨i, G⟩ := q
      have hf : List.lookup f ((i, G) :: L) = some F := hf
      by_cases hfi : f = i
      · subst hfi
        rw [List.lookup_cons_self] at hf
        cases hf
        simp
      · have hb : (f == i) = false := by simpa using hfi
        rw [List.lookup_cons, hb] at hf
        exact List.mem_cons.2 (.inr (ih hf))
  exact h (f, F) this
end
end Go.Proofs.Ytkeipmkiilimeaa.V
