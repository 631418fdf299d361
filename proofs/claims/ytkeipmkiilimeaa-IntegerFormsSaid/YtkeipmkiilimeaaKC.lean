/- How the abstract interpreter of V1 reckons: its equations, as rules for simp. What comes later is held as data (functions that want one argument more), so that simp leaves it alone until it is its turn.
What the interpreter answers with rounds enough.
With more rounds the interpreter answers the same.
Small lemmas by which simp, with omega at hand, decides the conditions of a run.
Numbers by limbs of 32 bits: the value of a list of limbs, the normal list of a number, and the laws that the walks of the limb functions need. Plain Lean: no program in sight.
Bits of numbers by limbs: the length in bits, a limb, a bit; and the laws of the divisions by bits. Plain Lean: no program in sight.
Shifts, bits and quotients by 32 of the program's arithmetic.
Numbers by decimal digits: the digits of a number, their bytes, and the number that a text's bytes tell. Plain Lean: no program in sight.
Integers by signs and limbs: the value, the normal form, sizes. Plain Lean: no program in sight. -/
import Derived.Test.YtkeipmkiilimeaaKA
import Derived.RowKit
import Derived.Laws.BitsLemmas

namespace Go.Proofs.Ytkeipmkiilimeaa.V
open Go
section
variable {α β γ R : Type}
def seqK (f : α → Option β) (g : β → Option γ) (a : α) : Option γ := kb (f a) g
@[go_sem] theorem seqK_eq (f : α → Option β) (g : β → Option γ) (a : α) : seqK f g a = kb (f a) g := rfl
theorem kif_eq {c : Prop} [Decidable c] (x y : Option α) : kif c x y = if c then x else y := rfl
@[go_sem] theorem kif_true {i : Decidable True} (x y : Option α) : @kif α True i x y = x := by unfold kif; rw [if_pos trivial]
@[go_sem] theorem kif_false {i : Decidable False} (x y : Option α) : @kif α False i x y = y := by unfold kif; rw [if_neg (fun h => h)]
@[go_sem] theorem kb_some (a : α) (f : α → Option β) : kb (some a) f = f a := rfl
@[go_sem] theorem kb_none (f : α → Option β) : kb none f = none := rfl
@[go_sem] theorem kb_kb (x : Option α) (f : α → Option β) (g : β → Option γ) : kb (kb x f) g = kb x (seqK f g) := by cases x <;> rfl
@[go_sem] theorem kg_some (a : α) (f : α → Option β) : kg (some (some a)) f = f a := rfl
@[go_sem] theorem kg_gone (f : α → Option β) : kg (some none) f = none := rfl
@[go_sem] theorem kg_none (f : α → Option β) : kg none f = none := rfl
@[go_sem] theorem kd_gone (y : Option β) : kd (some none : Option (Option α)) y = y := rfl
@[go_sem] theorem kd_none (y : Option β) : kd (none : Option (Option α)) y = none := rfl
@[go_sem] theorem kd_some (o : α) (y : Option β) : kd (some (some o)) y = none := rfl
@[go_sem] theorem kn_none (y : Option β) : kn (none : Option (Option α)) y = y := rfl
@[go_sem] theorem kn_some (o : Option α) (y : Option β) : kn (some o) y = none := rfl
def kcd (v : AV) (k : Bool → Option α) : Option α := match v with
  | .pv (.bool t) => k t
  | _ => none
@[go_sem] theorem kcd_bool (t : Bool) (k : Bool → Option α) : kcd (.pv (.bool t)) k = k t := rfl
end
@[go_sem ↓] theorem upd_eq (e : Env) (t s : Nat) (v : AV) : upd e t v s = if s = t then v else e s := rfl
@[go_sem ↓] theorem hup_eq (h : Heap) (t s : Nat) (v : Option (Option AObj)) : hup h t v s = if s = t then v else h s := rfl
@[go_sem] theorem env0_eq (s : Nat) : env0 s = .bad := rfl
@[go_sem] theorem hp0_eq (s : Nat) : hp0 s = none := rfl
/-! code -/
inductive Fr where
  | seq (b : ACode)
  | block (id : Nat)
def den {R : Type} (K0 : AExit → St → Option R) (E : Lvl) : List Fr → AExit → St → Option R
  | [], e, σ => K0 e σ
  | .seq b :: fs, .normal, σ => aev E b σ (den K0 E fs)
  | .seq _ :: fs, .exit i, σ => den K0 E fs (.exit i) σ
  | .seq _ :: fs, .ret, σ => den K0 E fs .ret σ
  | .block id :: fs, .exit i, σ => if i = id then den K0 E fs .normal σ else den K0 E fs (.exit i) σ
  | .block _ :: fs, .normal, σ => den K0 E fs .normal σ
  | .block _ :: fs, .ret, σ => den K0 E fs .ret σ
section
variable {R : Type} (K0 : AExit → St → Option R) (E : Lvl) (fs : List Fr) (σ : St) (a b : ACode)
theorem den_nil : den K0 E [] = K0 := by funext e τ; rfl
@[go_sem] theorem den_seq0 : den K0 E (.seq b :: fs) .normal σ = aev E b σ (den K0 E fs) := rfl
@[go_sem] theorem den_seq1 (i : Nat) : den K0 E (.seq b :: fs) (.exit i) σ = den K0 E fs (.exit i) σ := rfl
@[go_sem] theorem den_seq2 : den K0 E (.seq b :: fs) .ret σ = den K0 E fs .ret σ := rfl
@[go_sem] theorem den_blk0 (id : Nat) : den K0 E (.block id :: fs) .normal σ = den K0 E fs .normal σ := rfl
@[go_sem] theorem den_blk1 (id i : Nat) : den K0 E (.block id :: fs) (.exit i) σ = if i = id then den K0 E fs .normal σ else den K0 E fs (.exit i) σ := rfl
@[go_sem] theorem den_blk2 (id : Nat) : den K0 E (.block id :: fs) .ret σ = den K0 E fs .ret σ := rfl
@[go_sem] theorem den_end (e : AExit) : den K0 E [] e σ = K0 e σ := rfl
@[go_sem] theorem aev_seq : aev E (.seq a b) σ (den K0 E fs) = aev E a σ (den K0 E (.seq b :: fs)) := by
  simp only [aev]
  congr 1
  funext e τ
  cases e <;> rfl
@[go_sem] theorem aev_block (id : Nat) : aev E (.block id b) σ (den K0 E fs) = aev E b σ (den K0 E (.block id :: fs)) := by
  simp only [aev]
  congr 1
  funext e τ
  cases e <;> rfl
@[go_sem] theorem aev_skip : aev E .skip σ (den K0 E fs) = den K0 E fs .normal σ := rfl
@[go_sem] theorem aev_exit (id : Nat) : aev E (.exit id) σ (den K0 E fs) = den K0 E fs (.exit id) σ := rfl
@[go_sem] theorem aev_ret : aev E .ret σ (den K0 E fs) = den K0 E fs .ret σ := rfl
@[go_sem] theorem aev_region (ops : List AOper) (ks : List Nat) : aev E (.region ops ks) σ (den K0 E fs) = kb (aops E.call ops σ) (regK (den K0 E fs) ks) := rfl
@[go_sem] theorem aev_dregion (ops : List AOper) (ks : List Nat) (ps : List (Nat × Nat)) : aev E (.dregion ops ks ps) σ (den K0 E fs) = kb (aopsF E.call ops [] σ) (dregK (den K0 E fs) ks ps) := rfl
/-- The two arms of a choice. -/
def condK (c : Bool) : Option R := match c with
  | true => aev E a σ (den K0 E fs)
  | false => aev E b σ (den K0 E fs)
@[go_sem] theorem condK_true : condK K0 E fs σ a b true = aev E a σ (den K0 E fs) := rfl
@[go_sem] theorem condK_false : condK K0 E fs σ a b false = aev E b σ (den K0 E fs) := rfl
@[go_sem] theorem aev_cond (c : AOpd) : aev E (.cond c a b) σ (den K0 E fs) = kcd (opd σ.env c) (condK K0 E fs σ a b) := by
  show kc (opd σ.env c) _ _ = _
  generalize opd σ.env c = v
  cases v with
  | pv p => cases p with
    | bool t => cases t <;> rfl
    | _ => rfl
  | _ => rfl
@[go_sem] theorem aev_loop (cn : Canon) : aev E (.loop cn b) σ (den K0 E fs) = kb (lp E cn b σ) (outK (den K0 E fs)) := rfl
@[go_sem] theorem aev_join (cn : Canon) : aev E (.join cn b) σ (den K0 E fs) = kb (canon cn σ) (joinK E b (den K0 E fs)) := rfl
@[go_sem] theorem joinK_eq (K : AExit → St → Option R) : joinK E b K σ = aev E b σ K := rfl
@[go_sem] theorem outK_eq (K : AExit → St → Option R) (e : AExit) : outK K (e, σ) = K e σ := rfl
@[go_sem] theorem regK_eq (K : AExit → St → Option R) (ks : List Nat) (e : Env) (h : Heap) : regK K ks ⟨e, h⟩ = K .normal ⟨keepE ks e, h⟩ := rfl
@[go_sem] theorem dregK_eq (K : AExit → St → Option R) (ks : List Nat) (ps : List (Nat × Nat)) (τ : St) (ls : List (List Nat × List Nat)) : dregK K ks ps (τ, ls) = kif (pairsOk ls ps = true) (regK K ks τ) none := rfl
@[go_sem] theorem fcall_eq (F : AFun) (args : List Arg) : fcall E F args = aev E F.body ⟨enterE 0 args, enterH 0 args⟩ (den (endK F.results args) E []) := by rw [den_nil]; rfl
end
attribute [go_sem] pairsOk.eq_1 apartF.eq_1 keepE.eq_1 keepE.eq_2
/-! operations -/
section
variable (call : Call) (o : AOper) (os : List AOper) (d : Option Nat) (op : AOp) (e : Env) (h : Heap) (fs : List (List Nat × List Nat))
def putK (r : AV × Heap) : Option St := some ⟨updO e d r.1, r.2⟩
@[go_sem] theorem putK_some (t : Nat) (v : AV) : putK (some t) e (v, h) = some ⟨upd e t v, h⟩ := rfl
@[go_sem] theorem putK_none (v : AV) : putK none e (v, h) = some ⟨e, h⟩ := rfl
@[go_sem] theorem aops_nil (σ : St) : aops call [] σ = some σ := rfl
@[go_sem] theorem aops_cons (σ : St) : aops call (o :: os) σ = kb (aop call o σ) (aops call os) := rfl
@[go_sem] theorem aop_now : aop call ⟨d, op, none⟩ ⟨e, h⟩ = kb ((opK (d.getD 0) e op).run call h) (putK d e) := rfl
/-- An operation under a guard. -/
def gdK (b : Bool) (c : Bool) : Option St := kif (c = b) (kb ((opK (d.getD 0) e op).run call h) (putK d e)) (some ⟨updO e d .und, h⟩)
@[go_sem] theorem gdK_tt : gdK call d op e h true true = kb ((opK (d.getD 0) e op).run call h) (putK d e) := rfl
@[go_sem] theorem gdK_tf : gdK call d op e h true false = some ⟨updO e d .und, h⟩ := rfl
@[go_sem] theorem gdK_ft : gdK call d op e h false true = some ⟨updO e d .und, h⟩ := rfl
@[go_sem] theorem gdK_ff : gdK call d op e h false false = kb ((opK (d.getD 0) e op).run call h) (putK d e) := rfl
def kwD {α : Type} (v : AV) (y : Option α) (k : Bool → Option α) : Option α := match v with
  | .pv (.bool c) => k c
  | .und => y
  | _ => none
@[go_sem] theorem kwD_bool {α : Type} (c : Bool) (y : Option α) (k : Bool → Option α) : kwD (.pv (.bool c)) y k = k c := rfl
@[go_sem] theorem kwD_und {α : Type} (y : Option α) (k : Bool → Option α) : kwD .und y k = y := rfl
@[go_sem] theorem aop_guard (t : Nat) (b : Bool) : aop call ⟨d, op, some (t, b)⟩ ⟨e, h⟩ = kwD (e t) (some ⟨updO e d .und, h⟩) (gdK call d op e h b) := by
  show kw (e t) b _ _ = _
  generalize e t = v
  cases v with
  | pv p => cases p <;> rfl
  | _ => rfl
def putF (r : AV × Heap × List Nat × List Nat) : Option (St × List Nat × List Nat) := some (⟨updO e d r.1, r.2.1⟩, r.2.2)
@[go_sem] theorem putF_some (t : Nat) (v : AV) (x : List Nat × List Nat) : putF (some t) e (v, h, x) = some (⟨upd e t v, h⟩, x) := rfl
@[go_sem] theorem putF_none (v : AV) (x : List Nat × List Nat) : putF none e (v, h, x) = some (⟨e, h⟩, x) := rfl
def aopsG (s : St × List Nat × List Nat) : Option (St × List (List Nat × List Nat)) := aopsF call os (fs ++ [s.2]) s.1
@[go_sem] theorem aopsG_eq (σ : St) (x : List Nat × List Nat) : aopsG call os fs (σ, x) = aopsF call os (fs ++ [x]) σ := rfl
@[go_sem] theorem aopsF_nil (σ : St) : aopsF call [] fs σ = some (σ, fs) := rfl
@[go_sem] theorem aopsF_cons (σ : St) : aopsF call (o :: os) fs σ = kb (aopF call o σ) (aopsG call os fs) := rfl
@[go_sem] theorem aopF_now : aopF call ⟨d, op, none⟩ ⟨e, h⟩ = kb ((opK (d.getD 0) e op).runF call h [] []) (putF d e) := rfl
def gdF (b : Bool) (c : Bool) : Option (St × List Nat × List Nat) := kif (c = b) (kb ((opK (d.getD 0) e op).runF call h [] []) (putF d e)) (some (⟨updO e d .und, h⟩, [], []))
@[go_sem] theorem gdF_tt : gdF call d op e h true true = kb ((opK (d.getD 0) e op).runF call h [] []) (putF d e) := rfl
@[go_sem] theorem gdF_tf : gdF call d op e h true false = some (⟨updO e d .und, h⟩, [], []) := rfl
@[go_sem] theorem gdF_ft : gdF call d op e h false true = some (⟨updO e d .und, h⟩, [], []) := rfl
@[go_sem] theorem gdF_ff : gdF call d op e h false false = kb ((opK (d.getD 0) e op).runF call h [] []) (putF d e) := rfl
@[go_sem] theorem aopF_guard (t : Nat) (b : Bool) : aopF call ⟨d, op, some (t, b)⟩ ⟨e, h⟩ = kwD (e t) (some (⟨updO e d .und, h⟩, [], [])) (gdF call d op e h b) := by
  show kw (e t) b _ _ = _
  generalize e t = v
  cases v with
  | pv p => cases p <;> rfl
  | _ => rfl
end
attribute [go_sem] updO.eq_1 updO.eq_2 opd.eq_1 opd.eq_2
attribute [go_sem] opK.eq_1 opK.eq_2 opK.eq_3 opK.eq_4 opK.eq_5 opK.eq_6 opK.eq_7 opK.eq_8 opK.eq_9 opK.eq_10 opK.eq_11 opK.eq_12 opK.eq_13 opK.eq_14 opK.eq_15 opK.eq_16 opK.eq_17 opK.eq_18 opK.eq_19 opK.eq_20 opK.eq_21 opK.eq_22 opK.eq_23 opK.eq_24 opK.eq_25 opK.eq_26 opK.eq_27 opK.eq_28 opK.eq_29 opK.eq_30 opK.eq_31 opK.eq_32 opK.eq_33 opK.eq_34 opK.eq_35 opK.eq_36 opK.eq_37
section
variable (call : Call) (h : Heap) (id : Nat) (o : AObj) (k : HP) (f : AObj → HP) (r w : List Nat)
def runO : Option (AV × Heap) := (f o).run call h
@[go_sem] theorem runO_eq : runO call h o f = (f o).run call h := rfl
def runG (o : AObj) : Option (AV × Heap) := (f o).run call h
@[go_sem] theorem runG_eq : runG call h f o = (f o).run call h := rfl
def runP (_ : AObj) : Option (AV × Heap) := k.run call h
@[go_sem] theorem runP_eq : runP call h k o = k.run call h := rfl
def runC (g : List AR → HP) (rs : List AR) : Option (AV × Heap) := (g rs).run call h
@[go_sem] theorem runC_eq (g : List AR → HP) (rs : List AR) : runC call h g rs = (g rs).run call h := rfl
def brK (x y : HP) (c : Bool) : Option (AV × Heap) := match c with
  | true => x.run call h
  | false => y.run call h
@[go_sem] theorem brK_true (x y : HP) : brK call h x y true = x.run call h := rfl
@[go_sem] theorem brK_false (x y : HP) : brK call h x y false = y.run call h := rfl
@[go_sem] theorem run_ret (v : AV) : (HP.ret v).run call h = some (v, h) := rfl
@[go_sem] theorem run_fail : HP.fail.run call h = none := rfl
@[go_sem] theorem run_br (c : Bool) (x y : HP) : (HP.br c x y).run call h = brK call h x y c := by cases c <;> rfl
@[go_sem] theorem run_chk (c : Bool) : (chk c k).run call h = brK call h k .fail c := by cases c <;> rfl
@[go_sem] theorem run_get : (HP.get id f).run call h = kg (h id) (runG call h f) := rfl
@[go_sem] theorem run_put : (HP.put id o k).run call h = kg (h id) (runP call (hup h id (some (some o))) k) := rfl
@[go_sem] theorem run_new : (HP.new id o k).run call h = kn (h id) (k.run call (hup h id (some (some o)))) := rfl
@[go_sem] theorem run_del : (HP.del id k).run call h = kg (h id) (runP call (hup h id (some none)) k) := rfl
@[go_sem] theorem run_back : (HP.back id o k).run call h = kd (h id) (k.run call (hup h id (some (some o)))) := rfl
@[go_sem] theorem run_call (g : Nat) (as : List Arg) (q : List AR → HP) : (HP.call g as q).run call h = kb (call g as) (runC call h q) := rfl
abbrev RF := AV × Heap × List Nat × List Nat
def runGF (o : AObj) : Option RF := (f o).runF call h r w
@[go_sem] theorem runGF_eq : runGF call h f r w o = (f o).runF call h r w := rfl
def runPF (_ : AObj) : Option RF := k.runF call h r w
@[go_sem] theorem runPF_eq : runPF call h k r w o = k.runF call h r w := rfl
def runCF (g : List AR → HP) (rs : List AR) : Option RF := (g rs).runF call h r w
@[go_sem] theorem runCF_eq (g : List AR → HP) (rs : List AR) : runCF call h r w g rs = (g rs).runF call h r w := rfl
def brF (x y : HP) (c : Bool) : Option RF := match c with
  | true => x.runF call h r w
  | false => y.runF call h r w
@[go_sem] theorem brF_true (x y : HP) : brF call h r w x y true = x.runF call h r w := rfl
@[go_sem] theorem brF_false (x y : HP) : brF call h r w x y false = y.runF call h r w := rfl
@[go_sem] theorem runF_ret (v : AV) : (HP.ret v).runF call h r w = some (v, h, r, w) := rfl
@[go_sem] theorem runF_fail : HP.fail.runF call h r w = none := rfl
@[go_sem] theorem runF_br (c : Bool) (x y : HP) : (HP.br c x y).runF call h r w = brF call h r w x y c := by cases c <;> rfl
@[go_sem] theorem runF_chk (c : Bool) : (chk c k).runF call h r w = brF call h r w k .fail c := by cases c <;> rfl
@[go_sem] theorem runF_get : (HP.get id f).runF call h r w = kg (h id) (runGF call h f (id :: r) w) := rfl
@[go_sem] theorem runF_put : (HP.put id o k).runF call h r w = kg (h id) (runPF call (hup h id (some (some o))) k r (id :: w)) := rfl
@[go_sem] theorem runF_new : (HP.new id o k).runF call h r w = kn (h id) (k.runF call (hup h id (some (some o))) r (id :: w)) := rfl
@[go_sem] theorem runF_del : (HP.del id k).runF call h r w = kg (h id) (runPF call (hup h id (some none)) k r (id :: w)) := rfl
@[go_sem] theorem runF_back : (HP.back id o k).runF call h r w = kd (h id) (k.runF call (hup h id (some (some o))) r (id :: w)) := rfl
@[go_sem] theorem runF_call (g : Nat) (as : List Arg) (q : List AR → HP) : (HP.call g as q).runF call h r w = kb (call g as) (runCF call h r w q) := rfl
end
/-! plain values -/
section
variable (k : IntKind) (n i j : Nat) (x : Int) (b : Bool) (s : List UInt8) (l m : List Int) (xs ys : List PV) (cs : List PV) (p : PV) (r : List PV)
@[go_sem] theorem cells_agg : (PV.agg cs).cells = cs := rfl
@[go_sem] theorem cells_int : (PV.int k x).cells = [.int k x] := rfl
@[go_sem] theorem cells_bool : (PV.bool b).cells = [.bool b] := rfl
@[go_sem] theorem cells_str : (PV.str s).cells = [.str s] := rfl
@[go_sem] theorem cells_ints : (PV.ints k l).cells = [.ints k l] := rfl
@[go_sem] theorem cells_sl : (PV.sl n xs).cells = [.sl n xs] := rfl
@[go_sem] theorem cells_nil : PV.nil.cells = [.nil] := rfl
@[go_sem] theorem len_nil : PV.nil.len = 0 := rfl
@[go_sem] theorem sub_nil : PV.nil.sub i j = .nil := rfl
@[go_sem] theorem set_ints : (PV.ints k l).set i (.int k x) = some (.ints k (l.set i x)) := if_pos rfl
@[go_sem] theorem app_ints : (PV.ints k l).app (.ints k m) = some (.ints k (l ++ m)) := if_pos rfl
@[go_sem] theorem app_sl : (PV.sl n xs).app (.sl n ys) = some (.sl n (xs ++ ys)) := if_pos rfl
@[go_sem] theorem splice_ints : (PV.ints k l).splice i (.ints k m) = some (.ints k (l.take i ++ m ++ l.drop (i + m.length))) := if_pos rfl
@[go_sem] theorem splice_sl : (PV.sl n xs).splice i (.sl n ys) = some (.sl n (xs.take i ++ ys ++ xs.drop (i + ys.length))) := if_pos rfl
@[go_sem] theorem ty_ints (q : Option IntKind) : (PV.ints k l).ty n q = .ints k l := rfl
@[go_sem] theorem ty_sl (q : Option IntKind) : (PV.sl j xs).ty n q = .sl j xs := rfl
@[go_sem] theorem flat1_agg : (PV.agg cs).flat1 = false := rfl
@[go_sem] theorem flat1_ints : (PV.ints k l).flat1 = false := rfl
@[go_sem] theorem flat1_sl : (PV.sl n xs).flat1 = false := rfl
@[go_sem] theorem flat1_nil : PV.nil.flat1 = false := rfl
@[go_sem] theorem flat_int : (PV.int k x).flat = true := rfl
@[go_sem] theorem flat_bool : (PV.bool b).flat = true := rfl
@[go_sem] theorem flat_str : (PV.str s).flat = true := rfl
@[go_sem] theorem flat_fn : (PV.fn n).flat = true := rfl
@[go_sem] theorem flat_ints : (PV.ints k l).flat = false := rfl
@[go_sem] theorem flat_sl : (PV.sl n xs).flat = false := rfl
@[go_sem] theorem flat_nil : PV.nil.flat = false := rfl
@[go_sem] theorem lits_cons : PV.lits k (.int k x :: r) = (PV.lits k r).map (x :: ·) := if_pos rfl
@[go_sem] theorem psc_int : (PV.int k x).sc = true := rfl
@[go_sem] theorem psc_bool : (PV.bool b).sc = true := rfl
@[go_sem] theorem psc_str : (PV.str s).sc = true := rfl
@[go_sem] theorem psc_ints : (PV.ints k l).sc = true := rfl
@[go_sem] theorem psc_sl : (PV.sl n xs).sc = true := rfl
@[go_sem] theorem psc_nil : PV.nil.sc = true := rfl
@[go_sem] theorem psc_fn : (PV.fn n).sc = true := rfl
end
attribute [go_sem] PV.esz.eq_1 PV.esz.eq_2 PV.esz.eq_3 PV.len.eq_1 PV.len.eq_2 PV.get.eq_1 PV.get.eq_2 PV.sub.eq_1 PV.sub.eq_2 PV.set.eq_2 PV.emp.eq_1 PV.emp.eq_2 PV.ty.eq_1 PV.flat1.eq_1 PV.flat1.eq_2 PV.flat1.eq_3 PV.flat1.eq_4 PV.flat.eq_1 PV.isSlice.eq_1 PV.isSlice.eq_2 PV.isSlice.eq_3 PV.lits.eq_1 PV.ofLits.eq_1 PV.ofLits.eq_2 PV.sc.eq_1 viewOf.eq_1 viewOf.eq_2 AV.cells.eq_1 AV.cells.eq_2 AV.cells.eq_3 AV.cells.eq_4 AV.cells.eq_5
/-! aggregates -/
section
variable (p : PV) (cs : List AV) (r : List AV) (ps : List PV) (id n : Nat) (vw : Option (Nat × Nat)) (k : PV → List Nat → HP) (q : List PV → List Nat → HP) (ids is : List Nat) (c : PV) (m : Bool)
@[go_sem] theorem pvs_nil : pvs [] = some [] := rfl
@[go_sem] theorem pvs_cons : pvs (.pv p :: r) = (pvs r).map (p :: ·) := rfl
@[go_sem] theorem pvs_row : pvs (.row id vw :: r) = none := rfl
@[go_sem] theorem pvs_ptr : pvs (.ptr id n :: r) = none := rfl
@[go_sem] theorem pvs_map : pvs (.mapr id :: r) = none := rfl
def mkAggO : Option (List PV) → AV
  | some ps => .pv (.agg ps)
  | none => .agg cs
@[go_sem] theorem mkAggO_some : mkAggO cs (some ps) = .pv (.agg ps) := rfl
@[go_sem] theorem mkAggO_none : mkAggO cs none = .agg cs := rfl
@[go_sem] theorem mkAgg_eq : mkAgg cs = mkAggO cs (pvs cs) := by unfold mkAgg mkAggO; split <;> simp_all
def frzR (o : AObj) : HP := match o with
  | .row c m => k (viewOf c vw) (if m then [id] else [])
  | _ => .fail
@[go_sem] theorem frzR_true : frzR id vw k (.row c true) = k (viewOf c vw) [id] := rfl
@[go_sem] theorem frzR_false : frzR id vw k (.row c false) = k (viewOf c vw) [] := rfl
@[go_sem] theorem frz1_pv : frz1K (.pv p) k = k p [] := rfl
@[go_sem] theorem frz1_row : frz1K (.row id vw) k = .get id (frzR id vw k) := by
  unfold frz1K
  congr 1
def frzsB (ps' : List PV) (is' : List Nat) : HP := q (p :: ps') (ids ++ is')
@[go_sem] theorem frzsB_eq (ps' : List PV) (is' : List Nat) : frzsB p q ids ps' is' = q (p :: ps') (ids ++ is') := rfl
def frzsA (p : PV) (ids : List Nat) : HP := frzsK r (frzsB p q ids)
@[go_sem] theorem frzsA_eq (p : PV) (ids : List Nat) : frzsA r q p ids = frzsK r (frzsB p q ids) := rfl
@[go_sem] theorem frzs_nil : frzsK [] q = q [] [] := rfl
@[go_sem] theorem frzs_cons (v : AV) : frzsK (v :: r) q = frz1K v (frzsA r q) := rfl
def frzG (ps : List PV) (ids : List Nat) : HP := k (.agg ps) ids
@[go_sem] theorem frzG_eq : frzG k ps ids = k (.agg ps) ids := rfl
@[go_sem] theorem frz_agg : frzK (.agg cs) k = frzsK cs (frzG k) := rfl
@[go_sem] theorem frz_pv : frzK (.pv p) k = k p [] := rfl
@[go_sem] theorem frz_row : frzK (.row id vw) k = frz1K (.row id vw) k := rfl
def shutR (z : HP) (o : AObj) : HP := match o with
  | .row c _ => .put id (.row c false) (shutK is z)
  | _ => .fail
@[go_sem] theorem shutR_row (z : HP) : shutR id is z (.row c m) = .put id (.row c false) (shutK is z) := rfl
@[go_sem] theorem shut_nil (z : HP) : shutK [] z = z := rfl
@[go_sem] theorem shut_cons (z : HP) : shutK (id :: is) z = .get id (shutR id is z) := by
  show HP.get id _ = _
  congr 1
@[go_sem] theorem asc_pv : (AV.pv p).sc = p.sc := rfl
@[go_sem] theorem asc_ptr : (AV.ptr id n).sc = true := rfl
@[go_sem] theorem asc_row : (AV.row id vw).sc = true := rfl
@[go_sem] theorem asc_cell : (AV.cell ps).sc = true := rfl
@[go_sem] theorem asc_mapr : (AV.mapr id).sc = true := rfl
@[go_sem] theorem asc_iter : (AV.iter id).sc = true := rfl
def aggB (b : Bool) : AV := match b with
  | true => mkAgg cs
  | false => .bad
@[go_sem] theorem aggB_true : aggB cs true = mkAgg cs := rfl
@[go_sem] theorem aggB_false : aggB cs false = .bad := rfl
@[go_sem] theorem aggAV_eq : aggAV cs = aggB cs (cs.all AV.sc) := by unfold aggAV aggB; generalize cs.all AV.sc = b; cases b <;> rfl
def varsB (b : Bool) : Option AObj := match b with
  | true => some (.vars cs)
  | false => none
@[go_sem] theorem varsB_true : varsB cs true = some (.vars cs) := rfl
@[go_sem] theorem varsB_false : varsB cs false = none := rfl
@[go_sem] theorem varsO_eq : varsO cs = varsB cs (cs.all AV.sc) := by unfold varsO varsB; generalize cs.all AV.sc = b; cases b <;> rfl
end
attribute [go_sem] AV.sc.eq_2 AV.sc.eq_3 AV.sc.eq_4 AV.sc.eq_5
/-! loads and stores -/
attribute [go_sem] retG.eq_1 retG.eq_2 retG.eq_3 retV.eq_1 loadVars.eq_1 loadElem.eq_1 loadK.eq_1 loadK.eq_2 loadK.eq_3 setCells.eq_1 storeVars.eq_1 elemOf.eq_1 putRow.eq_1 putRow.eq_2 storeElem.eq_1 storePtr.eq_1 storePtr.eq_2 storeK.eq_1 storeK.eq_2 storeRow.eq_2
section
variable (n off id idx : Nat) (vs cs : List AV) (v : AV) (k : IntKind) (x : Int) (b : Bool) (s : List UInt8) (ps : List PV) (l : List Int) (xs : List PV)
def retVF : List AV → HP
  | v :: _ => .ret v
  | [] => .fail
@[go_sem] theorem retVF_cons : retVF (v :: vs) = .ret v := rfl
@[go_sem] theorem retVF_nil : retVF [] = .fail := rfl
@[go_sem] theorem retV_false : retV n off cs false = retVF (cs.drop off) := by unfold retV retVF; generalize cs.drop off = l; cases l <;> rfl
@[go_sem] theorem elemOf_int : elemOf (.int k x) off ps = ps.headD (.int k x) := rfl
@[go_sem] theorem elemOf_bool : elemOf (.bool b) off ps = ps.headD (.bool b) := rfl
@[go_sem] theorem elemOf_str : elemOf (.str s) off ps = ps.headD (.str s) := rfl
@[go_sem] theorem elemOf_ints : elemOf (.ints k l) off ps = ps.headD (.ints k l) := rfl
@[go_sem] theorem elemOf_sl : elemOf (.sl n xs) off ps = ps.headD (.sl n xs) := rfl
def stR (ps : List PV) (ids : List Nat) : HP := chk (!ids.contains id) (.get id (storeElem id n idx off ps ids))
@[go_sem] theorem stR_eq (ids : List Nat) : stR n off id idx ps ids = chk (!ids.contains id) (.get id (storeElem id n idx off ps ids)) := rfl
@[go_sem] theorem storeRow_some : storeRow id n idx off (some vs) = frzsK vs (stR n off id idx) := rfl
end
/-! arithmetic -/
section
variable (k : IntKind) (a b : Int) (s t : List UInt8) (x y : Bool)
@[go_sem] theorem bin_add : binPV .add (.int k a) (.int k b) = ok (.int k (k.wrap (a + b))) := by simp [binPV, intPV]
@[go_sem] theorem bin_sub : binPV .sub (.int k a) (.int k b) = ok (.int k (k.wrap (a - b))) := by simp [binPV, intPV]
@[go_sem] theorem bin_mul : binPV .mul (.int k a) (.int k b) = ok (.int k (k.wrap (a * b))) := by simp [binPV, intPV]
@[go_sem] theorem bin_quo : binPV .quo (.int k a) (.int k b) = some (decide (¬ b = 0), .int k (k.wrap (a.tdiv b))) := by simp [binPV, intPV]
@[go_sem] theorem bin_rem : binPV .rem (.int k a) (.int k b) = some (decide (¬ b = 0), .int k (a.tmod b)) := by simp [binPV, intPV]
def andI (k : IntKind) (a b : Int) : Int := k.wrap (BitVec.ofInt k.bits a &&& BitVec.ofInt k.bits b).toNat
def orI (k : IntKind) (a b : Int) : Int := k.wrap (BitVec.ofInt k.bits a ||| BitVec.ofInt k.bits b).toNat
def xorI (k : IntKind) (a b : Int) : Int := k.wrap (BitVec.ofInt k.bits a ^^^ BitVec.ofInt k.bits b).toNat
def andNotI (k : IntKind) (a b : Int) : Int := k.wrap (BitVec.ofInt k.bits a &&& ~~~ BitVec.ofInt k.bits b).toNat
def shlI (k : IntKind) (a b : Int) : Int := k.wrap (a * 2 ^ (min b.toNat k.bits))
def shrI (k : IntKind) (a b : Int) : Int := a.fdiv (2 ^ (min b.toNat k.bits))
@[go_sem] theorem bin_and : binPV .and (.int k a) (.int k b) = ok (.int k (andI k a b)) := by simp [binPV, intPV, andI]
@[go_sem] theorem bin_or : binPV .or (.int k a) (.int k b) = ok (.int k (orI k a b)) := by simp [binPV, intPV, orI]
@[go_sem] theorem bin_xor : binPV .xor (.int k a) (.int k b) = ok (.int k (xorI k a b)) := by simp [binPV, intPV, xorI]
@[go_sem] theorem bin_andNot : binPV .andNot (.int k a) (.int k b) = ok (.int k (andNotI k a b)) := by simp [binPV, intPV, andNotI]
@[go_sem] theorem bin_eql : binPV .eql (.int k a) (.int k b) = ok (.bool (decide (a = b))) := by simp [binPV, intPV]
@[go_sem] theorem bin_neq : binPV .neq (.int k a) (.int k b) = ok (.bool (decide (¬ a = b))) := by simp [binPV, intPV]
@[go_sem] theorem bin_lss : binPV .lss (.int k a) (.int k b) = ok (.bool (decide (a < b))) := by simp [binPV, intPV]
@[go_sem] theorem bin_leq : binPV .leq (.int k a) (.int k b) = ok (.bool (decide (a ≤ b))) := by simp [binPV, intPV]
@[go_sem] theorem bin_gtr : binPV .gtr (.int k a) (.int k b) = ok (.bool (decide (b < a))) := by simp [binPV, intPV]
@[go_sem] theorem bin_geq : binPV .geq (.int k a) (.int k b) = ok (.bool (decide (b ≤ a))) := by simp [binPV, intPV]
@[go_sem] theorem bin_shl (k' : IntKind) : binPV .shl (.int k a) (.int k' b) = some (decide (0 ≤ b), .int k (shlI k a b)) := rfl
@[go_sem] theorem bin_shr (k' : IntKind) : binPV .shr (.int k a) (.int k' b) = some (decide (0 ≤ b), .int k (shrI k a b)) := rfl
@[go_sem] theorem bin_str (op : BinOp) : binPV op (.str s) (.str t) = strPV op s t := by cases op <;> rfl
@[go_sem] theorem un_neg : unPV .neg (.int k a) = ok (.int k (k.wrap (0 - a))) := rfl
def notI (k : IntKind) (a : Int) : Int := k.wrap (BitVec.ofInt k.bits (if k.signed then -1 else k.max) ^^^ BitVec.ofInt k.bits a).toNat
@[go_sem] theorem un_xor : unPV .xor (.int k a) = ok (.int k (notI k a)) := rfl
@[go_sem] theorem un_not : unPV .not (.bool x) = ok (.bool (!x)) := rfl
@[go_sem] theorem beq_eql : beqPV .eql (.bool x) (.bool y) = ok (.bool (decide (x = y))) := rfl
@[go_sem] theorem beq_neq : beqPV .neq (.bool x) (.bool y) = ok (.bool (decide (¬ x = y))) := rfl
@[go_sem] theorem ok_eq (p : PV) : ok p = some (true, p) := rfl
@[go_sem] theorem pick_bools (c : Bool) : pickK (.pv (.bool c)) (.pv (.bool x)) (.pv (.bool y)) = .ret (.pv (.bool (bif c then x else y))) := rfl
@[go_sem] theorem run_pick_t (call : Call) (h : Heap) (u v : AV) : (pickK (.pv (.bool true)) u v).run call h = some (u, h) := by
  unfold pickK
  split <;> simp_all [HP.run, kif]
@[go_sem] theorem run_pick_f (call : Call) (h : Heap) (u v : AV) : (pickK (.pv (.bool false)) u v).run call h = some (v, h) := by
  unfold pickK
  split <;> simp_all [HP.run, kif]
@[go_sem] theorem runF_pick_t (call : Call) (h : Heap) (r w : List Nat) (u v : AV) : (pickK (.pv (.bool true)) u v).runF call h r w = some (u, h, r, w) := by
  unfold pickK
  split <;> simp_all [HP.runF, kif]
@[go_sem] theorem runF_pick_f (call : Call) (h : Heap) (r w : List Nat) (u v : AV) : (pickK (.pv (.bool false)) u v).runF call h r w = some (v, h, r, w) := by
  unfold pickK
  split <;> simp_all [HP.runF, kif]
end
attribute [go_sem] strPV.eq_1 strPV.eq_2 strPV.eq_3 strPV.eq_4 strPV.eq_5 strPV.eq_6 strPV.eq_7 retO.eq_1 retO.eq_2 binK.eq_1 beqK.eq_1 unK.eq_1 retText.eq_1 retText.eq_2 rowText.eq_1 convK.eq_1 convK.eq_2 convK.eq_3 convK.eq_4 convK.eq_5 maxK.eq_1 minK.eq_1
/-! slices -/
attribute [go_sem] boundLo.eq_1 boundLo.eq_2 boundHi.eq_1 boundHi.eq_2 subView.eq_1 subView.eq_2 faddrK.eq_1 faddrK.eq_2 faddrK.eq_3 fieldK.eq_1 fieldK.eq_2 viewOff.eq_1 viewOff.eq_2 iaddrRow.eq_1 iaddrK.eq_1 iaddrK.eq_2 sidxK.eq_1 lenRow.eq_1 lenMap.eq_1 slenK.eq_1 lenK.eq_1 lenK.eq_2 mlenK.eq_1 srcRow.eq_1 srcK.eq_1 srcK.eq_3 grow.eq_1 growO.eq_1 growO.eq_2 appRow.eq_1 appK.eq_1 appK.eq_2 appendK.eq_1 copyO.eq_1 copyO.eq_2 copyRow.eq_1 zeros.eq_1 zeros.eq_2 mksliceK.eq_1 appzK.eq_1 newRowK.eq_1 newRowK.eq_2 retCells.eq_1 retCells.eq_2 boxK.eq_1 boxK.eq_2 nilchkK.eq_1 nilchkK.eq_2 nilchkK.eq_3
section
variable (n id h l : Nat) (vw : Option (Nat × Nat)) (lo hi : Option AV) (c p : PV) (m : Bool) (s : List UInt8) (k : IntKind) (q : Option IntKind) (li : List Int) (xs : List PV) (f : PV → HP) (vs : List AV) (v : AV)
def loR (id : Nat) (vw : Option (Nat × Nat)) (h l : Nat) : HP := .ret (.row id (subView vw l h))
@[go_sem] theorem loR_eq : loR id vw h l = .ret (.row id (subView vw l h)) := rfl
def hiR (id : Nat) (vw : Option (Nat × Nat)) (lo : Option AV) (h : Nat) : HP := boundLo h (loR id vw h) lo
@[go_sem] theorem hiR_eq : hiR id vw lo h = boundLo h (loR id vw h) lo := rfl
@[go_sem] theorem sliceRow_row : sliceRow n id vw lo hi (.row c m) = chk (c.esz n) (boundHi (viewOf c vw).len (hiR id vw lo) hi) := rfl
def loS (s : List UInt8) (h l : Nat) : HP := .ret (.pv (.str ((s.drop l).take (h - l))))
@[go_sem] theorem loS_eq : loS s h l = .ret (.pv (.str ((s.drop l).take (h - l)))) := rfl
def hiS (s : List UInt8) (lo : Option AV) (h : Nat) : HP := boundLo h (loS s h) lo
@[go_sem] theorem hiS_eq : hiS s lo h = boundLo h (loS s h) lo := rfl
@[go_sem] theorem sslice_str : ssliceK lo hi (.pv (.str s)) = boundHi s.length (hiS s lo) hi := rfl
def loP (p : PV) (h l : Nat) : HP := .ret (.pv (p.sub l h))
@[go_sem] theorem loP_eq : loP p h l = .ret (.pv (p.sub l h)) := rfl
def hiP (p : PV) (lo : Option AV) (h : Nat) : HP := boundLo h (loP p h) lo
@[go_sem] theorem hiP_eq : hiP p lo h = boundLo h (loP p h) lo := rfl
@[go_sem] theorem slice_pv : sliceK n lo hi (.pv p) = chk (p.esz n) (boundHi p.len (hiP p lo) hi) := rfl
@[go_sem] theorem slice_row : sliceK n lo hi (.row id vw) = .get id (sliceRow n id vw lo hi) := rfl
def extF : List AV → HP
  | v :: _ => .ret v
  | [] => .fail
@[go_sem] theorem extF_cons : extF (v :: vs) = .ret v := rfl
@[go_sem] theorem ext_tup (i : Nat) : extK i (.tup vs) = extF (vs.drop i) := by
  show (match vs.drop i with
    | v :: _ => HP.ret v
    | [] => HP.fail) = _
  unfold extF
  split <;> simp_all
@[go_sem] theorem src_ints : srcK n q f (.pv (.ints k li)) = chk true (f (.ints k li)) := rfl
@[go_sem] theorem src_sl (j : Nat) : srcK n q f (.pv (.sl j xs)) = chk true (f (.sl j xs)) := rfl
@[go_sem] theorem src_nil : srcK n q f (.pv .nil) = chk true (f (PV.emp n q)) := rfl
def copyG (n id : Nat) (vw : Option (Nat × Nat)) (s : PV) : HP := .get id (copyRow n id vw s)
@[go_sem] theorem copyG_eq (s : PV) : copyG n id vw s = .get id (copyRow n id vw s) := rfl
@[go_sem] theorem copy_row (y : AV) : copyK n q (.row id vw) y = srcK n q (copyG n id vw) y := rfl
@[go_sem] theorem elemV_one (qs : List PV) : elemV 1 qs = qs.headD .nil := rfl
theorem elemV_ne (qs : List PV) (hn : ¬ n = 1) : elemV n qs = .agg qs := by unfold elemV; split <;> first | rfl | exact absurd rfl hn
@[go_sem] theorem elemV_two (qs : List PV) : elemV (n + 2) qs = .agg qs := rfl
def elB (p : PV) (ids : List Nat) (k : List PV → List Nat → HP) (ps : List PV) (is : List Nat) : HP := k (p :: ps) (ids ++ is)
@[go_sem] theorem elB_eq (ids : List Nat) (k : List PV → List Nat → HP) (ps : List PV) (is : List Nat) : elB p ids k ps is = k (p :: ps) (ids ++ is) := rfl
def elA (r : List (Option (List AV))) (n : Nat) (k : List PV → List Nat → HP) (qs : List PV) (ids : List Nat) : HP := elemsK r n (elB (elemV n qs) ids k)
@[go_sem] theorem elA_eq (r : List (Option (List AV))) (k : List PV → List Nat → HP) (qs : List PV) (ids : List Nat) : elA r n k qs ids = elemsK r n (elB (elemV n qs) ids k) := rfl
@[go_sem] theorem elems_nil (k : List PV → List Nat → HP) : elemsK [] n k = k [] [] := rfl
@[go_sem] theorem elems_cons (r : List (Option (List AV))) (k : List PV → List Nat → HP) : elemsK (some vs :: r) n k = chk (decide (vs.length = n)) (frzsK vs (elA r n k)) := rfl
def bsG (dst n : Nat) (q : Option IntKind) (ps : List PV) (ids : List Nat) : HP := newRowK dst ids (PV.ofLits n q ps)
@[go_sem] theorem bsG_eq (dst : Nat) (ps : List PV) (ids : List Nat) : bsG dst n q ps ids = newRowK dst ids (PV.ofLits n q ps) := rfl
@[go_sem] theorem bslice_eq (dst : Nat) (ws : List (Option (List AV))) : bsliceK dst n q ws = elemsK ws n (bsG dst n q) := rfl
@[go_sem] theorem lay_nil (cs : List AV) : layParts cs [] = some cs := rfl
@[go_sem] theorem lay_cons (cs : List AV) (r : List (Nat × Nat × Option (List AV))) (off : Nat) : layParts cs ((off, n, some vs) :: r) = if vs.length = n then (if off + vs.length ≤ cs.length then layParts (setCells cs off vs) r else none) else none := rfl
end
/-! calls -/
section
variable (p : PV) (ps : List PV) (id : Nat) (vw : Option (Nat × Nat)) (r : List (AV × Md)) (k : List Arg → List Nat → List Nat → List Nat → HP) (as : List Arg) (ids is os us : List Nat) (cs : List AV) (c : PV) (m : Bool)
def argC (a : Arg) (ids : List Nat) (k : List Arg → List Nat → List Nat → List Nat → HP) (as : List Arg) (is os us : List Nat) : HP := k (a :: as) (ids ++ is) os us
@[go_sem] theorem argC_eq (a : Arg) : argC a ids k as is os us = k (a :: as) (ids ++ is) os us := rfl
def argP (r : List (AV × Md)) (k : List Arg → List Nat → List Nat → List Nat → HP) (p : PV) (ids : List Nat) : HP := argsK r (argC (.pv p) ids k)
@[go_sem] theorem argP_eq : argP r k p ids = argsK r (argC (.pv p) ids k) := rfl
@[go_sem] theorem args_nil : argsK [] k = k [] [] [] [] := rfl
@[go_sem] theorem args_pure (v : AV) : argsK ((v, .pure) :: r) k = frzK v (argP r k) := rfl
def argD (p : PV) (id : Nat) (k : List Arg → List Nat → List Nat → List Nat → HP) (as : List Arg) (is os us : List Nat) : HP := k (.own p :: as) is os (id :: us)
@[go_sem] theorem argD_eq : argD p id k as is os us = k (.own p :: as) is os (id :: us) := rfl
def argO (r : List (AV × Md)) (id : Nat) (k : List Arg → List Nat → List Nat → List Nat → HP) (p : PV) : HP := argsK r (argD p id k)
@[go_sem] theorem argO_eq : argO r id k p = argsK r (argD p id k) := rfl
@[go_sem] theorem args_own : argsK ((.row id vw, .own) :: r) k = .get id (lendRow vw (argO r id k)) := rfl
@[go_sem] theorem callRet_own (d : Nat) : callRet d true [.own p] = .new d (.row p true) (.ret (.row d none)) := rfl
@[go_sem] theorem callRet_pv (d : Nat) : callRet d true [.pv p] = .ret (.pv p) := rfl
@[go_sem] theorem callRet_one (d : Nat) (x : AR) : callRet d false [x] = .ret (resAV x) := rfl
@[go_sem] theorem callRet_zero (d : Nat) (b : Bool) : callRet d b [] = .ret (.tup []) := by cases b <;> rfl
@[go_sem] theorem callRet_more (d : Nat) (b : Bool) (x y : AR) (z : List AR) : callRet d b (x :: y :: z) = .ret (.tup ((x :: y :: z).map resAV)) := by cases b <;> cases x <;> rfl
@[go_sem] theorem flat_own_sl (n : Nat) (xs : List PV) : AR.flat (.own (.sl n xs)) = false := rfl
@[go_sem] theorem callGo_eq (d f n : Nat) (b : Bool) : callGo d f n b as ids os us = chk (nodupB us) (chk (ids.all fun i => !us.contains i) (delsK us (.call f as (callBack d n b ids os)))) := rfl
end
attribute [go_sem] resAV.eq_1 resAV.eq_2 AR.flat.eq_1 AR.flat.eq_2 lendRow.eq_1 delsK.eq_1 delsK.eq_2 nodupB.eq_1 nodupB.eq_2 callBack.eq_1
/-! maps and texts that are ranged over -/
attribute [go_sem] lookKv.eq_1 lookKv.eq_2 lookKv.eq_4 putKv.eq_1 putKv.eq_2 putKv.eq_4 putKv.eq_6 mlookO.eq_1 mlookO.eq_2 mlookO.eq_3 mlookMap.eq_1 mlookK.eq_1 mputO.eq_1 mputO.eq_2 mputMap.eq_1 rangeK.eq_1 nextIter.eq_1 nextK.eq_1 idxbK.eq_1
/-! loops' heads -/
section
variable (cn : Canon) (e : Env) (h g h1 : Heap) (o : Own) (v : AV) (r : List (Own × AV)) (ids : List Nat)
def takeA (r : List (Own × AV)) (g : Heap) (i : Nat) (x : AObj × Heap) : Option (Heap × Heap) := takeOwns r x.2 (hup g i (some (some x.1)))
@[go_sem] theorem takeA_eq (i : Nat) (x : AObj) : takeA r g i (x, h) = takeOwns r h (hup g i (some (some x))) := rfl
@[go_sem] theorem takeOwns_nil : takeOwns [] h g = some (h, g) := rfl
@[go_sem] theorem takeOwns_cons (i n : Nat) (k : Option IntKind) : takeOwns ((⟨i, n, k⟩, v) :: r) h g = kn (g i) (kb (takeOwn ⟨i, n, k⟩ h v) (takeA r g i)) := rfl
@[go_sem] theorem takeOwn_nil (i n : Nat) (k : Option IntKind) : takeOwn ⟨i, n, k⟩ h (.pv .nil) = some (.row (PV.emp n k) true, h) := rfl
@[go_sem] theorem takeOwn_row (id : Nat) (vw : Option (Nat × Nat)) : takeOwn o h (.row id vw) = kg (h id) (takeRow id vw h) := rfl
def putB (ids : List Nat) (h0 h : Heap) (id : Nat) (r : List (Nat × List (Option Own))) (g : Heap) (ob' : AObj) : Option Heap := putObjs ids h0 h r (hup g id (some (some ob')))
@[go_sem] theorem putB_eq (id : Nat) (r : List (Nat × List (Option Own))) (ob : AObj) : putB ids h h1 id r g ob = putObjs ids h h1 r (hup g id (some (some ob))) := rfl
def putA (ids : List Nat) (h0 h : Heap) (id : Nat) (spec : List (Option Own)) (r : List (Nat × List (Option Own))) (g : Heap) (ob : AObj) : Option Heap := kb (newObj ids h spec ob) (putB ids h0 h id r g)
@[go_sem] theorem putA_eq (id : Nat) (spec : List (Option Own)) (r : List (Nat × List (Option Own))) (ob : AObj) : putA ids h h1 id spec r g ob = kb (newObj ids h1 spec ob) (putB ids h h1 id r g) := rfl
@[go_sem] theorem putObjs_nil : putObjs ids h h1 [] g = some g := rfl
@[go_sem] theorem putObjs_cons (id : Nat) (spec : List (Option Own)) (r : List (Nat × List (Option Own))) : putObjs ids h h1 ((id, spec) :: r) g = kn (g id) (kg (h id) (putA ids h h1 id spec r g)) := rfl
def canonB (ids : List Nat) (slots : List (Nat × Option Own)) (e : Env) (h1 g : Heap) : Option St := some ⟨newEnv ids h1 e slots, g⟩
@[go_sem] theorem canonB_eq (slots : List (Nat × Option Own)) : canonB ids slots e h1 g = some ⟨newEnv ids h1 e slots, g⟩ := rfl
def canonA (slots : List (Nat × Option Own)) (objs : List (Nat × List (Option Own))) (e : Env) (h : Heap) (x : Heap × Heap) : Option St := kb (putObjs (objIds objs) h x.1 objs x.2) (canonB (objIds objs) slots e x.1)
@[go_sem] theorem canonA_eq (slots : List (Nat × Option Own)) (objs : List (Nat × List (Option Own))) : canonA slots objs e h (h1, g) = kb (putObjs (objIds objs) h h1 objs g) (canonB (objIds objs) slots e h1) := rfl
@[go_sem] theorem canon_eq (slots : List (Nat × Option Own)) (objs : List (Nat × List (Option Own))) : canon ⟨slots, objs⟩ ⟨e, h⟩ = kb (takeOwns (ownSlots e slots ++ ownObjs h objs) h hp0) (canonA slots objs e h) := rfl
@[go_sem] theorem scrub_pv (p : PV) : scrub ids h (.pv p) = .pv p := rfl
@[go_sem] theorem scrub_cell (cs : List PV) : scrub ids h (.cell cs) = .cell cs := rfl
@[go_sem] theorem scrub_und : scrub ids h .und = .und := rfl
@[go_sem] theorem scrub_bad : scrub ids h .bad = .bad := rfl
@[go_sem] theorem scrub_ptr (i n : Nat) : scrub ids h (.ptr i n) = scrub1 ids h (.ptr i n) := rfl
@[go_sem] theorem scrub_mapr (i : Nat) : scrub ids h (.mapr i) = scrub1 ids h (.mapr i) := rfl
@[go_sem] theorem scrub_iter (i : Nat) : scrub ids h (.iter i) = scrub1 ids h (.iter i) := rfl
@[go_sem] theorem scrub_row (i : Nat) (vw : Option (Nat × Nat)) : scrub ids h (.row i vw) = rowAV vw (h i) := rfl
@[go_sem] theorem scrub_elem (i j n : Nat) : scrub ids h (.elem i j n) = .bad := rfl
@[go_sem] theorem scrub_tup (vs : List AV) : scrub ids h (.tup vs) = .bad := rfl
@[go_sem] theorem scrub1_bad : scrub1 ids h .bad = .bad := rfl
@[go_sem] theorem scrub1_elem (i j n : Nat) : scrub1 ids h (.elem i j n) = .bad := rfl
@[go_sem] theorem ownCells_nil (vs : List AV) : ownCells [] vs = [] := by cases vs <;> rfl
@[go_sem] theorem ownCells_end (s : List (Option Own)) : ownCells s [] = [] := by cases s with
  | nil => rfl
  | cons x _ => cases x <;> rfl
end
attribute [go_sem] takeRow.eq_1 takeRow.eq_2 rowAV.eq_1 scrub.eq_1 scrub1.eq_1 scrub1.eq_2 scrub1.eq_3 scrub1.eq_4 scrub1.eq_5 scrub1.eq_6 scrub1.eq_7 ownCells.eq_1 ownCells.eq_2 newCells.eq_1 newCells.eq_2 newCells.eq_3 newCells.eq_4 cellsAt.eq_1 ownSlots.eq_1 ownSlots.eq_2 ownSlots.eq_3 ownObjs.eq_1 ownObjs.eq_2 newObj.eq_1 newObj.eq_2 newObj.eq_3 newEnv.eq_1 newEnv.eq_2 newEnv.eq_3 objIds.eq_1 objIds.eq_2 thenK.eq_1 thenK.eq_2 thenK.eq_3 blockK.eq_1 blockK.eq_2 blockK.eq_3
/-! ends -/
section
variable (e : Env) (h : Heap) (rs : List ARes) (x : ARes) (args : List Arg) (id : Nat) (vw : Option (Nat × Nat)) (p : PV) (cs : List AV) (i : Nat)
def resB (a : AR) (y : List AR × Heap) : Option (List AR × Heap) := some (a :: y.1, y.2)
@[go_sem] theorem resB_eq (a : AR) (y : List AR) : resB a (y, h) = some (a :: y, h) := rfl
def resA (e : Env) (rs : List ARes) (x : AR × Heap) : Option (List AR × Heap) := kb (results e rs x.2) (resB x.1)
@[go_sem] theorem resA_eq (a : AR) : resA e rs (a, h) = kb (results e rs h) (resB a) := rfl
@[go_sem] theorem results_nil : results e [] h = some ([], h) := rfl
@[go_sem] theorem results_cons : results e (x :: rs) h = kb (result1 e h x) (resA e rs) := rfl
def finC (x : AV × Heap) : Option (AR × Heap) := finish1 x.2 x.1
@[go_sem] theorem finC_eq (v : AV) : finC (v, h) = finish1 h v := rfl
@[go_sem] theorem result1_tmp (t : Nat) : result1 e h (.tmp t) = finish1 h (e t) := rfl
@[go_sem] theorem result1_cell (t n : Nat) (g : Bool) : result1 e h (.cell t n g) = kb ((loadK n g (e t)).run noCall h) finC := rfl
def finA (ps : List PV) (ids : List Nat) : HP := shutK ids (.ret (.pv (.agg ps)))
@[go_sem] theorem finA_eq (ps : List PV) (ids : List Nat) : finA ps ids = shutK ids (.ret (.pv (.agg ps))) := rfl
def finB (r : AV × Heap) : Option (AR × Heap) := finPV r.1 r.2
@[go_sem] theorem finB_eq (v : AV) : finB (v, h) = finPV v h := rfl
@[go_sem] theorem finish1_row : finish1 h (.row id vw) = kg (h id) (finRow id vw h) := rfl
@[go_sem] theorem finish1_pv : finish1 h (.pv p) = some (.pv p, h) := rfl
@[go_sem] theorem finish1_agg : finish1 h (.agg cs) = kb ((frzsK cs finA).run noCall h) finB := rfl
def colB (rs : List AR) (ys : List AR) : Option (List AR) := some (rs ++ ys)
@[go_sem] theorem colB_eq (rs ys : List AR) : colB rs ys = some (rs ++ ys) := rfl
def colA (args : List Arg) (x : List AR × Heap) : Option (List AR) := kb (finals 0 args x.2) (colB x.1)
@[go_sem] theorem colA_eq (ys : List AR) : colA args (ys, h) = kb (finals 0 args h) (colB ys) := rfl
@[go_sem] theorem collect_eq : collect rs args ⟨e, h⟩ = kb (results e rs h) (colA args) := rfl
end
attribute [go_sem] enterE.eq_1 enterE.eq_2 enterE.eq_3 enterE.eq_4 enterH.eq_1 enterH.eq_2 enterH.eq_3 enterH.eq_4 finRow.eq_1 finRow.eq_2 finPV.eq_1 finals.eq_1 finals.eq_3 finals.eq_4 endK.eq_1 endK.eq_2 endK.eq_3 loopK.eq_1 loopK.eq_2 loopK.eq_3
attribute [go_sem] List.length_cons List.length_nil List.length_map List.length_append List.length_replicate List.length_set List.drop_zero List.drop_succ_cons List.drop_nil List.take_zero List.take_succ_cons List.take_nil List.take_length List.cons_append List.nil_append List.append_nil List.map_cons List.map_nil List.all_cons List.all_nil List.headD_cons List.headD_nil List.isEmpty_nil List.isEmpty_cons List.contains_nil List.contains_cons List.getD_cons_zero List.getD_cons_succ List.getD_nil Option.getD_some Option.getD_none Option.map_some Option.map_none Nat.sub_zero Nat.zero_add Nat.add_zero
attribute [go_sem] decide_true decide_false decide_eq_true_eq decide_eq_false_iff_not Bool.not_true Bool.not_false Bool.true_and Bool.false_and Bool.and_true Bool.and_false Bool.true_or Bool.false_or Bool.or_true Bool.or_false Bool.cond_true Bool.cond_false beq_self_eq_true eq_self not_true_eq_false not_false_eq_true
end Go.Proofs.Ytkeipmkiilimeaa.V
namespace Go.Proofs.Ytkeipmkiilimeaa.V
open Go
/-- Slots and objects, as lists. -/
def mk : List (Nat × AV) → Env
  | [] => env0
  | (t, v) :: r => upd (mk r) t v
def hp : List (Nat × AObj) → Heap
  | [] => hp0
  | (t, o) :: r => hup (hp r) t (some (some o))
attribute [go_sem] mk hp
def Ev {α : Type} (f : Nat → Option α) (r : α) : Prop := ∃ n, ∀ k, n ≤ k → f k = some r
section
variable {α β : Type} {f : Nat → Option α} {a : α} {b : β}
theorem Ev.ret (a : α) : Ev (fun _ => some a) a := ⟨0, fun _ _ => rfl⟩
theorem Ev.bind {g : Nat → α → Option β} (h : Ev f a) (h2 : Ev (fun k => g k a) b) : Ev (fun k => kb (f k) (g k)) b := by
  obtain ⟨n, hn⟩ := h
  obtain ⟨m, hm⟩ := h2
  exact ⟨n + m, fun k hk => by show kb (f k) (g k) = some b; rw [hn k (by omega)]; exact hm k (by omega)⟩
theorem Ev.to {g : Nat → Option α} (h : Ev g a) (e : ∀ k, f k = g k) : Ev f a := by
  obtain ⟨n, hn⟩ := h
  exact ⟨n, fun k hk => (e k).trans (hn k hk)⟩
theorem Ev.choose {c : Prop} {i : Decidable c} {x y : Nat → Option α} (h1 : c → Ev x a) (h2 : ¬ c → Ev y a) : Ev (fun k => kif c (x k) (y k)) a := by
  by_cases hc : c
  · obtain ⟨n, hn⟩ := h1 hc
    exact ⟨n, fun k hk => (if_pos hc).trans (hn k hk)⟩
  · obtain ⟨n, hn⟩ := h2 hc
    exact ⟨n, fun k hk => (if_neg hc).trans (hn k hk)⟩
theorem Ev.pos {c : Prop} {i : Decidable c} {x y : Nat → Option α} (h : c) (h1 : Ev x a) : Ev (fun k => kif c (x k) (y k)) a := .choose (fun _ => h1) fun h2 => absurd h h2
theorem Ev.neg {c : Prop} {i : Decidable c} {x y : Nat → Option α} (h : ¬ c) (h1 : Ev y a) : Ev (fun k => kif c (x k) (y k)) a := .choose (fun h2 => absurd h2 h) fun _ => h1
variable {A : Nat → Option AFun} {X : Nat → Option (List Arg → Option (List AR))}
theorem Ev.call {f : Nat} {F : AFun} {args : List Arg} {r : List AR} (hX : X f = none) (hA : A f = some F) (h : Ev (fun k => fcall (lvl A X k) F args) r) : Ev (fun k => (lvl A X k).call f args) r := by
  obtain ⟨n, hn⟩ := h
  refine ⟨n + 1, fun k hk => ?_⟩
  obtain ⟨m, rfl⟩ : ∃ m, k = m + 1 := ⟨k - 1, by omega⟩
  show (match X f with | some g => g args | none => kb (A f) fun F => fcall (lvl A X m) F args) = _
  rw [hX, hA]
  exact hn m (by omega)
theorem Ev.outer {f : Nat} {g : List Arg → Option (List AR)} {args : List Arg} {r : List AR} (hX : X f = some g) (h : g args = some r) : Ev (fun k => (lvl A X k).call f args) r := by
  refine ⟨1, fun k hk => ?_⟩
  obtain ⟨m, rfl⟩ : ∃ m, k = m + 1 := ⟨k - 1, by omega⟩
  show (match X f with | some g => g args | none => kb (A f) fun F => fcall (lvl A X m) F args) = _
  rw [hX]
  exact h
/-- A loop, from the head of its body, in the form that Canon asks for. -/
def run (E : Lvl) (cn : Canon) (b : ACode) (σ : St) : Option (AExit × St) := aev E b σ (den (loopK (lp E cn b)) E [])
theorem Ev.lp {cn : Canon} {c : ACode} {σ σ' : St} {r : AExit × St} (e : canon cn σ = some σ') (h : Ev (fun k => run (lvl A X k) cn c σ') r) : Ev (fun k => lp (lvl A X k) cn c σ) r := by
  obtain ⟨n, hn⟩ := h
  refine ⟨n + 1, fun k hk => ?_⟩
  obtain ⟨m, rfl⟩ : ∃ m, k = m + 1 := ⟨k - 1, by omega⟩
  have h2 : run (lvl A X m) cn c σ' = some r := hn m (by omega)
  unfold run at h2
  rw [den_nil] at h2
  show kb (canon cn σ) (fun σ' => aev (lvl A X m) c σ' (loopK (V.lp (lvl A X m) cn c))) = some r
  rw [e]
  exact h2
theorem Ev.body {cn : Canon} {c c' : ACode} {σ : St} {r : AExit × St} (hb : c = c') (h : Ev (fun k => aev (lvl A X k) c' σ (den (loopK (V.lp (lvl A X k) cn c)) (lvl A X k) [])) r) : Ev (fun k => run (lvl A X k) cn c σ) r := by
  subst hb
  exact h
end
end Go.Proofs.Ytkeipmkiilimeaa.V
namespace Go.Proofs.Ytkeipmkiilimeaa.V
open Go
theorem kb_inv' {α β : Type} {x : Option α} {f : α → Option β} {r : β} (h : kb x f = some r) : ∃ a, x = some a ∧ f a = some r := by
  cases x with
  | none => cases h
  | some a => exact ⟨a, rfl, h⟩
theorem kg_inv' {α β : Type} {x : Option (Option α)} {f : α → Option β} {r : β} (h : kg x f = some r) : ∃ a, x = some (some a) ∧ f a = some r := by
  match x, h with
  | some (some a), h => exact ⟨a, rfl, h⟩
theorem kd_inv' {α β : Type} {x : Option (Option α)} {y : Option β} {r : β} (h : kd x y = some r) : x = some none ∧ y = some r := by
  match x, h with
  | some none, h => exact ⟨rfl, h⟩
theorem kn_inv' {α β : Type} {x : Option (Option α)} {y : Option β} {r : β} (h : kn x y = some r) : x = none ∧ y = some r := by
  match x, h with
  | none, h => exact ⟨rfl, h⟩
def CLe (c c' : Call) : Prop := ∀ f as r, c f as = some r → c' f as = some r
theorem run_mono {c c' : Call} (hc : CLe c c') (p : HP) : ∀ h r, p.run c h = some r → p.run c' h = some r := by
  induction p with
  | ret v => intro h r e; exact e
  | fail => intro h r e; exact e
  | br b x y ihx ihy => intro h r e; cases b; exact ihy h r e; exact ihx h r e
  | get id k ih =>
    intro h r e
    obtain ⟨o, h1, h2⟩ := kg_inv' (show kg (h id) _ = _ from e)
    show kg (h id) _ = _
    rw [h1]; exact ih o h r h2
  | put id o k ih =>
    intro h r e
    obtain ⟨o, h1, h2⟩ := kg_inv' (show kg (h id) _ = _ from e)
    show kg (h id) _ = _
    rw [h1]; exact ih _ r h2
  | new id o k ih =>
    intro h r e
    obtain ⟨h1, h2⟩ := kn_inv' (show kn (h id) _ = _ from e)
    show kn (h id) _ = _
    rw [h1]; exact ih _ r h2
  | del id k ih =>
    intro h r e
    obtain ⟨o, h1, h2⟩ := kg_inv' (show kg (h id) _ = _ from e)
    show kg (h id) _ = _
    rw [h1]; exact ih _ r h2
  | back id o k ih =>
    intro h r e
    obtain ⟨h1, h2⟩ := kd_inv' (show kd (h id) _ = _ from e)
    show kd (h id) _ = _
    rw [h1]; exact ih _ r h2
  | call f as k ih =>
    intro h r e
    obtain ⟨rs, h1, h2⟩ := kb_inv' (show kb (c f as) _ = _ from e)
    show kb (c' f as) _ = _
    rw [hc _ _ _ h1]; exact ih rs h r h2
theorem runF_mono {c c' : Call} (hc : CLe c c') (p : HP) : ∀ h l w r, p.runF c h l w = some r → p.runF c' h l w = some r := by
  induction p with
  | ret v => intro h l w r e; exact e
  | fail => intro h l w r e; exact e
  | br b x y ihx ihy => intro h l w r e; cases b; exact ihy h l w r e; exact ihx h l w r e
  | get id k ih =>
    intro h l w r e
    obtain ⟨o, h1, h2⟩ := kg_inv' (show kg (h id) _ = _ from e)
    show kg (h id) _ = _
    rw [h1]; exact ih o h _ _ r h2
  | put id o k ih =>
    intro h l w r e
    obtain ⟨o, h1, h2⟩ := kg_inv' (show kg (h id) _ = _ from e)
    show kg (h id) _ = _
    rw [h1]; exact ih _ _ _ r h2
  | new id o k ih =>
    intro h l w r e
    obtain ⟨h1, h2⟩ := kn_inv' (show kn (h id) _ = _ from e)
    show kn (h id) _ = _
    rw [h1]; exact ih _ _ _ r h2
  | del id k ih =>
    intro h l w r e
    obtain ⟨o, h1, h2⟩ := kg_inv' (show kg (h id) _ = _ from e)
    show kg (h id) _ = _
    rw [h1]; exact ih _ _ _ r h2
  | back id o k ih =>
    intro h l w r e
    obtain ⟨h1, h2⟩ := kd_inv' (show kd (h id) _ = _ from e)
    show kd (h id) _ = _
    rw [h1]; exact ih _ _ _ r h2
  | call f as k ih =>
    intro h l w r e
    obtain ⟨rs, h1, h2⟩ := kb_inv' (show kb (c f as) _ = _ from e)
    show kb (c' f as) _ = _
    rw [hc _ _ _ h1]; exact ih rs h _ _ r h2
theorem kw_mono {α : Type} {v : AV} {b : Bool} {x x' y : Option α} {r : α} (hx : ∀ r, x = some r → x' = some r) (h : kw v b x y = some r) : kw v b x' y = some r := by
  cases v with
  | pv p => cases p with
    | bool c => cases c <;> cases b <;> first | exact hx _ h | exact h
    | _ => exact h
  | _ => exact h
theorem aop_mono {c c' : Call} (hc : CLe c c') (o : AOper) (σ : St) : ∀ r, aop c o σ = some r → aop c' o σ = some r := by
  intro r e
  obtain ⟨d, op, g⟩ := o
  have key : ∀ r, kb ((opK (d.getD 0) σ.env op).run c σ.heap) (fun r => some ⟨updO σ.env d r.1, r.2⟩) = some r → kb ((opK (d.getD 0) σ.env op).run c' σ.heap) (fun r => some (⟨updO σ.env d r.1, r.2⟩ : St)) = some r := by
    intro r e
    obtain ⟨a, h1, h2⟩ := kb_inv' e
    rw [run_mono hc _ _ _ h1]; exact h2
  cases g with
  | none => exact key r e
  | some g => exact kw_mono key e
theorem aops_mono {c c' : Call} (hc : CLe c c') : ∀ (os : List AOper) (σ : St) r, aops c os σ = some r → aops c' os σ = some r
  | [], σ, r, e => e
  | o :: os, σ, r, e => by
    obtain ⟨a, h1, h2⟩ := kb_inv' (show kb (aop c o σ) (aops c os) = some r from e)
    show kb (aop c' o σ) (aops c' os) = some r
    rw [aop_mono hc _ _ _ h1]; exact aops_mono hc os a r h2
theorem aopF_mono {c c' : Call} (hc : CLe c c') (o : AOper) (σ : St) : ∀ r, aopF c o σ = some r → aopF c' o σ = some r := by
  intro r e
  obtain ⟨d, op, g⟩ := o
  have key : ∀ r, kb ((opK (d.getD 0) σ.env op).runF c σ.heap [] []) (fun r => some (⟨updO σ.env d r.1, r.2.1⟩, r.2.2)) = some r → kb ((opK (d.getD 0) σ.env op).runF c' σ.heap [] []) (fun r => some ((⟨updO σ.env d r.1, r.2.1⟩ : St), r.2.2)) = some r := by
    intro r e
    obtain ⟨a, h1, h2⟩ := kb_inv' e
    rw [runF_mono hc _ _ _ _ _ h1]; exact h2
  cases g with
  | none => exact key r e
  | some g => exact kw_mono key e
theorem aopsF_mono {c c' : Call} (hc : CLe c c') : ∀ (os : List AOper) (fs : List (List Nat × List Nat)) (σ : St) r, aopsF c os fs σ = some r → aopsF c' os fs σ = some r
  | [], fs, σ, r, e => e
  | o :: os, fs, σ, r, e => by
    obtain ⟨a, h1, h2⟩ := kb_inv' (show kb (aopF c o σ) (fun s => aopsF c os (fs ++ [s.2]) s.1) = some r from e)
    show kb (aopF c' o σ) (fun s => aopsF c' os (fs ++ [s.2]) s.1) = some r
    rw [aopF_mono hc _ _ _ h1]; exact aopsF_mono hc os _ _ r h2
def LLe (E E' : Lvl) : Prop := CLe E.call E'.call ∧ ∀ cn b σ r, E.loop cn b σ = some r → E'.loop cn b σ = some r
theorem aev_mono {R : Type} {E E' : Lvl} (hE : LLe E E') (c : ACode) : ∀ (σ : St) (K K' : AExit → St → Option R) r, (∀ e τ r, K e τ = some r → K' e τ = some r) → aev E c σ K = some r → aev E' c σ K' = some r := by
  induction c with
  | skip => intro σ K K' r hK e; exact hK _ _ _ e
  | region os ks =>
    intro σ K K' r hK e
    obtain ⟨a, h1, h2⟩ := kb_inv' (show kb (aops E.call os σ) (regK K ks) = some r from e)
    show kb (aops E'.call os σ) (regK K' ks) = some r
    rw [aops_mono hE.1 _ _ _ h1]; exact hK _ _ _ h2
  | dregion os ks ps =>
    intro σ K K' r hK e
    obtain ⟨a, h1, h2⟩ := kb_inv' (show kb (aopsF E.call os [] σ) (dregK K ks ps) = some r from e)
    show kb (aopsF E'.call os [] σ) (dregK K' ks ps) = some r
    rw [aopsF_mono hE.1 _ _ _ _ h1]
    show kif (pairsOk a.2 ps = true) (regK K' ks a.1) none = some r
    have h2 : kif (pairsOk a.2 ps = true) (regK K ks a.1) none = some r := h2
    unfold kif at h2 ⊢
    split at h2
    · rename_i hp; rw [if_pos hp]; exact hK _ _ _ h2
    · cases h2
  | seq a b iha ihb =>
    intro σ K K' r hK e
    refine iha σ _ _ r (fun x τ r h => ?_) e
    cases x with
    | normal => exact ihb τ K K' r hK h
    | exit i => exact hK _ _ _ h
    | ret => exact hK _ _ _ h
  | cond v a b iha ihb =>
    intro σ K K' r hK e
    have e : kc (opd σ.env v) (aev E a σ K) (aev E b σ K) = some r := e
    show kc (opd σ.env v) (aev E' a σ K') (aev E' b σ K') = some r
    generalize opd σ.env v = x at *
    cases x with
    | pv p => cases p with
      | bool t => cases t; exact ihb σ K K' r hK e; exact iha σ K K' r hK e
      | _ => exact e
    | _ => exact e
  | block id b ih =>
    intro σ K K' r hK e
    refine ih σ _ _ r (fun x τ r h => ?_) e
    cases x with
    | normal => exact hK _ _ _ h
    | exit i =>
      have h : (if i = id then K .normal τ else K (.exit i) τ) = some r := h
      show (if i = id then K' .normal τ else K' (.exit i) τ) = some r
      split at h
      · rename_i hi; rw [if_pos hi]; exact hK _ _ _ h
      · rename_i hi; rw [if_neg hi]; exact hK _ _ _ h
    | ret => exact hK _ _ _ h
  | loop cn b ih =>
    intro σ K K' r hK e
    obtain ⟨a, h1, h2⟩ := kb_inv' (show kb (lp E cn b σ) (outK K) = some r from e)
    show kb (lp E' cn b σ) (outK K') = some r
    rw [show lp E' cn b σ = some a from hE.2 _ _ _ _ h1]; exact hK _ _ _ h2
  | join cn b ih =>
    intro σ K K' r hK e
    obtain ⟨a, h1, h2⟩ := kb_inv' (show kb (canon cn σ) (fun τ => aev E b τ K) = some r from e)
    show kb (canon cn σ) (fun τ => aev E' b τ K') = some r
    rw [h1]; exact ih a K K' r hK h2
  | exit i => intro σ K K' r hK e; exact hK _ _ _ e
  | ret => intro σ K K' r hK e; exact hK _ _ _ e
theorem lvl_mono {A : Nat → Option AFun} {X : Nat → Option (List Arg → Option (List AR))} : ∀ k, LLe (lvl A X k) (lvl A X (k + 1)) := by
  intro k
  induction k with
  | zero => exact ⟨fun _ _ _ (h : none = some _) => (by cases h), fun _ _ _ _ (h : none = some _) => (by cases h)⟩
  | succ k ih =>
    refine ⟨fun f as r h => ?_, fun cn b σ r h => ?_⟩
    · have h : (match X f with | some g => g as | none => kb (A f) fun F => fcall (lvl A X k) F as) = some r := h
      show (match X f with | some g => g as | none => kb (A f) fun F => fcall (lvl A X (k + 1)) F as) = some r
      cases hX : X f with
      | some g => rw [hX] at h; exact h
      | none =>
        rw [hX] at h
        obtain ⟨F, h1, h2⟩ := kb_inv' h
        show kb (A f) (fun F => fcall (lvl A X (k + 1)) F as) = some r
        rw [h1]
        exact aev_mono ih F.body _ _ _ r (fun _ _ _ h => h) h2
    · obtain ⟨a, h1, h2⟩ := kb_inv' (show kb (canon cn σ) (fun σ' => aev (lvl A X k) b σ' (loopK (lp (lvl A X k) cn b))) = some r from h)
      show kb (canon cn σ) (fun σ' => aev (lvl A X (k + 1)) b σ' (loopK (lp (lvl A X (k + 1)) cn b))) = some r
      rw [h1]
      refine aev_mono ih b _ _ _ r (fun e τ r h => ?_) h2
      cases e with
      | normal => exact ih.2 _ _ _ _ h
      | exit i => exact h
      | ret => exact h
/-- A run that was seen with some rounds. -/
theorem Ev.seen {A : Nat → Option AFun} {X : Nat → Option (List Arg → Option (List AR))} {n f : Nat} {args : List Arg} {r : List AR} (h : (lvl A X n).call f args = some r) : Ev (fun k => (lvl A X k).call f args) r := by
  refine ⟨n, fun k hk => ?_⟩
  obtain ⟨d, rfl⟩ := Nat.exists_eq_add_of_le hk
  clear hk
  induction d with
  | zero => exact h
  | succ d ih => exact (lvl_mono (n + d)).1 _ _ _ ih
end Go.Proofs.Ytkeipmkiilimeaa.V
namespace Go.Proofs.Ytkeipmkiilimeaa.V
open Go
theorem ilt_t {a b : Int} (h : a < b) : (a < b) = True := eq_true h
theorem ilt_f {a b : Int} (h : b ≤ a) : (a < b) = False := eq_false (by omega)
theorem ile_t {a b : Int} (h : a ≤ b) : (a ≤ b) = True := eq_true h
theorem ile_f {a b : Int} (h : b < a) : (a ≤ b) = False := eq_false (by omega)
theorem ieq_t {a b : Int} (h : a = b) : (a = b) = True := eq_true h
theorem ieq_f {a b : Int} (h : ¬ a = b) : (a = b) = False := eq_false h
theorem nlt_t {a b : Nat} (h : a < b) : (a < b) = True := eq_true h
theorem nlt_f {a b : Nat} (h : b ≤ a) : (a < b) = False := eq_false (by omega)
theorem nle_t {a b : Nat} (h : a ≤ b) : (a ≤ b) = True := eq_true h
theorem nle_f {a b : Nat} (h : b < a) : (a ≤ b) = False := eq_false (by omega)
theorem neq_t {a b : Nat} (h : a = b) : (a = b) = True := eq_true h
theorem neq_f {a b : Nat} (h : ¬ a = b) : (a = b) = False := eq_false h
theorem w64 {x : Int} (h1 : -9223372036854775808 ≤ x) (h2 : x < 9223372036854775808) : IntKind.i64.wrap x = x := by
  simp [IntKind.wrap, IntKind.bits, IntKind.signed]; omega
theorem w32 {x : Int} (h1 : -2147483648 ≤ x) (h2 : x < 2147483648) : IntKind.i32.wrap x = x := by
  simp [IntKind.wrap, IntKind.bits, IntKind.signed]; omega
theorem u64_mod (x : Int) : IntKind.u64.wrap x = x % 18446744073709551616 := by
  simp [IntKind.wrap, IntKind.bits, IntKind.signed]
theorem u32_mod (x : Int) : IntKind.u32.wrap x = x % 4294967296 := by
  simp [IntKind.wrap, IntKind.bits, IntKind.signed]
theorem u16_mod (x : Int) : IntKind.u16.wrap x = x % 65536 := by
  simp [IntKind.wrap, IntKind.bits, IntKind.signed]
theorem u8_mod (x : Int) : IntKind.u8.wrap x = x % 256 := by
  simp [IntKind.wrap, IntKind.bits, IntKind.signed]
theorem u64 {x : Int} (h1 : 0 ≤ x) (h2 : x < 18446744073709551616) : IntKind.u64.wrap x = x := by
  rw [u64_mod]; exact Int.emod_eq_of_lt h1 h2
theorem u32 {x : Int} (h1 : 0 ≤ x) (h2 : x < 4294967296) : IntKind.u32.wrap x = x := by
  rw [u32_mod]; exact Int.emod_eq_of_lt h1 h2
theorem emod_fit {x n : Int} (h1 : 0 ≤ x) (h2 : x < n) : x % n = x := Int.emod_eq_of_lt h1 h2
theorem big_eq : big = 4294967296 := rfl
theorem nbig {a : Nat} (h : a < 4294967296) : (a < big) = True := eq_true h
theorem ibig {a : Int} (h : a < 4294967296) : (a < ((big : Nat) : Int)) = True := eq_true h
theorem tt {p : Prop} (h : p) : p = True := eq_true h
theorem ff {p : Prop} (h : ¬ p) : p = False := eq_false h
theorem natCast_add_one (n : Nat) : ((n + 1 : Nat) : Int) = (n : Int) + 1 := by omega
theorem natCast_zero : ((0 : Nat) : Int) = 0 := (rfl)
theorem shr_u64_32 (a : Int) : shrI .u64 a 32 = a / 4294967296 := by
  show a.fdiv 4294967296 = _
  exact Int.fdiv_eq_ediv_of_nonneg _ (by decide)
theorem shr_u64_63 (a : Int) : shrI .u64 a 63 = a / 9223372036854775808 := by
  show a.fdiv 9223372036854775808 = _
  exact Int.fdiv_eq_ediv_of_nonneg _ (by decide)
theorem shr_u32_31 (a : Int) : shrI .u32 a 31 = a / 2147483648 := by
  show a.fdiv 2147483648 = _
  exact Int.fdiv_eq_ediv_of_nonneg _ (by decide)
theorem shl_u64_32 (a : Int) : shlI .u64 a 32 = a * 4294967296 % 18446744073709551616 := u64_mod _
theorem shl_u32_1 (a : Int) : shlI .u32 a 1 = a * 2 % 4294967296 := u32_mod _
theorem and_one {x : Int} (h0 : 0 ≤ x) (h1 : x < 4294967296) : andI .u32 x 1 = x % 2 := by
  have f : ∀ n : Int, 0 ≤ n → n < 2 ^ 32 → IntKind.u32.wrap n = n := fun n h1 h2 => u32 h1 (by have : n < 4294967296 := h2; exact this)
  exact Go.bits_mask .u32 32 (by decide) f 1 (by decide) x h0 (by show x < 4294967296; exact h1)
theorem ret_two {k : IntKind} {x y : Int} {c : PV} (h : x = y) : Ev (fun _ => some [AR.pv (.int k x), AR.pv c]) [AR.pv (.int k y), AR.pv c] := h ▸ Ev.ret _
theorem wrap_neg {n : Int} (h0 : 0 ≤ n) (h1 : n ≤ 9223372036854775808) : IntKind.i64.wrap ((18446744073709551615 - n + 1) % 18446744073709551616) = -n ∧ IntKind.i64.wrap (18446744073709551615 - n + 1) = -n := by
  constructor <;> simp [IntKind.wrap, IntKind.bits, IntKind.signed] <;> omega
theorem max_nat (a b : Nat) {i : Decidable ((a : Int) < (b : Int))} : (@ite Int ((a : Int) < (b : Int)) i (b : Int) (a : Int)) = ((max a b : Nat) : Int) := by split <;> omega
theorem td {x n : Int} (h : 0 ≤ x) : x.tdiv n = x / n := Int.tdiv_eq_ediv_of_nonneg h
theorem tm {x n : Int} (h : 0 ≤ x) : x.tmod n = x % n := Int.tmod_eq_emod_of_nonneg h
theorem Ev.same {α : Type} {a r : α} (h : a = r) : Ev (fun _ => some a) r := h ▸ Ev.ret a
theorem ret_int {k : IntKind} {x y : Int} (h : x = y) : Ev (fun _ => some [AR.pv (.int k x)]) [AR.pv (.int k y)] := h ▸ Ev.ret _
/-- A row that is or is not the function's own: all the same to most. -/
def ar (o : Bool) (p : PV) : AR := match o with
  | true => .own p
  | false => .pv p
theorem resAV_ar (o : Bool) (p : PV) : resAV (ar o p) = .pv p := by cases o <;> rfl
attribute [go_sem] ilt_t ilt_f ile_t ile_f ieq_t ieq_f nlt_t nlt_f nle_t nle_f nbig ibig w64 u64_mod u32_mod u16_mod u8_mod emod_fit gt_iff_lt ge_iff_le Int.toNat_natCast resAV_ar shr_u64_32 shr_u64_63 shr_u32_31 shl_u64_32 shl_u32_1 and_one natCast_zero Int.toNat_zero Int.toNat_one List.replicate_zero Bool.not_eq_true Bool.not_eq_false
end Go.Proofs.Ytkeipmkiilimeaa.V
namespace Go.Proofs.Ytkeipmkiilimeaa.M

/-- Every limb is one. -/
def Lim (l : List Int) : Prop := ∀ x ∈ l, 0 ≤ x ∧ x < 4294967296
/-- The value of a list of limbs, the least one first. -/
def val : List Int → Nat
  | [] => 0
  | x :: l => x.toNat + 4294967296 * val l
/-- The limbs of a number, none of them a zero at the end. -/
def ofN (n : Nat) : List Int := if h : n = 0 then [] else ((n % 4294967296 : Nat) : Int) :: ofN (n / 4294967296)
  termination_by n
  decreasing_by omega
/-- 2^(32 k). -/
def P (k : Nat) : Nat := 4294967296 ^ k

theorem P_zero : P 0 = 1 := rfl
theorem P_succ (k : Nat) : P (k + 1) = 4294967296 * P k := by unfold P; rw [Nat.pow_succ, Nat.mul_comm]
theorem P_pos (k : Nat) : 0 < P k := Nat.pow_pos (by decide)
theorem P_add (a b : Nat) : P (a + b) = P a * P b := Nat.pow_add _ _ _
theorem P_mono {a b : Nat} (h : a ≤ b) : P a ≤ P b := Nat.pow_le_pow_right (by decide) h

theorem lim_nil : Lim [] := by intro x h; cases h
theorem lim_cons {x : Int} {l : List Int} : Lim (x :: l) ↔ (0 ≤ x ∧ x < 4294967296) ∧ Lim l := by
  unfold Lim; simp
theorem lim_append {a b : List Int} : Lim (a ++ b) ↔ Lim a ∧ Lim b := by
  unfold Lim; simp only [List.mem_append]
  constructor
  · intro h; exact ⟨fun x hx => h x (.inl hx), fun x hx => h x (.inr hx)⟩
  · rintro ⟨h, g⟩ x (hx | hx)
    · exact h x hx
    · exact g x hx
theorem lim_take {l : List Int} (h : Lim l) (n : Nat) : Lim (l.take n) := fun x hx => h x (List.mem_of_mem_take hx)
theorem lim_set {l : List Int} (h : Lim l) (n : Nat) {v : Int} (h0 : 0 ≤ v) (h1 : v < 4294967296) : Lim (l.set n v) := by
  intro x hx
  rcases List.mem_or_eq_of_mem_set hx with hx | rfl
  · exact h x hx
  · exact ⟨h0, h1⟩
theorem lim_rep (n : Nat) : Lim (List.replicate n 0) := by
  intro x hx
  rw [(List.mem_replicate.1 hx).2]
  decide
theorem lim_getD {l : List Int} (h : Lim l) (i : Nat) : 0 ≤ l.getD i 0 ∧ l.getD i 0 < 4294967296 := by
  rcases Nat.lt_or_ge i l.length with hi | hi
  · rw [List.getD_eq_getElem?_getD, List.getElem?_eq_getElem hi]; exact h _ (List.getElem_mem hi)
  · rw [List.getD_eq_getElem?_getD, List.getElem?_eq_none hi]; decide

theorem ofN_zero : ofN 0 = [] := by unfold ofN; simp
theorem ofN_pos {n : Nat} (h : n ≠ 0) : ofN n = ((n % 4294967296 : Nat) : Int) :: ofN (n / 4294967296) := by
  rw [ofN]; simp [h]
theorem lim_ofN (n : Nat) : Lim (ofN n) := by
  induction n using Nat.strongRecOn with
  | _ n ih =>
    by_cases h : n = 0
    · subst h; rw [ofN_zero]; exact lim_nil
    · rw [ofN_pos h, lim_cons]
      exact ⟨by omega, ih _ (by omega)⟩
theorem val_ofN (n : Nat) : val (ofN n) = n := by
  induction n using Nat.strongRecOn with
  | _ n ih =>
    by_cases h : n = 0
    · subst h; rw [ofN_zero]; rfl
    · rw [ofN_pos h]
      show _ + 4294967296 * val _ = _
      rw [ih _ (by omega)]
      omega
theorem ofN_inj {a b : Nat} (h : ofN a = ofN b) : a = b := by rw [← val_ofN a, h, val_ofN]
theorem ofN_eq_nil {n : Nat} : ofN n = [] ↔ n = 0 := by
  constructor
  · intro h; apply ofN_inj; rw [h, ofN_zero]
  · rintro rfl; exact ofN_zero
theorem ofN_length_pos {n : Nat} : 0 < (ofN n).length ↔ 0 < n := by
  rw [List.length_pos_iff, ne_eq, ofN_eq_nil]; omega
theorem ofN_cons {x : Int} {m : Nat} (h0 : 0 ≤ x) (h1 : x < 4294967296) (h : 0 < x ∨ 0 < m) : ofN (x.toNat + 4294967296 * m) = x :: ofN m := by
  rw [ofN_pos (by omega)]
  congr 1
  · omega
  · congr 1; omega
theorem ofN_single {x : Int} (h0 : 0 < x) (h1 : x < 4294967296) : ofN x.toNat = [x] := by
  have := ofN_cons (x := x) (m := 0) (by omega) h1 (.inl h0)
  simpa [ofN_zero] using this

theorem val_append (a b : List Int) : val (a ++ b) = val a + P a.length * val b := by
  induction a with
  | nil => simp [val, P_zero]
  | cons x a ih =>
    show x.toNat + 4294967296 * val (a ++ b) = _
    rw [ih, List.length_cons, P_succ]
    show _ = x.toNat + 4294967296 * val a + _
    rw [Nat.mul_add, Nat.mul_assoc]; omega
theorem val_lt {l : List Int} (h : Lim l) : val l < P l.length := by
  induction l with
  | nil => exact P_pos 0
  | cons x l ih =>
    rw [lim_cons] at h
    have := ih h.2
    show x.toNat + 4294967296 * val l < _
    rw [List.length_cons, P_succ]
    omega
theorem val_rep (n : Nat) : val (List.replicate n 0) = 0 := by
  induction n with
  | zero => rfl
  | succ n ih => rw [List.replicate_succ]; show 0 + 4294967296 * val _ = 0; rw [ih]
theorem val_snoc_zero (l : List Int) : val (l ++ [0]) = val l := by rw [val_append]; simp [val]
theorem val_snoc (l : List Int) (x : Int) : val (l ++ [x]) = val l + P l.length * x.toNat := by rw [val_append]; simp [val]
theorem val_pos_last {l : List Int} {x : Int} (hx : 0 < x) : 0 < val (l ++ [x]) := by
  rw [val_snoc]
  have := Nat.mul_pos (P_pos l.length) (show 0 < x.toNat by omega)
  omega
/-- A list that ends in no zero is its number's. -/
theorem ofN_val_snoc {l : List Int} {x : Int} (h : Lim (l ++ [x])) (hx : x ≠ 0) : ofN (val (l ++ [x])) = l ++ [x] := by
  induction l with
  | nil =>
    have hx2 := h x (by simp)
    show ofN (x.toNat + 4294967296 * 0) = _
    rw [ofN_cons hx2.1 hx2.2 (.inl (by omega)), ofN_zero]; rfl
  | cons y l ih =>
    rw [List.cons_append, lim_cons] at h
    show ofN (y.toNat + 4294967296 * val (l ++ [x])) = _
    have hx2 := h.2 x (by simp)
    rw [ofN_cons h.1.1 h.1.2 (.inr (val_pos_last (by omega))), ih h.2]; rfl
theorem take_succ_snoc {l : List Int} {i : Nat} (h : i < l.length) : l.take (i + 1) = l.take i ++ [l.getD i 0] := by
  rw [List.take_succ_eq_append_getElem h, List.getD_eq_getElem?_getD, List.getElem?_eq_getElem h]; rfl

theorem val_set {l : List Int} {i : Nat} (h : i < l.length) (v : Int) : val (l.set i v) + P i * (l.getD i 0).toNat = val l + P i * v.toNat := by
  induction l generalizing i with
  | nil => simp at h
  | cons x l ih =>
    cases i with
    | zero => simp [val, P_zero]; omega
    | succ i =>
      have := ih (i := i) (by simpa using h)
      rw [List.set_cons_succ, P_succ]
      show x.toNat + 4294967296 * val _ + _ = x.toNat + 4294967296 * val l + _
      simp only [List.getD_cons_succ]
      rw [Nat.mul_assoc, Nat.mul_assoc]; omega
theorem getD_set_ne {l : List Int} {i j : Nat} {v : Int} (h : i ≠ j) : (l.set i v).getD j 0 = l.getD j 0 := by
  rw [List.getD_eq_getElem?_getD, List.getD_eq_getElem?_getD, List.getElem?_set_ne h]
theorem getD_set_eq {l : List Int} {i : Nat} {v : Int} (h : i < l.length) : (l.set i v).getD i 0 = v := by
  rw [List.getD_eq_getElem?_getD, List.getElem?_set_self h]; rfl
theorem getD_rep (n i : Nat) : (List.replicate n (0 : Int)).getD i 0 = 0 := by
  rw [List.getD_eq_getElem?_getD, List.getElem?_replicate]; split <;> rfl
theorem take_set_self {l : List Int} {i : Nat} (v : Int) : (l.set i v).take i = l.take i := by
  rw [List.take_set_of_le (by omega)]

theorem len_ofN_le {n k : Nat} (h : n < P k) : (ofN n).length ≤ k := by
  induction k generalizing n with
  | zero => rw [P_zero] at h; have : n = 0 := by omega
            subst this; rw [ofN_zero]; exact Nat.le_refl _
  | succ k ih =>
    by_cases hn : n = 0
    · subst hn; rw [ofN_zero]; exact Nat.zero_le _
    · rw [ofN_pos hn, List.length_cons]
      rw [P_succ] at h
      have := ih (n := n / 4294967296) (by omega)
      omega
theorem lt_P_len (n : Nat) : n < P (ofN n).length := by
  have := val_lt (lim_ofN n)
  rwa [val_ofN] at this
theorem P_len_le {n : Nat} (h : n ≠ 0) : P ((ofN n).length - 1) ≤ n := by
  rcases Nat.lt_or_ge n (P ((ofN n).length - 1)) with g | g
  · have := len_ofN_le g
    have h2 := ofN_length_pos (n := n)
    omega
  · exact g
theorem len_mono {a b : Nat} (h : a ≤ b) : (ofN a).length ≤ (ofN b).length := len_ofN_le (Nat.lt_of_le_of_lt h (lt_P_len b))
theorem lt_of_len_lt {a b : Nat} (h : (ofN a).length < (ofN b).length) : a < b := by
  rcases Nat.lt_or_ge a b with g | g
  · exact g
  · have := len_mono g; omega
theorem len_val_le {l : List Int} (h : Lim l) : (ofN (val l)).length ≤ l.length := len_ofN_le (val_lt h)
theorem len_add (a b : Nat) : (ofN (a + b)).length ≤ max (ofN a).length (ofN b).length + 1 := by
  apply len_ofN_le
  rw [P_succ]
  have h1 := lt_P_len a
  have h2 := lt_P_len b
  have h3 := P_mono (Nat.le_max_left (ofN a).length (ofN b).length)
  have h4 := P_mono (Nat.le_max_right (ofN a).length (ofN b).length)
  omega
theorem len_mul (a b : Nat) : (ofN (a * b)).length ≤ (ofN a).length + (ofN b).length := by
  apply len_ofN_le
  rw [P_add]
  exact Nat.mul_lt_mul'' (lt_P_len a) (lt_P_len b)
theorem len_succ_le (a : Nat) : (ofN (a + 1)).length ≤ (ofN a).length + 1 := by
  apply len_ofN_le
  rw [P_succ]
  have h1 := lt_P_len a
  omega
/-- The lists of the numbers below the base. -/
theorem len_small {n : Nat} (h : n < 4294967296) : (ofN n).length ≤ 1 := len_ofN_le (by rw [P_succ, P_zero]; omega)
theorem len_u64 {n : Nat} (h : n < 18446744073709551616) : (ofN n).length ≤ 2 := len_ofN_le (by rw [P_succ, P_succ, P_zero]; omega)

theorem eq_of_val {a b : List Int} (ha : Lim a) (hb : Lim b) (hn : a.length = b.length) (hv : val a = val b) : a = b := by
  induction a generalizing b with
  | nil => exact (List.eq_nil_of_length_eq_zero hn.symm).symm
  | cons x a ih =>
    cases b with
    | nil => simp at hn
    | cons y b =>
      rw [lim_cons] at ha hb
      have h : x.toNat + 4294967296 * val a = y.toNat + 4294967296 * val b := hv
      have h1 : x = y := by omega
      have h2 : val a = val b := by omega
      rw [h1, ih ha.2 hb.2 (by simpa using hn) h2]
/-- A list as long as its number needs. -/
theorem normal {r : List Int} (h : Lim r) (hn : r.length = 0 ∨ P (r.length - 1) ≤ val r) : r = ofN (val r) := by
  refine eq_of_val h (lim_ofN _) ?_ (val_ofN _).symm
  have h1 := len_val_le h
  rcases hn with hn | hn
  · omega
  · rcases Nat.lt_or_ge (ofN (val r)).length r.length with g | g
    · have h2 := lt_P_len (val r)
      have h3 := P_mono (show (ofN (val r)).length ≤ r.length - 1 by omega)
      omega
    · omega
/-- Limb i of a number. -/
theorem val_take_drop (l : List Int) (i : Nat) : val l = val (l.take i) + P (min i l.length) * val (l.drop i) := by
  conv => lhs; rw [← List.take_append_drop i l]
  rw [val_append, List.length_take]
theorem val_lt_take {l : List Int} (h : Lim l) (i : Nat) : val (l.take i) < P i := by
  have := val_lt (lim_take h i)
  rw [List.length_take] at this
  exact Nat.lt_of_lt_of_le this (P_mono (Nat.min_le_left _ _))
theorem val_take_succ {l : List Int} {i : Nat} (h : i < l.length) : val (l.take (i + 1)) = val (l.take i) + P i * (l.getD i 0).toNat := by
  rw [take_succ_snoc h, val_snoc, List.length_take, Nat.min_eq_left (by omega)]
theorem val_take_all {l : List Int} {i : Nat} (h : l.length ≤ i) : val (l.take i) = val l := by rw [List.take_of_length_le h]
/-- Beyond the end there are zeros. -/
theorem val_take_step {l : List Int} (i : Nat) : val (l.take (i + 1)) = val (l.take i) + P i * (l.getD i 0).toNat := by
  rcases Nat.lt_or_ge i l.length with h | h
  · exact val_take_succ h
  · rw [val_take_all h, val_take_all (by omega), List.getD_eq_getElem?_getD, List.getElem?_eq_none h]; simp

/-- The order of two numbers as an int. -/
def cmp (a b : Nat) : Int := if a < b then -1 else if a = b then 0 else 1
theorem cmp_lt {a b : Nat} (h : a < b) : cmp a b = -1 := if_pos h
theorem cmp_eq (a : Nat) : cmp a a = 0 := by unfold cmp; simp
theorem cmp_gt {a b : Nat} (h : b < a) : cmp a b = 1 := by unfold cmp; rw [if_neg (by omega), if_neg (by omega)]
theorem cmp_zero {a b : Nat} : cmp a b = 0 ↔ a = b := by unfold cmp; split <;> (try split) <;> omega
theorem cmp_neg {a b : Nat} : cmp a b < 0 ↔ a < b := by unfold cmp; split <;> (try split) <;> omega
theorem cmp_le {a b : Nat} : cmp a b ≤ 0 ↔ a ≤ b := by unfold cmp; split <;> (try split) <;> omega
theorem cmp_pos {a b : Nat} : 0 < cmp a b ↔ b < a := by unfold cmp; split <;> (try split) <;> omega
theorem cmp_nonneg {a b : Nat} : 0 ≤ cmp a b ↔ b ≤ a := by unfold cmp; split <;> (try split) <;> omega
theorem cmp_range (a b : Nat) : -1 ≤ cmp a b ∧ cmp a b ≤ 1 := by unfold cmp; split <;> (try split) <;> omega
theorem cmp_swap (a b : Nat) : cmp b a = -cmp a b := by unfold cmp; repeat' split
                                                        all_goals omega
/-- By the greatest limb that differs. -/
theorem lt_of_top {a b : List Int} (ha : Lim a) (i : Nat) (h : (a.getD i 0).toNat < (b.getD i 0).toNat) : val (a.take (i + 1)) < val (b.take (i + 1)) := by
  rw [val_take_step, val_take_step]
  have h1 := val_lt_take ha i
  have h2 : P i * ((a.getD i 0).toNat + 1) ≤ P i * (b.getD i 0).toNat := Nat.mul_le_mul_left _ h
  rw [Nat.mul_add, Nat.mul_one] at h2
  omega
theorem cmp_step {a b : List Int} (i : Nat) (h : (a.getD i 0).toNat = (b.getD i 0).toNat) : cmp (val (a.take (i + 1))) (val (b.take (i + 1))) = cmp (val (a.take i)) (val (b.take i)) := by
  rw [val_take_step, val_take_step, h]
  unfold cmp
  repeat' split
  all_goals omega
theorem add_arith (p vo va vb c ai bi s1 s2 : Nat) (hv : vo + p * c = va + vb) (hs : s1 + 4294967296 * s2 = c + ai + bi) : vo + p * s1 + 4294967296 * p * s2 = va + p * ai + (vb + p * bi) := by
  have h : p * (s1 + 4294967296 * s2) = p * (c + ai + bi) := by rw [hs]
  grind
theorem borrow {a b c s t : Int} (a0 : 0 ≤ a) (a1 : a < 4294967296) (b0 : 0 ≤ b) (b1 : b < 4294967296) (c0 : 0 ≤ c) (c1 : c ≤ 1) (hs : s = (a - c - b) % 18446744073709551616) (ht : t = s / 9223372036854775808) :
    0 ≤ t ∧ t ≤ 1 ∧ (s % 4294967296).toNat + c.toNat + b.toNat = a.toNat + 4294967296 * t.toNat := by
  by_cases h : 0 ≤ a - c - b
  · have h1 : s = a - c - b := by rw [hs, Int.emod_eq_of_lt h (by omega)]
    have h2 : t = 0 := by rw [ht]; exact Int.ediv_eq_zero_of_lt (by omega) (by omega)
    have h3 : s % 4294967296 = a - c - b := by rw [h1]; exact Int.emod_eq_of_lt h (by omega)
    rw [h3, h2]
    clear hs ht h3
    omega
  · have h1 : s = a - c - b + 18446744073709551616 := by
      rw [hs, ← Int.add_emod_right, Int.emod_eq_of_lt (by omega) (by omega)]
    have h2 : t = 1 := by
      rw [ht, show s = (s - 9223372036854775808) + 9223372036854775808 * 1 from by omega, Int.add_mul_ediv_left _ _ (by decide), Int.ediv_eq_zero_of_lt (by omega) (by omega)]; rfl
    have h3 : s % 4294967296 = a - c - b + 4294967296 := by
      rw [h1, show a - c - b + 18446744073709551616 = (a - c - b + 4294967296) + 4294967296 * 4294967295 from by omega, Int.add_mul_emod_self_left, Int.emod_eq_of_lt (by omega) (by omega)]
    rw [h3, h2]
    clear hs ht h3
    omega
theorem less_arith (p vo va vb c ai bi s t : Nat) (hv : vo + vb = va + p * c) (hs : s + c + bi = ai + 4294967296 * t) : vo + p * s + (vb + p * bi) = va + p * ai + 4294967296 * p * t := by
  have h : p * (s + c + bi) = p * (ai + 4294967296 * t) := by rw [hs]
  grind
end Go.Proofs.Ytkeipmkiilimeaa.M
namespace Go.Proofs.Ytkeipmkiilimeaa.M
theorem getD_out {l : List Int} {i : Nat} (h : l.length ≤ i) : l.getD i 0 = 0 := by
  rw [List.getD_eq_getElem?_getD, List.getElem?_eq_none h]; rfl
/-- The number of binary digits. -/
def blen (n : Nat) : Nat := if h : n = 0 then 0 else blen (n / 2) + 1
termination_by n
decreasing_by omega
theorem blen_zero : blen 0 = 0 := by unfold blen; simp
theorem blen_pos {n : Nat} (h : n ≠ 0) : blen n = blen (n / 2) + 1 := by rw [blen]; simp [h]
theorem blen_shift (k : Nat) : ∀ n, n / 2 ^ k ≠ 0 → blen n = blen (n / 2 ^ k) + k := by
  induction k with
  | zero => intro n _; simp
  | succ k ih =>
    intro n h
    have hn : n ≠ 0 := by rintro rfl; simp at h
    have h2 : n / 2 ^ (k + 1) = n / 2 / 2 ^ k := by rw [Nat.pow_succ, Nat.mul_comm, Nat.div_div_eq_div_mul]
    rw [h2] at h ⊢
    rw [blen_pos hn, ih _ h]; omega
theorem lt_blen (n : Nat) : n < 2 ^ blen n := by
  induction n using Nat.strongRecOn with
  | _ n ih =>
    by_cases h : n = 0
    · subst h; rw [blen_zero]; decide
    · rw [blen_pos h, Nat.pow_succ]
      have := ih (n / 2) (by omega)
      omega
theorem blen_le {n : Nat} (h : n ≠ 0) : 2 ^ (blen n - 1) ≤ n := by
  induction n using Nat.strongRecOn with
  | _ n ih =>
    rw [blen_pos h, Nat.add_sub_cancel]
    by_cases h2 : n / 2 = 0
    · rw [h2, blen_zero]; show 1 ≤ n; omega
    · have := ih (n / 2) (by omega) h2
      have h3 : blen (n / 2) = (blen (n / 2) - 1) + 1 := by rw [blen_pos h2]; omega
      rw [h3, Nat.pow_succ]
      omega
theorem blen_le_iff {n k : Nat} : blen n ≤ k ↔ n < 2 ^ k := by
  constructor
  · intro h; exact Nat.lt_of_lt_of_le (lt_blen n) (Nat.pow_le_pow_right (by decide) h)
  · intro h
    by_cases hn : n = 0
    · subst hn; rw [blen_zero]; exact Nat.zero_le _
    · rcases Nat.lt_or_ge k (blen n) with g | g
      · have h1 := blen_le hn
        have h2 := Nat.pow_le_pow_right (show 0 < 2 by decide) (show k ≤ blen n - 1 by omega)
        omega
      · exact g
theorem P_two (m : Nat) : P m = 2 ^ (32 * m) := by unfold P; rw [Nat.pow_mul]
theorem blen_len {n : Nat} : blen n ≤ 32 * (ofN n).length := by
  rw [blen_le_iff, ← P_two]; exact lt_P_len n
theorem len_blen {n : Nat} (h : n ≠ 0) : 32 * ((ofN n).length - 1) < blen n := by
  rcases Nat.lt_or_ge (32 * ((ofN n).length - 1)) (blen n) with g | g
  · exact g
  · have g := blen_le_iff.1 g
    rw [← P_two] at g
    have := P_len_le h
    omega
/-- A limb of a number. -/
theorem limb_eq {l : List Int} (h : Lim l) (i : Nat) : (l.getD i 0).toNat = val l / P i % 4294967296 := by
  induction l generalizing i with
  | nil => simp [val]
  | cons x l ih =>
    rw [lim_cons] at h
    have hv : val (x :: l) = x.toNat + 4294967296 * val l := rfl
    cases i with
    | zero => rw [hv, P_zero, Nat.div_one]; show x.toNat = _; omega
    | succ i =>
      rw [hv, P_succ, ← Nat.div_div_eq_div_mul, show (x.toNat + 4294967296 * val l) / 4294967296 = val l from by omega]
      exact ih h.2 i
theorem pow_split (i : Nat) : 2 ^ i = P (i / 32) * 2 ^ (i % 32) := by
  rw [P_two, ← Nat.pow_add]; congr 1; omega
/-- A bit of a number, by its limb. -/
theorem bit_eq {l : List Int} (h : Lim l) (i : Nat) : (l.getD (i / 32) 0).toNat / 2 ^ (i % 32) % 2 = val l / 2 ^ i % 2 := by
  rw [limb_eq h, pow_split i, ← Nat.div_div_eq_div_mul]
  generalize val l / P (i / 32) = z
  generalize ht : i % 32 = t
  have htl : t < 32 := by omega
  have e : (4294967296 : Nat) = 2 ^ t * (2 * 2 ^ (31 - t)) := by
    have : (4294967296 : Nat) = 2 ^ 32 := rfl
    rw [this, ← Nat.pow_succ', ← Nat.pow_add]; congr 1; omega
  rw [e, Nat.mod_mul_right_div_self, Nat.mod_mul_right_mod]

/-- The same, by rounds. -/
def blenF : Nat → Nat → Nat
  | 0, _ => 0
  | f + 1, n => if n = 0 then 0 else blenF f (n / 2) + 1
theorem blenF_eq (f : Nat) : ∀ n, n < 2 ^ f → blenF f n = blen n := by
  induction f with
  | zero => intro n h; have : n = 0 := by simpa using h
            subst this; rw [blen_zero]; rfl
  | succ f ih =>
    intro n h
    rw [Nat.pow_succ] at h
    show (if n = 0 then 0 else blenF f (n / 2) + 1) = _
    by_cases hn : n = 0
    · rw [if_pos hn, hn, blen_zero]
    · rw [if_neg hn, blen_pos hn, ih _ (by omega)]
theorem two_pow_lt {t : Nat} (h : t < 32) : 2 ^ t < 4294967296 := by
  have := Nat.pow_lt_pow_right (show 1 < 2 by decide) h
  exact this
/-- One bit of the quotient. -/
theorem dm_math (X B : Nat) (hB : 0 < B) : (B ≤ 2 * (X / 2 % B) + X % 2 → X / B = 2 * (X / 2 / B) + 1 ∧ X % B = 2 * (X / 2 % B) + X % 2 - B) ∧ (2 * (X / 2 % B) + X % 2 < B → X / B = 2 * (X / 2 / B) ∧ X % B = 2 * (X / 2 % B) + X % 2) := by
  have h1 := Nat.div_add_mod (X / 2) B
  have h2 := Nat.mod_lt (X / 2) hB
  have h3 : X = 2 * (X / 2) + X % 2 := by omega
  generalize hq : X / 2 / B = q at *
  generalize hm : X / 2 % B = m at *
  constructor
  · intro h
    refine (Nat.div_mod_unique hB).2 ⟨?_, by omega⟩
    rw [Nat.mul_add, Nat.mul_left_comm]; omega
  · intro h
    refine (Nat.div_mod_unique hB).2 ⟨?_, by omega⟩
    rw [Nat.mul_left_comm]; omega
theorem bit_room {l : List Int} (h : Lim l) {i Q : Nat} (hv : val l = Q * 2 ^ (i + 1)) : (l.getD (i / 32) 0).toNat % 2 ^ (i % 32 + 1) = 0 := by
  rw [limb_eq h, hv, Nat.pow_succ, pow_split i]
  generalize ht : i % 32 = t
  have htl : t < 32 := by omega
  have e1 : Q * (P (i / 32) * 2 ^ t * 2) = P (i / 32) * (Q * 2 ^ (t + 1)) := by rw [Nat.pow_succ]; grind
  rw [e1, Nat.mul_div_cancel_left _ (P_pos _)]
  have e2 : (4294967296 : Nat) = 2 ^ (t + 1) * 2 ^ (31 - t) := by
    have : (4294967296 : Nat) = 2 ^ 32 := rfl
    rw [this, ← Nat.pow_add]; congr 1; omega
  rw [e2, Nat.mod_mul_right_mod, Nat.mul_mod_left]
theorem rdm_math (α β j : Nat) (hβ : 0 < β) : (β * 2 ^ j ≤ α % (β * 2 ^ (j + 1)) → α / (β * 2 ^ j) = 2 * (α / (β * 2 ^ (j + 1))) + 1 ∧ α % (β * 2 ^ j) = α % (β * 2 ^ (j + 1)) - β * 2 ^ j) ∧ (α % (β * 2 ^ (j + 1)) < β * 2 ^ j → α / (β * 2 ^ j) = 2 * (α / (β * 2 ^ (j + 1))) ∧ α % (β * 2 ^ j) = α % (β * 2 ^ (j + 1))) := by
  have hD : 0 < β * 2 ^ j := Nat.mul_pos hβ (Nat.pow_pos (by decide))
  have e : β * 2 ^ (j + 1) = 2 * (β * 2 ^ j) := by rw [Nat.pow_succ]; grind
  rw [e]
  generalize β * 2 ^ j = D at *
  have h1 := Nat.div_add_mod α (2 * D)
  have h2 := Nat.mod_lt α (show 0 < 2 * D by omega)
  generalize α / (2 * D) = q at *
  generalize α % (2 * D) = m at *
  have h3 : 2 * D * q = D * (2 * q) := by grind
  constructor
  · intro h
    refine (Nat.div_mod_unique hD).2 ⟨?_, by omega⟩
    rw [Nat.mul_add, ← h3]; omega
  · intro h
    refine (Nat.div_mod_unique hD).2 ⟨?_, h⟩
    rw [← h3]; omega
theorem two_pow_len {i m : Nat} (h : i < 32 * m) : (ofN (2 ^ i)).length ≤ m := by
  apply len_ofN_le
  rw [P_two]
  exact Nat.pow_lt_pow_right (by decide) h
end Go.Proofs.Ytkeipmkiilimeaa.M
namespace Go.Proofs.Ytkeipmkiilimeaa.V
open Go Go.Proofs.Ytkeipmkiilimeaa.M
theorem or_low {x y : Int} (hx : 0 ≤ x) (hx2 : x < 4294967296) (hy : 0 ≤ y) (hy2 : y < 4294967296) : orI .u64 (x * 4294967296) y = x * 4294967296 + y := by
  refine Go.bits_join .u64 64 (by decide) (fun n h1 h2 => u64 h1 (by simpa using h2)) 32 _ _ (by omega) ?_ ?_ hy ?_ ?_
  · show x * 4294967296 % 4294967296 = 0; omega
  · show x * 4294967296 < 18446744073709551616; omega
  · show y < 4294967296; exact hy2
  · show y < 18446744073709551616; omega
theorem u32_fix (n : Int) (h1 : 0 ≤ n) (h2 : n < 2 ^ 32) : IntKind.u32.wrap n = n := u32 h1 (by have : n < 4294967296 := h2; exact this)
theorem or_one {x c : Int} (hx : 0 ≤ x) (hx2 : x < 4294967296) (he : x % 2 = 0) (c0 : 0 ≤ c) (c1 : c ≤ 1) : orI .u32 x c = x + c := by
  refine Go.bits_join .u32 32 (by decide) u32_fix 1 _ _ hx ?_ ?_ c0 ?_ ?_
  · show x % 2 = 0; exact he
  · show x < 4294967296; exact hx2
  · show c < 2; omega
  · show c < 4294967296; omega
theorem shl_one {t : Nat} (h : t < 32) : shlI .u32 1 (t : Int) = ((2 ^ t : Nat) : Int) := by
  have h2 := two_pow_lt h
  unfold shlI
  have e : min ((t : Int)).toNat IntKind.u32.bits = t := by show min t 32 = t; omega
  rw [e, Int.one_mul]
  have e2 : ((2 : Int) ^ t) = ((2 ^ t : Nat) : Int) := by simp
  rw [e2]
  exact u32_fix _ (Int.natCast_nonneg _) (by show ((2 ^ t : Nat) : Int) < ((4294967296 : Nat) : Int); exact Int.ofNat_lt.2 h2)
theorem or_bit {x : Nat} {t : Nat} (h : t < 32) (hx : x < 4294967296) (he : x % 2 ^ (t + 1) = 0) : orI .u32 (x : Int) ((2 ^ t : Nat) : Int) = ((x + 2 ^ t : Nat) : Int) := by
  have h2 := two_pow_lt h
  refine (Go.bits_join .u32 32 (by decide) u32_fix (t + 1) _ _ (Int.natCast_nonneg _) ?_ (by show _ < (4294967296 : Int); omega) (Int.natCast_nonneg _) ?_ (by show ((2 ^ t : Nat) : Int) < ((4294967296 : Nat) : Int); exact Int.ofNat_lt.2 h2)).trans rfl
  · have : ((x : Int)) % ((2 ^ (t + 1) : Nat) : Int) = ((x % 2 ^ (t + 1) : Nat) : Int) := rfl
    rw [he] at this
    simpa using this
  · have : (2 ^ t : Nat) < 2 ^ (t + 1) := Nat.pow_lt_pow_right (by decide) (by omega)
    exact_mod_cast this
theorem shr_nat (x : Nat) {t : Nat} (h : t < 32) : shrI .u32 (x : Int) (t : Int) = ((x / 2 ^ t : Nat) : Int) := by
  unfold shrI
  have e : min ((t : Int)).toNat IntKind.u32.bits = t := by show min t 32 = t; omega
  rw [e, Int.fdiv_eq_ediv_of_nonneg _ (Int.le_of_lt (Int.pow_pos (by decide)))]
  simp
theorem tdiv32 (i : Nat) : Int.tdiv (i : Int) 32 = ((i / 32 : Nat) : Int) := by rw [Int.tdiv_eq_ediv_of_nonneg (by omega)]; rfl
theorem tmod32 (i : Nat) : Int.tmod (i : Int) 32 = ((i % 32 : Nat) : Int) := by rw [Int.tmod_eq_emod_of_nonneg (by omega)]; rfl
theorem shr_u32_16 (a : Int) : shrI .u32 a 16 = a / 65536 := by
  show a.fdiv 65536 = _
  exact Int.fdiv_eq_ediv_of_nonneg _ (by decide)
theorem shr_u32_8 (a : Int) : shrI .u32 a 8 = a / 256 := by
  show a.fdiv 256 = _
  exact Int.fdiv_eq_ediv_of_nonneg _ (by decide)
theorem shl64 {x t : Nat} (hx : x < 4294967296) (ht : t < 32) : shlI .u64 (x : Int) (t : Int) = ((x * 2 ^ t : Nat) : Int) := by
  unfold shlI
  have e : min ((t : Int)).toNat IntKind.u64.bits = t := by show min t 64 = t; omega
  rw [e]
  have e2 : ((x : Int) * 2 ^ t) = ((x * 2 ^ t : Nat) : Int) := by simp
  rw [e2]
  have h2 := two_pow_lt ht
  have h3 : x * 2 ^ t < 4294967296 * 4294967296 := Nat.mul_lt_mul'' hx h2
  exact u64 (Int.natCast_nonneg _) (by omega)
theorem or_comm (k : IntKind) (a b : Int) : orI k a b = orI k b a := by unfold orI; rw [BitVec.or_comm]
theorem or_shift {u x : Int} {i : Nat} (hi : i < 2) (h0 : 0 ≤ u) (h1 : u < (P i : Nat)) (hx : 0 ≤ x) (hx2 : x < 4294967296) : orI .u64 u (shlI .u64 x (32 * (i : Int))) = u + (P i : Nat) * x := by
  have f : ∀ n : Int, 0 ≤ n → n < 2 ^ 64 → IntKind.u64.wrap n = n := fun n h1 h2 => u64 h1 (by simpa using h2)
  rcases (show i = 0 ∨ i = 1 by omega) with rfl | rfl
  · have hu : u = 0 := by rw [P_zero] at h1; omega
    subst hu
    have e : shlI .u64 x (32 * ((0 : Nat) : Int)) = x := by
      show IntKind.u64.wrap (x * 1) = x
      rw [Int.mul_one]; exact u64 hx (by omega)
    rw [e, P_zero]
    refine (Go.bits_join .u64 64 (by decide) f 32 0 x (by decide) (by decide) (by decide) hx ?_ ?_).trans ?_
    · show x < 4294967296; exact hx2
    · show x < 18446744073709551616; omega
    · omega
  · have e : shlI .u64 x (32 * ((1 : Nat) : Int)) = x * 4294967296 := by
      show IntKind.u64.wrap (x * 4294967296) = _
      exact u64 (by omega) (by omega)
    have hP : (P 1 : Nat) = 4294967296 := rfl
    rw [hP] at h1 ⊢
    rw [e, or_comm, or_low hx hx2 h0 (by omega)]
    omega
end Go.Proofs.Ytkeipmkiilimeaa.V
namespace Go.Proofs.Ytkeipmkiilimeaa.M
open Go.Proofs.Ytkeipmkiilimeaa.V
/-- The digits of a number as bytes, the last one first. -/
def rdigs (n : Nat) : List Int := if h : n = 0 then [] else ((48 + n % 10 : Nat) : Int) :: rdigs (n / 10)
termination_by n
decreasing_by omega
def digs (n : Nat) : List Int := (rdigs n).reverse
/-- The bytes of a number's text: its digits, and one zero for nought. -/
def textI (n : Nat) : List Int := if n = 0 then [48] else digs n
/-- The text of a number. -/
def textN (n : Nat) : List UInt8 := textOf (textI n)
theorem rdigs_zero : rdigs 0 = [] := by unfold rdigs; simp
theorem rdigs_pos {n : Nat} (h : n ≠ 0) : rdigs n = ((48 + n % 10 : Nat) : Int) :: rdigs (n / 10) := by
  rw [rdigs]; simp [h]
theorem digs_zero : digs 0 = [] := by unfold digs; rw [rdigs_zero]; rfl
theorem digs_pos {n : Nat} (h : n ≠ 0) : digs n = digs (n / 10) ++ [((48 + n % 10 : Nat) : Int)] := by
  unfold digs; rw [rdigs_pos h, List.reverse_cons]
/-- Bytes that are digits. -/
def Ch (l : List Int) : Prop := ∀ x ∈ l, 48 ≤ x ∧ x ≤ 57
theorem ch_digs (n : Nat) : Ch (digs n) := by
  induction n using Nat.strongRecOn with
  | _ n ih =>
    by_cases h : n = 0
    · subst h; rw [digs_zero]; intro x hx; cases hx
    · rw [digs_pos h]
      intro x hx
      rcases List.mem_append.1 hx with hx | hx
      · exact ih _ (by omega) x hx
      · have := List.mem_singleton.1 hx
        subst this
        omega
theorem ch_textI (n : Nat) : Ch (textI n) := by
  unfold textI
  split
  · intro x hx
    have := List.mem_singleton.1 hx
    subst this
    decide
  · exact ch_digs n
theorem rdigs_lt {k : Nat} : ∀ {n : Nat}, n < 2 ^ k → (rdigs n).length ≤ k := by
  induction k with
  | zero => intro n h; have : n = 0 := by simpa using h
            subst this; rw [rdigs_zero]; exact Nat.le_refl _
  | succ k ih =>
    intro n h
    by_cases hn : n = 0
    · subst hn; rw [rdigs_zero]; exact Nat.zero_le _
    · rw [rdigs_pos hn, List.length_cons]
      rw [Nat.pow_succ] at h
      have := ih (n := n / 10) (by omega)
      omega
theorem rdigs_len (n : Nat) : (rdigs n).length ≤ 32 * (ofN n).length := by
  apply rdigs_lt
  rw [← P_two]; exact lt_P_len n
theorem digs_length (n : Nat) : (digs n).length = (rdigs n).length := List.length_reverse
theorem textOf_length (l : List Int) : (textOf l).length = l.length := List.length_map ..
theorem textN_length (n : Nat) : (textN n).length = (textI n).length := textOf_length _
theorem textN_len (n : Nat) : (textN n).length ≤ 32 * (ofN n).length + 1 := by
  rw [textN_length]
  unfold textI
  split
  · exact Nat.le_add_left _ _
  · have := rdigs_len n
    rw [digs_length]; omega
theorem digs_ne {n : Nat} (h : n ≠ 0) : 0 < (digs n).length := by
  rw [digs_pos h, List.length_append]; exact Nat.lt_of_lt_of_le (Nat.lt_add_one 0) (Nat.le_add_left 1 _)
theorem textN_pos (n : Nat) : 0 < (textN n).length := by
  rw [textN_length]
  unfold textI
  split
  · decide
  · exact digs_ne ‹_›
/-! bytes -/
theorem eq_of_getD {a b : List Int} (hl : a.length = b.length) (h : ∀ i, i < a.length → a.getD i 0 = b.getD i 0) : a = b := by
  apply List.ext_getElem hl
  intro i h1 h2
  have := h i h1
  rwa [List.getD_eq_getElem?_getD, List.getD_eq_getElem?_getD, List.getElem?_eq_getElem h1, List.getElem?_eq_getElem h2] at this
theorem textOf_bytesOf (s : List UInt8) : textOf (bytesOf s) = s := by
  unfold textOf bytesOf
  rw [List.map_map]
  conv => rhs; rw [← List.map_id s]
  apply List.map_congr_left
  intro x _
  show UInt8.ofNat ((x.toNat : Int)).toNat = x
  rw [Int.toNat_natCast]
  exact UInt8.ofNat_toNat
theorem bytesOf_textOf {l : List Int} (h : ∀ x ∈ l, 0 ≤ x ∧ x < 256) : bytesOf (textOf l) = l := by
  unfold textOf bytesOf
  rw [List.map_map]
  conv => rhs; rw [← List.map_id l]
  apply List.map_congr_left
  intro x hx
  have := h x hx
  show (((UInt8.ofNat x.toNat).toNat : Nat) : Int) = x
  rw [UInt8.toNat_ofNat']; omega
theorem bytesOf_inj {s t : List UInt8} (h : bytesOf s = bytesOf t) : s = t := by rw [← textOf_bytesOf s, h, textOf_bytesOf]
theorem bytesOf_length (s : List UInt8) : (bytesOf s).length = s.length := List.length_map ..
theorem ch_bytes {l : List Int} (h : Ch l) : ∀ x ∈ l, 0 ≤ x ∧ x < 256 := by
  intro x hx; have := h x hx; omega
/-- A byte of a text. -/
def bt (s : List UInt8) (i : Nat) : Int := ((s.getD i 0).toNat : Int)
theorem bt_range (s : List UInt8) (i : Nat) : 0 ≤ bt s i ∧ bt s i < 256 := by
  unfold bt
  have := UInt8.toNat_lt (s.getD i 0)
  omega
theorem bt_bytes (s : List UInt8) (i : Nat) : (bytesOf s).getD i 0 = bt s i := by
  unfold bytesOf bt
  rw [List.getD_eq_getElem?_getD, List.getD_eq_getElem?_getD, List.getElem?_map]
  cases s[i]? <;> rfl
theorem bt_text {l : List Int} (h : ∀ x ∈ l, 0 ≤ x ∧ x < 256) (i : Nat) : bt (textOf l) i = l.getD i 0 := by
  rw [← bt_bytes, bytesOf_textOf h]
/-! the number of a text of digits -/
/-- A byte that is a digit. -/
def dg (s : List UInt8) (i : Nat) : Prop := 48 ≤ bt s i ∧ bt s i ≤ 57
instance (s i) : Decidable (dg s i) := by unfold dg; exact inferInstance
/-- The number that the first bytes of a text tell. -/
def num (s : List UInt8) : Nat → Nat
  | 0 => 0
  | i + 1 => num s i * 10 + (bt s i - 48).toNat
/-- A text that is a number: digits alone, and no zero ahead. -/
def Good (s : List UInt8) : Prop := 0 < s.length ∧ (∀ i, i < s.length → dg s i) ∧ (s.length = 1 ∨ bt s 0 ≠ 48)
instance (s) : Decidable (Good s) := by unfold Good; exact inferInstance
/-- The number of a text. -/
def numT (s : List UInt8) : Nat := num s s.length
def numL (l : List Int) : Nat := l.foldl (fun v x => v * 10 + (x - 48).toNat) 0
theorem numL_snoc (l : List Int) (x : Int) : numL (l ++ [x]) = numL l * 10 + (x - 48).toNat := by unfold numL; rw [List.foldl_append]; rfl
theorem numL_digs (n : Nat) : numL (digs n) = n := by
  induction n using Nat.strongRecOn with
  | _ n ih =>
    by_cases h : n = 0
    · subst h; rw [digs_zero]; rfl
    · rw [digs_pos h, numL_snoc, ih _ (by omega)]; omega
theorem numL_textI (n : Nat) : numL (textI n) = n := by
  unfold textI
  split
  · subst_vars; rfl
  · exact numL_digs n
theorem num_str {xs : List Int} (h : Ch xs) : ∀ i, i ≤ xs.length → num (textOf xs) i = numL (xs.take i) := by
  intro i
  induction i with
  | zero => intro _; rfl
  | succ i ih =>
    intro hi
    rw [take_succ_snoc (by omega), numL_snoc, ← ih (by omega), ← bt_text (ch_bytes h)]; rfl
theorem num_text (n : Nat) : numT (textN n) = n := by
  unfold numT textN
  rw [textOf_length, num_str (ch_textI n) _ (Nat.le_refl _), List.take_length, numL_textI]
theorem ch_getD {l : List Int} (h : Ch l) {i : Nat} (hi : i < l.length) : 48 ≤ l.getD i 0 ∧ l.getD i 0 ≤ 57 := by
  rw [List.getD_eq_getElem?_getD, List.getElem?_eq_getElem hi]; exact h _ (List.getElem_mem hi)
theorem digs_head {n : Nat} (h : n ≠ 0) : (digs n).getD 0 0 ≠ 48 := by
  induction n using Nat.strongRecOn with
  | _ n ih =>
    rw [digs_pos h]
    by_cases h1 : n / 10 = 0
    · rw [h1, digs_zero]
      show ((48 + n % 10 : Nat) : Int) ≠ 48
      omega
    · have h2 := digs_ne h1
      have := ih _ (by omega) h1
      rw [List.getD_eq_getElem?_getD, List.getElem?_append_left h2, ← List.getD_eq_getElem?_getD]
      exact this
theorem good_text (n : Nat) : Good (textN n) := by
  have hb := ch_bytes (ch_textI n)
  unfold textN
  refine ⟨by have := textN_pos n; unfold textN at this; exact this, ?_, ?_⟩
  · intro i hi
    rw [textOf_length] at hi
    unfold dg
    rw [bt_text hb]
    exact ch_getD (ch_textI n) hi
  · by_cases h : n = 0
    · subst h; left; rfl
    · right
      rw [bt_text hb]
      unfold textI
      rw [if_neg h]
      exact digs_head h
theorem num_ne {s : List UInt8} (hd : ∀ i, i < s.length → dg s i) (h : 0 < s.length) (h0 : bt s 0 ≠ 48) : ∀ i, num s (i + 1) ≠ 0 := by
  intro i
  induction i with
  | zero =>
    have := (hd 0 h).1
    show 0 * 10 + (bt s 0 - 48).toNat ≠ 0
    omega
  | succ i ih =>
    show num s (i + 1) * 10 + _ ≠ 0
    omega
theorem digs_num {s : List UInt8} (h : 0 < s.length) (hd : ∀ i, i < s.length → dg s i) (h0 : bt s 0 ≠ 48) : ∀ i, i ≤ s.length → digs (num s i) = (bytesOf s).take i := by
  intro i
  induction i with
  | zero => intro _; rw [List.take_zero]; exact digs_zero
  | succ i ih =>
    intro hi
    have hc := hd i (by omega)
    unfold dg at hc
    have hn : num s (i + 1) = num s i * 10 + (bt s i - 48).toNat := rfl
    rw [digs_pos (num_ne hd h h0 i), hn, show (num s i * 10 + (bt s i - 48).toNat) / 10 = num s i by omega, ih (by omega), take_succ_snoc (by rw [bytesOf_length]; omega), bt_bytes]
    congr 2
    omega
/-- A number's text is the text of the number that it tells. -/
theorem text_num {s : List UInt8} (h : Good s) : textN (numT s) = s := by
  obtain ⟨h1, hd, h2⟩ := h
  apply bytesOf_inj
  unfold textN
  rw [bytesOf_textOf (ch_bytes (ch_textI _))]
  unfold numT
  by_cases h0 : bt s 0 = 48
  · have h3 : s.length = 1 := by
      rcases h2 with h2 | h2
      · exact h2
      · exact absurd h0 h2
    have hn : num s s.length = 0 := by
      rw [h3]
      show 0 * 10 + (bt s 0 - 48).toNat = 0
      rw [h0]; rfl
    rw [hn]
    refine eq_of_getD (by rw [bytesOf_length, h3]; rfl) ?_
    intro i hi
    have hi0 : i = 0 := by
      have : (textI 0).length = 1 := rfl
      omega
    subst hi0
    rw [bt_bytes, h0]; rfl
  · have hne : num s s.length ≠ 0 := by
      have := num_ne hd h1 h0 (s.length - 1)
      rwa [Nat.sub_add_cancel h1] at this
    have e := digs_num h1 hd h0 s.length (Nat.le_refl _)
    unfold textI
    rw [if_neg hne, e, ← bytesOf_length, List.take_length]
theorem textN_inj {a b : Nat} (h : textN a = textN b) : a = b := by rw [← num_text a, h, num_text]
theorem num_len {s : List UInt8} : ∀ i, (∀ j, j < i → dg s j) → (ofN (num s i)).length ≤ i := by
  intro i
  induction i with
  | zero => intro _; show (ofN 0).length ≤ 0; rw [ofN_zero]; exact Nat.le_refl _
  | succ i ih =>
    intro hd
    have h1 := ih (fun j hj => hd j (Nat.lt_succ_of_lt hj))
    have h2 := hd i (Nat.lt_succ_self _)
    unfold dg at h2
    apply len_ofN_le
    have h3 := lt_P_len (num s i)
    have h4 := P_mono h1
    rw [P_succ]
    show num s i * 10 + (bt s i - 48).toNat < _
    omega
/-- A list whose outer parts are turned, i from each end. -/
def Turned (L l : List Int) (i : Nat) : Prop := l.length = L.length ∧ ∀ k, k < L.length → l.getD k 0 = if k < i ∨ L.length - 1 - i < k then L.getD (L.length - 1 - k) 0 else L.getD k 0
theorem getD_rev (L : List Int) {k : Nat} (h : k < L.length) : L.reverse.getD k 0 = L.getD (L.length - 1 - k) 0 := by
  rw [List.getD_eq_getElem?_getD, List.getD_eq_getElem?_getD, List.getElem?_reverse h]
theorem turned_end {L l : List Int} {i : Nat} (h : Turned L l i) (hi : L.length - 1 - i ≤ i) : l = L.reverse := by
  refine eq_of_getD (by rw [h.1, List.length_reverse]) ?_
  intro k hk
  have hk2 : k < L.length := by rw [← h.1]; exact hk
  rw [h.2 k hk2, getD_rev L hk2]
  split
  · rfl
  · congr 1; omega
theorem turned_step {L l : List Int} {i : Nat} (hl : Turned L l i) (hlt : i < L.length - 1 - i) : Turned L ((l.set i (l.getD (L.length - 1 - i) 0)).set (L.length - 1 - i) (l.getD i 0)) (i + 1) := by
  have hll := hl.1
  refine ⟨by rw [List.length_set, List.length_set, hll], ?_⟩
  intro k hk
  have hj := hl.2 (L.length - 1 - i) (by omega)
  have hi2 := hl.2 i (by omega)
  rw [if_neg (by omega)] at hj
  rw [if_neg (by omega)] at hi2
  by_cases h1 : k = L.length - 1 - i
  · subst h1
    rw [getD_set_eq (by rw [List.length_set]; omega), hi2, if_pos (by omega)]
    congr 1; omega
  · rw [getD_set_ne (Ne.symm h1)]
    by_cases h2 : k = i
    · subst h2
      rw [getD_set_eq (by omega), hj, if_pos (by omega)]
    · rw [getD_set_ne (Ne.symm h2), hl.2 k hk]
      by_cases h3 : k < i ∨ L.length - 1 - i < k
      · rw [if_pos h3, if_pos (by omega)]
      · rw [if_neg h3, if_neg (by omega)]
end Go.Proofs.Ytkeipmkiilimeaa.M
namespace Go.Proofs.Ytkeipmkiilimeaa.M
open Go Go.Proofs.Ytkeipmkiilimeaa.V
/-- The integer with a sign and limbs. -/
def iv (b : Bool) (l : List Int) : Int := if b then -((val l : Nat) : Int) else ((val l : Nat) : Int)
/-- An integer's normal form. -/
def ofZ (z : Int) : PV := .agg [.bool (decide (z < 0)), .ints .u32 (ofN z.natAbs)]
/-- A value that stands for an integer, in any form. -/
def IsZ (p : PV) (z : Int) : Prop := ∃ b l, p = .agg [.bool b, .ints .u32 l] ∧ Lim l ∧ l.length ≤ 1000000 ∧ iv b l = z
/-- An integer of at most n limbs. -/
def Sz (n : Nat) (z : Int) : Prop := (ofN z.natAbs).length ≤ n
theorem iv_false (l : List Int) : iv false l = ((val l : Nat) : Int) := rfl
theorem iv_true (l : List Int) : iv true l = -((val l : Nat) : Int) := rfl
theorem iv_abs (b : Bool) (l : List Int) : (iv b l).natAbs = val l := by cases b <;> simp [iv]
theorem iv_norm (b : Bool) (n : Nat) : iv b (ofN n) = if b then -(n : Int) else (n : Int) := by unfold iv; rw [val_ofN]
theorem iv_ofN (z : Int) : iv (decide (z < 0)) (ofN z.natAbs) = z := by
  rw [iv_norm]
  by_cases h : z < 0
  · rw [decide_eq_true h, if_pos rfl]; omega
  · rw [decide_eq_false h, if_neg (by decide)]; omega
theorem ofZ_iv (b : Bool) (l : List Int) : ofZ (iv b l) = .agg [.bool (b && decide (0 < (ofN (val l)).length)), .ints .u32 (ofN (val l))] := by
  unfold ofZ
  rw [iv_abs]
  congr 3
  cases b
  · rw [iv_false, Bool.false_and]; exact decide_eq_false (by omega)
  · rw [iv_true, Bool.true_and]
    by_cases h : val l = 0
    · rw [h, ofN_zero]; rfl
    · rw [decide_eq_true (by omega), decide_eq_true (ofN_length_pos.2 (by omega))]
theorem isZ_of {z : Int} (h : Sz 1000000 z) : IsZ (ofZ z) z := ⟨_, _, rfl, lim_ofN _, h, iv_ofN z⟩
theorem isZ_mk {b : Bool} {l : List Int} (hl : Lim l) (h : l.length ≤ 1000000) : IsZ (.agg [.bool b, .ints .u32 l]) (iv b l) := ⟨b, l, rfl, hl, h, rfl⟩
theorem sz_mono {n m : Nat} {z : Int} (h : Sz n z) (hm : n ≤ m) : Sz m z := Nat.le_trans h hm
theorem sz_le {n : Nat} {y z : Int} (h : Sz n y) (hz : z.natAbs ≤ y.natAbs) : Sz n z := Nat.le_trans (len_mono hz) h
theorem sz_neg {n : Nat} {z : Int} (h : Sz n z) : Sz n (-z) := by unfold Sz; rw [Int.natAbs_neg]; exact h
theorem sz_add {n m : Nat} {x y : Int} (hx : Sz n x) (hy : Sz m y) : Sz (max n m + 1) (x + y) := by
  unfold Sz at *
  have h1 := len_mono (Int.natAbs_add_le x y)
  have h2 := len_add x.natAbs y.natAbs
  omega
theorem sz_sub {n m : Nat} {x y : Int} (hx : Sz n x) (hy : Sz m y) : Sz (max n m + 1) (x - y) := by
  rw [Int.sub_eq_add_neg]; exact sz_add hx (sz_neg hy)
theorem sz_mul {n m : Nat} {x y : Int} (hx : Sz n x) (hy : Sz m y) : Sz (n + m) (x * y) := by
  unfold Sz at *
  rw [Int.natAbs_mul]
  have := len_mul x.natAbs y.natAbs
  omega
theorem sz_div {n : Nat} {x y : Int} (hx : Sz n x) : Sz n (x / y) := sz_le hx (Int.natAbs_ediv_le_natAbs x y)
theorem sz_mod {m : Nat} {x y : Int} (hy : Sz m y) (h : y ≠ 0) : Sz m (x % y) := by
  refine sz_le hy ?_
  have h1 := Int.emod_nonneg x h
  rcases Int.lt_or_lt_of_ne h with h2 | h2
  · have := Int.emod_lt_of_pos x (show 0 < -y by omega)
    rw [Int.emod_neg] at this
    omega
  · have := Int.emod_lt_of_pos x h2
    omega
theorem sz_iv {n : Nat} {b : Bool} {l : List Int} (hl : Lim l) (h : l.length ≤ n) : Sz n (iv b l) := by
  unfold Sz; rw [iv_abs]; exact Nat.le_trans (len_val_le hl) h
theorem sz_int {z : Int} (h1 : -18446744073709551616 < z) (h2 : z < 18446744073709551616) : Sz 2 z := by
  unfold Sz; exact len_u64 (by omega)
theorem sz_nat {n : Nat} {a : Nat} (h : (ofN a).length ≤ n) : Sz n (a : Int) := h
/-- The order of two integers as an int. -/
def icmp (a b : Int) : Int := if a < b then -1 else if a = b then 0 else 1
theorem icmp_lt {a b : Int} (h : a < b) : icmp a b = -1 := if_pos h
theorem icmp_eq (a : Int) : icmp a a = 0 := by unfold icmp; simp
theorem icmp_gt {a b : Int} (h : b < a) : icmp a b = 1 := by unfold icmp; rw [if_neg (by omega), if_neg (by omega)]
theorem icmp_zero {a b : Int} : icmp a b = 0 ↔ a = b := by unfold icmp; split <;> (try split) <;> omega
theorem icmp_neg {a b : Int} : icmp a b < 0 ↔ a < b := by unfold icmp; split <;> (try split) <;> omega
theorem icmp_le {a b : Int} : icmp a b ≤ 0 ↔ a ≤ b := by unfold icmp; split <;> (try split) <;> omega
theorem icmp_pos {a b : Int} : 0 < icmp a b ↔ b < a := by unfold icmp; split <;> (try split) <;> omega
theorem icmp_nonneg {a b : Int} : 0 ≤ icmp a b ↔ b ≤ a := by unfold icmp; split <;> (try split) <;> omega
theorem icmp_range (a b : Int) : -1 ≤ icmp a b ∧ icmp a b ≤ 1 := by unfold icmp; split <;> (try split) <;> omega
theorem icmp_swap (a b : Int) : icmp b a = -icmp a b := by
  unfold icmp
  repeat' split
  all_goals omega
theorem icmp_nat (a b : Nat) : icmp (a : Int) (b : Int) = cmp a b := by
  unfold icmp cmp
  repeat' split
  all_goals omega
theorem sgn_cmp {x y : Int} {u v : Nat} (hx : x = u ∨ x = -(u : Int)) (hy : y = v ∨ y = -(v : Int)) (h : icmp x 0 = icmp y 0) : icmp y 0 * cmp u v = icmp x y := by
  rw [← icmp_nat]
  rcases Int.lt_trichotomy y 0 with h1 | h1 | h1
  · rw [icmp_lt h1] at h ⊢
    have : x < 0 := icmp_neg.1 (by omega)
    have e : icmp (u : Int) (v : Int) = -icmp x y := by
      rw [← icmp_swap]
      unfold icmp
      repeat' split
      all_goals omega
    omega
  · subst h1
    rw [icmp_eq] at h ⊢
    rw [h]; omega
  · rw [icmp_gt h1] at h ⊢
    have : 0 < x := icmp_pos.1 (by omega)
    have e : icmp (u : Int) (v : Int) = icmp x y := by
      unfold icmp
      repeat' split
      all_goals omega
    omega
theorem iv_or (b : Bool) (l : List Int) : iv b l = (val l : Nat) ∨ iv b l = -((val l : Nat) : Int) := by cases b <;> simp [iv]
/-- The sign of an integer. -/
def isgn (a : Int) : Int := icmp a 0
theorem cells_ofZ (z : Int) : (ofZ z).cells = [.bool (decide (z < 0)), .ints .u32 (ofN z.natAbs)] := (rfl)
/-- The same under names that simp leaves alone. -/
def sgnB (z : Int) : Bool := decide (z < 0)
def absL (z : Int) : List Int := ofN z.natAbs
theorem cellsZ (z : Int) : (ofZ z).cells = [.bool (sgnB z), .ints .u32 (absL z)] := (rfl)
theorem foldZ (z : Int) : PV.agg [.bool (sgnB z), .ints .u32 (absL z)] = ofZ z := (rfl)
/-- Quotient and remainder, by their law. -/
theorem zdm {x y q r : Int} (hy : y ≠ 0) (h : r + y * q = x) (h0 : 0 ≤ r) (h1 : r < y.natAbs) : x / y = q ∧ x % y = r := by
  rcases Int.lt_or_lt_of_ne hy with g | g
  · have e := (Int.ediv_emod_unique (a := x) (b := -y) (r := r) (q := -q) (by omega)).2 ⟨by rw [Int.neg_mul_neg]; exact h, h0, by omega⟩
    rw [Int.ediv_neg, Int.emod_neg] at e
    exact ⟨by omega, e.2⟩
  · exact (Int.ediv_emod_unique (by omega)).2 ⟨h, h0, by omega⟩
/-- An integer that is an int. -/
def Fits (z : Int) : Prop := -9223372036854775808 ≤ z ∧ z < 9223372036854775808
instance (z : Int) : Decidable (Fits z) := by unfold Fits; exact inferInstance
/-- The text of an integer. -/
def textZ (z : Int) : List UInt8 := if z < 0 then 45 :: textN z.natAbs else textN z.natAbs
/-- The error and the integer of a text. -/
def minus (s : List UInt8) : Bool := decide (bt s 0 = 45) && decide (0 < s.length)
def body (s : List UInt8) : List UInt8 := if minus s then s.drop 1 else s
def zE (s : List UInt8) : Int := if (body s).length ≤ 200 then (if Good (body s) then (if minus s ∧ numT (body s) = 0 then 2 else 0) else 2) else 5
def zN (s : List UInt8) : Int := if zE s = 0 then (if minus s then -(numT (body s) : Int) else (numT (body s) : Int)) else 0
end Go.Proofs.Ytkeipmkiilimeaa.M
