import PyProof.Rows.All
import Wide.All
import OpenK.AllK
import Wide.FinOn
import KE.KStateDown
import HandS.Base
import HandS.Call
import HandS.Ends
import HandS.More
import HandS.Words
import HandS.WordsExc
import HandS.Defaults
import HandS.Head0
import HandS.Head1
import HandS.Head2
import HandS.Head3
import HandS.HeadEnd
import HandS.HeadHook1
import HandS.HeadHook2
import PySem.Challenge.RW_longchances_k79_whole_coming_in_changed
import KE.KOpsOwn
import HandS.List
import HandS.Comp
import HandS.Dict
import HandS.Iter
import HandS.WordsList
import HandS.WordsDict
import HandS.OwnEq
import HandS.IsInst
import HandS.Codes
import HandS.Conv
import HandS.DictComp
import HandS.Flow
import HandS.Gcd
import HandS.Wide
import HandS.WideBits
import HandS.Zip
import HandS.TupAny
import HandS.SortInts
import HandS.Style
import HandS.Walk
import KE.GoesMore
import KE.GoesEnum
import HandS.RaiseMore
import KE.KDictZip
import KE.KDictSum
import HandS.Star
import HandS.ListEq
import KE.KRevSl
import HandS.Set
import HandS.SetFor
import HandS.Strs
import PyProof.NeKinds
import HandS.TryOnly
set_option Elab.async false
set_option linter.all false
set_option maxRecDepth 100000
set_option maxHeartbeats 4000000
namespace LcR
open PySem PySem.Spec PyProof.Rows L2
/-! ### a call of a def's function object with two values, inside an operator -/
section
variable {X : Cx} {k : Nat} {f C : Addr} {fd : FuncData} {ps : List Str} {sp : Sp}
/-- what an own operator's class must have -/
structure OpF (K : PySem.W.Frag) (C f : Addr) (nm : Str) : Prop where
  sf : PySem.W.selfFirst K C = true
  at_ : PySem.W.findIn K (.ref C) nm = some (some (.ref f))
  fn : PySem.W.isFn K (.ref f) = true
theorem inst_of {pins : List (Addr × Obj)} {σ : L2.St} {H : Hp} {s : Shared} {a dx : Addr} {fs : List (Str × V)} (I : Inv X pins σ H s) (e : H a = some (.ins C dx fs)) : ∃ od, PySem.W.InstAt s.heap a (PySem.W.instObj C dx) C od := by
  obtain ⟨mA, J, _⟩ := ins_get I.hok e
  obtain ⟨od, J, _⟩ := J.look
  exact ⟨_, J⟩
/-- a result that is no NotImplemented -/
theorem back_of {pins : List (Addr × Obj)} {σ : L2.St} {Q : VK} {v : Value} {s' : Shared} (h : EP X pins σ Q v s') : PySem.W.CmpBack (EP X pins σ Q) v s' := by
  obtain ⟨x, H', I', r, q⟩ := id h
  cases v with
  | notImplemented =>
    cases x <;> first | (cases r; done) | (obtain ⟨t, z⟩ := r; cases z)
  | _ => exact h
/-- x op y, both instances of C -/
def rOwn (C : Addr) (sp : Sp) : R2 := fun x y H Q => (∃ a dx fs, x = .ref a ∧ H a = some (.ins C dx fs)) ∧ (∃ a dx fs, y = .ref a ∧ H a = some (.ins C dx fs)) ∧ sp [x, y] H Q E0
theorem op_own {op : Operator} (F : FnOk X.prog X.w X.K X.mg X.base CX0 k f fd ps sp) (hr : Room k X.A) (hb : Binds X.K fd ps []) (hf : OpF X.K C f (PySem.dunder op.info.2)) : OpR X (binaryOp op) (rOwn C sp) := by
  intro pins s σ H x y v u Q I rx ry hq
  obtain ⟨⟨a, dx, fs, rfl, ea⟩, ⟨b, dy, gs, rfl, eb⟩, hsp⟩ := hq
  cases rx
  cases ry
  obtain ⟨od, J⟩ := inst_of I ea
  obtain ⟨od', J'⟩ := inst_of I eb
  obtain ⟨m, hF⟩ := I.fr
  refine PySem.W.binop_K hF I.ok.mod.kin J J'.type hf.sf hf.at_ hf.fn ?_
  have r2 : Vals [V.ref a, V.ref b] [Value.ref a, Value.ref b] := .cons rfl (.cons rfl .nil)
  exact wpAny_mono (run_fn F hr hb .nil pass0 I r2 hsp) (fun v s' h => back_of h) fun _ _ x => x
/-- x op n, x an instance of C, n an int -/
def rOwnI (C : Addr) (sp : Sp) : R2 := fun x y H Q => (∃ a dx fs, x = .ref a ∧ H a = some (.ins C dx fs)) ∧ (∃ i, y = .int i) ∧ sp [x, y] H Q E0
theorem op_ownI {op : Operator} {rc fo ro : Option Value} (F : FnOk X.prog X.w X.K X.mg X.base CX0 k f fd ps sp) (hr : Room k X.A) (hb : Binds X.K fd ps []) (hf : OpF X.K C f (PySem.dunder op.info.2))
    (h3 : PySem.W.findIn X.K (.ref C) (dunderR op.info.2) = some rc) (hp : rc = none ∨ ∃ g : Addr, rc = some (.ref g))
    (h1 : PySem.W.findIn X.K (.type "int") (PySem.dunder op.info.2) = some fo) (h2 : PySem.W.findIn X.K (.type "int") (dunderR op.info.2) = some ro) (hsub : PySem.W.subIn X.K (.type "int") (.ref C) = some false) : OpR X (binaryOp op) (rOwnI C sp) := by
  intro pins s σ H x y v u Q I rx ry hq
  obtain ⟨⟨a, dx, fs, rfl, ea⟩, ⟨i, rfl⟩, hsp⟩ := hq
  cases rx
  obtain ⟨t, rfl⟩ := ry
  obtain ⟨od, J⟩ := inst_of I ea
  obtain ⟨m, hF⟩ := I.fr
  refine PySem.W.ksp_binT hF I.ok.mod.kin J rfl hf.sf hf.at_ hf.fn h3 hp h1 h2 hsub ?_
  have r2 : Vals [V.ref a, V.int i] [Value.ref a, Value.int i t] := .cons rfl (.cons ⟨t, rfl⟩ .nil)
  exact wpAny_mono (run_fn F hr hb .nil pass0 I r2 hsp) (fun v s' h => back_of h) fun _ _ x => x
/-- x == y, both instances of C with an own == -/
theorem op_ownEq (F : FnOk X.prog X.w X.K X.mg X.base CX0 k f fd ps sp) (hr : Room k X.A) (hb : Binds X.K fd ps []) (hs : PySem.W.findIn X.K (.ref C) "__eq__" = some (some (.ref f))) (hf : PySem.W.isFn X.K (.ref f) = true) : OpR X (compareOp .Eq) (rOwn C sp) := by
  intro pins s σ H x y v u Q I rx ry hq
  obtain ⟨⟨a, dx, fs, rfl, ea⟩, ⟨b, dy, gs, rfl, eb⟩, hsp⟩ := hq
  cases rx
  cases ry
  obtain ⟨od, J⟩ := inst_of I ea
  obtain ⟨od', J'⟩ := inst_of I eb
  obtain ⟨m, hF⟩ := I.fr
  show wpAny (model X.prog X.w) X.A (richCompare .Eq (.ref a) (.ref b)) (EP X pins σ Q) X.xe s
  refine PySem.W.cmp_K (op := .Eq) (tb := .ref C) hr.units0 hF I.ok.mod.kin J J'.type (by simp [PySem.W.notFirst]) hs hf ?_
  have r2 : Vals [V.ref a, V.ref b] [Value.ref a, Value.ref b] := .cons rfl (.cons rfl .nil)
  exact wpAny_mono (run_fn F hr hb .nil pass0 I r2 hsp) (fun v s' h => back_of h) fun _ _ x => x
end
/-! ### x != y by an own == and object.__ne__ -/
section
variable {M : Model} {prog : Program} {w : World} {A : Around} {E : Value → Shared → Prop} {s : Shared} {K : PySem.W.Frag} {x y C f : Addr} {ox oy : Obj} {od od' : Option Obj}
theorem ifBound_ne {args : List Value} {Q : Option Value → Shared → Prop} (X : K.In s.heap) (I : PySem.W.InstAt s.heap x ox C od) (hs : PySem.W.findIn K (.ref C) "__ne__" = some (some (.builtin "object.__ne__")))
    (h : wpAny M A (call (.builtin "object.__ne__") (.ref x :: args)) (fun v => Q (some v)) E s) : wpAny M A (callSpecialIfBound? (.ref x) "__ne__" args) Q E s := by
  simp only [callSpecialIfBound?, bindSpecialIfBound?]
  refine wpAny_holding (wpAny_bind (wpAny_bind (wpAny_bind (I.type.here ((PySem.W.looks_findIn X hs).here ?_)))))
  refine wpAny_bind (wpAny_askSetting (wpAny_ite ?_))
  have fin : wpAny M A (call (.builtin "object.__ne__") ([.ref x] ++ args) >>= fun v => pure (some v)) Q E s := wpAny_bind (wpAny_mono h (fun v s' h' => wpAny_pure h') fun _ _ h' => h')
  split
  · exact wpAny_bind (wpAny_of_eq (F.cmp_object.ne.bind _) (wpAny_pure (by exact fin)))
  · exact wpAny_tryCatch (wpAny_bind (wpAny_of_eq (F.cmp_object.ne.bind _) (wpAny_pure (by exact fin))))
theorem entry_ne {Q : Fin → Shared → Prop} (hu : A.units < cLine) (X : K.In s.heap) (I : PySem.W.InstAt s.heap x ox C od) (hs : PySem.W.findIn K (.ref C) "__eq__" = some (some (.ref f))) (hf : PySem.W.isFn K (.ref f) = true)
    (h : wpAny M A (call (.ref f) [.ref x, .ref y]) (fun v s' => ∃ b, v = .bool b ∧ Q (.done (.ret (.bool (!b)))) s') E s) : wpAny M A (Builtin.«object.__ne__» ⟨[.ref x, .ref y], []⟩) Q E s := by
  unfold Builtin.«object.__ne__»
  repeat ((fail_if_success (with_reducible show wpAny _ _ (call _ _) _ _ _)); first | with_reducible refine wpAny_cRoomFor hu ?_ | with_reducible refine PySem.W.ifBound_K X I hs hf ?_ | wp_step)
  refine wpAny_mono h (fun v s' z => ?_) fun _ _ e => e
  obtain ⟨b, rfl, q⟩ := z
  repeat (first | with_reducible refine wpAny_truthy_bool ?_ | wp_step)
  exact q
theorem call_ne {Q : Value → Shared → Prop} (hu : A.units + 1 < cLine) (X : K.In s.heap) (I : PySem.W.InstAt s.heap x ox C od) (hm : PySem.W.mroIn K C (.type "object") = some true) (hs : PySem.W.findIn K (.ref C) "__eq__" = some (some (.ref f))) (hf : PySem.W.isFn K (.ref f) = true)
    (h : wpAny (model prog w) A.in1 (call (.ref f) [.ref x, .ref y]) (fun v s' => ∃ b, v = .bool b ∧ Q (.bool (!b)) s') E s) : wpAny (model prog w) A (call (.builtin "object.__ne__") [.ref x, .ref y]) Q E s :=
  wpAny_call (codeAny_call_builtin F.cmp_object.ne.plain F.cmpEntry_ne (PySem.W.check_slot F.cmpKind_ne F.cmpSplit_ne (I.type.andThen (PySem.W.looks_mroIn X hm)) (F.cmpArgs_ne _ _) (entry_ne (A := A.in1) hu X I hs hf h)))
end
section
variable {X : Cx} {k : Nat} {f C : Addr} {fd : FuncData} {ps : List Str} {sp : Sp}
/-- a call below the running body, with room -/
theorem run_sub {A : Around} {pins : List (Addr × Obj)} {σ : L2.St} {H : Hp} {s : Shared} {Q : VK} {us : List Value} {vs : List V} (F : FnOk X.prog X.w X.K X.mg X.base CX0 k f fd ps sp) (sb : Sub X k A) (hb : Binds X.K fd ps [])
    (I : Inv X pins σ H s) (r : Vals vs us) (h : sp vs H Q E0) : wpAny (model X.prog X.w) A (call (.ref f) us) (EP X pins σ Q) X.xe s := by
  have hl := F.len _ _ _ _ h
  have e0 : Env0 X.prog X.w X.K X.mg X.base A X.stack s H := by
    have e := I.env0
    exact ⟨by rw [sb.fr]; exact e.frames, e.mod, e.bs, e.bsz, e.funs, e.frf, e.hok, e.bare⟩
  refine wpAny_call (codeAny_mono (F.run A X.stack s H ⟨us, []⟩ us vs Q E0 sb.room e0 (by
    have := hb s us I.kIn (by rw [List.append_nil, ← r.length]; exact hl)
    simpa using this) r h) fun r s' hq => ?_)
  cases r with
  | error e => exact (pass0 (X := X)) pins σ H s e s' I hq
  | ok fl =>
    cases fl with
    | ret u => exact I.after hq
    | next => exact False.elim hq
    | brk => exact False.elim hq
    | cont => exact False.elim hq
/-- x != y, both instances of C with an own == that gives a bool -/
def rOwnNe (C : Addr) (sp : Sp) : R2 := fun x y H Q => (∃ a dx fs, x = .ref a ∧ H a = some (.ins C dx fs)) ∧ (∃ a dx fs, y = .ref a ∧ H a = some (.ins C dx fs)) ∧ sp [x, y] H (fun v H' => ∃ b, v = .bl b ∧ Q (.bl (!b)) H') E0
theorem op_ownNe (F : FnOk X.prog X.w X.K X.mg X.base CX0 k f fd ps sp) (hr : Room (k + 1) X.A) (hb : Binds X.K fd ps []) (hs : PySem.W.findIn X.K (.ref C) "__eq__" = some (some (.ref f))) (hf : PySem.W.isFn X.K (.ref f) = true)
    (hn : PySem.W.findIn X.K (.ref C) "__ne__" = some (some (.builtin "object.__ne__"))) (hm : PySem.W.mroIn X.K C (.type "object") = some true) : OpR X (compareOp .NotEq) (rOwnNe C sp) := by
  intro pins s σ H x y v u Q I rx ry hq
  obtain ⟨⟨a, dx, fs, rfl, ea⟩, ⟨b, dy, gs, rfl, eb⟩, hsp⟩ := hq
  cases rx
  cases ry
  obtain ⟨od, J⟩ := inst_of I ea
  obtain ⟨od', J'⟩ := inst_of I eb
  show wpAny (model X.prog X.w) X.A (richCompare .NotEq (.ref a) (.ref b)) (EP X pins σ Q) X.xe s
  have one : wpAny (model X.prog X.w) X.A (tryCompare (.ref a) "__ne__" (.ref b)) (fun r s' => ∃ v, r = some v ∧ EP X pins σ Q v s') X.xe s := by
    unfold tryCompare
    refine wpAny_bind (ifBound_ne I.kIn J hn (call_ne (by have := hr.units; omega) I.kIn J hm hs hf ?_))
    refine wpAny_mono (run_sub F (A := X.A.in1) ⟨hr.in1, rfl⟩ hb I (vs := [V.ref a, V.ref b]) (.cons rfl (.cons rfl .nil)) hsp) (fun v s' z => ?_) fun _ _ e => e
    obtain ⟨z1, H', I', rz, b', rfl, q⟩ := z
    cases rz
    exact ⟨b', rfl, wpAny_pure ⟨_, rfl, .bl (!b'), H', I', rfl, q⟩⟩
  unfold richCompare
  simp only [cmpInfo_NotEq, oneThing_ref]
  refine wpAny_holding (wpAny_bind (wpAny_cRoomFor hr.units0 ?_))
  refine wpAny_bind (J.type.here (wpAny_bind (J'.type.here ?_)))
  simp only [bne_self_eq_false, Bool.false_eq_true, if_false]
  refine wpAny_bind (wpAny_pure ?_)
  simp only [Bool.false_eq_true, if_false]
  refine wpAny_bind (wpAny_mono one (fun r s' z => ?_) fun _ _ e => e)
  obtain ⟨v, rfl, hq⟩ := z
  exact wpAny_pure hq
end
end LcR
namespace LcR
open PySem PySem.Spec PyProof.Rows L2
/-- what n op int asks of the classes -/
structure OpRf (K : PySem.W.Frag) (C : Addr) (nm : String) : Prop where
  rc : ∃ rc, PySem.W.findIn K (.ref C) (dunderR nm) = some rc ∧ (rc = none ∨ ∃ g : Addr, rc = some (.ref g))
  fo : ∃ fo, PySem.W.findIn K (.type "int") (PySem.dunder nm) = some fo
  ro : ∃ ro, PySem.W.findIn K (.type "int") (dunderR nm) = some ro
  sub : PySem.W.subIn K (.type "int") (.ref C) = some false
end LcR
set_option Elab.async false
set_option linter.all false
set_option maxRecDepth 100000
set_option maxHeartbeats 4000000
namespace Lc
open PySem PySem.Spec PyProof.Rows L2 LcR
/-! ### the text by places -/
def lcTop (i : Nat) : Stmt := PySem.Challenge.pw_longchances_k79_whole_coming_in_changed.main.body.getD i (.Pass ⟨0, 0, 0, 0⟩)
abbrev s_is_integer : Stmt := lcTop 7
abbrev s_is_within : Stmt := lcTop 8
abbrev s_is_name : Stmt := lcTop 9
abbrev s_is_lot : Stmt := lcTop 11
abbrev s_top_of : Stmt := lcTop 25
abbrev s_bottom_of : Stmt := lcTop 26
abbrev s_is_measures : Stmt := lcTop 49
abbrev s_is_pay : Stmt := lcTop 50
abbrev s_is_outcome : Stmt := lcTop 51
abbrev s_is_act : Stmt := lcTop 52
abbrev s_need_parts : Stmt := lcTop 55
abbrev s_steps_from : Stmt := lcTop 56
abbrev s_lots_of_acts : Stmt := lcTop 57
abbrev s_need_house : Stmt := lcTop 58
abbrev s_need_state : Stmt := lcTop 59
abbrev s_parts_in : Stmt := lcTop 62
abbrev s_made_anew : Stmt := lcTop 63
abbrev s_copied : Stmt := lcTop 64
abbrev s_need_goal : Stmt := lcTop 67
abbrev s_targets_of : Stmt := lcTop 68
abbrev s_mean_at : Stmt := lcTop 69
abbrev s_eliminated : Stmt := lcTop 70
abbrev s_solved : Stmt := lcTop 71
abbrev s_led_to : Stmt := lcTop 72
abbrev s_had_by : Stmt := lcTop 73
abbrev s_first_picks : Stmt := lcTop 74
abbrev s_better_pick : Stmt := lcTop 75
abbrev s_best_picks : Stmt := lcTop 76
abbrev s_ranked : Stmt := lcTop 77
abbrev s_greatest_coming : Stmt := lcTop 78
abbrev s_law_pen : Stmt := lcTop 80
abbrev s_law_draw : Stmt := lcTop 81
abbrev s_law_pick : Stmt := lcTop 82
abbrev s_law_acts : Stmt := lcTop 83
abbrev s_law_changed : Stmt := lcTop 84
abbrev s_law_numbers : Stmt := lcTop 85
abbrev s_law : Stmt := lcTop 86
abbrev s_Ratio_init : Stmt := inClass (lcTop 27) 0
abbrev s_Ratio_add : Stmt := inClass (lcTop 27) 2
abbrev s_Ratio_sub : Stmt := inClass (lcTop 27) 4
abbrev s_Ratio_mul : Stmt := inClass (lcTop 27) 6
abbrev s_Ratio_eq : Stmt := inClass (lcTop 27) 9
abbrev s_Ratio_over : Stmt := inClass (lcTop 27) 11
abbrev s_Ratio_is_below : Stmt := inClass (lcTop 27) 12
abbrev s_Step_init : Stmt := inClass (lcTop 47) 0
abbrev s_House_init : Stmt := inClass (lcTop 60) 0
abbrev s_House_acts_at : Stmt := inClass (lcTop 60) 3
abbrev s_House_steps_of : Stmt := inClass (lcTop 60) 4
abbrev s_Coming_init : Stmt := inClass (lcTop 66) 0
/-! ### names, parameters first -/
abbrev N_is_integer : List Str := ["value"]
abbrev P_is_integer : List Str := ["value"]
theorem sc_is_integer : FnScope N_is_integer P_is_integer (defScope s_is_integer) := C8.fnScope_by (by decide +kernel)
abbrev N_is_within : List Str := ["value", "least", "most"]
abbrev P_is_within : List Str := ["value", "least", "most"]
theorem sc_is_within : FnScope N_is_within P_is_within (defScope s_is_within) := C8.fnScope_by (by decide +kernel)
abbrev N_is_name : List Str := ["value", "letter"]
abbrev P_is_name : List Str := ["value"]
theorem sc_is_name : FnScope N_is_name P_is_name (defScope s_is_name) := C8.fnScope_by (by decide +kernel)
abbrev N_is_lot : List Str := ["value", "step", "later"]
abbrev P_is_lot : List Str := ["value"]
theorem sc_is_lot : FnScope N_is_lot P_is_lot (defScope s_is_lot) := C8.fnScope_by (by decide +kernel)
abbrev N_top_of : List Str := ["value"]
abbrev P_top_of : List Str := ["value"]
theorem sc_top_of : FnScope N_top_of P_top_of (defScope s_top_of) := C8.fnScope_by (by decide +kernel)
abbrev N_bottom_of : List Str := ["value"]
abbrev P_bottom_of : List Str := ["value"]
theorem sc_bottom_of : FnScope N_bottom_of P_bottom_of (defScope s_bottom_of) := C8.fnScope_by (by decide +kernel)
abbrev N_is_measures : List Str := ["value", "name", "later"]
abbrev P_is_measures : List Str := ["value"]
theorem sc_is_measures : FnScope N_is_measures P_is_measures (defScope s_is_measures) := C8.fnScope_by (by decide +kernel)
abbrev N_is_pay : List Str := ["value"]
abbrev P_is_pay : List Str := ["value"]
theorem sc_is_pay : FnScope N_is_pay P_is_pay (defScope s_is_pay) := C8.fnScope_by (by decide +kernel)
abbrev N_is_outcome : List Str := ["states", "many", "value", "pay"]
abbrev P_is_outcome : List Str := ["states", "many", "value"]
theorem sc_is_outcome : FnScope N_is_outcome P_is_outcome (defScope s_is_outcome) := C8.fnScope_by (by decide +kernel)
abbrev N_is_act : List Str := ["states", "many", "value", "outcome"]
abbrev P_is_act : List Str := ["states", "many", "value"]
theorem sc_is_act : FnScope N_is_act P_is_act (defScope s_is_act) := C8.fnScope_by (by decide +kernel)
abbrev N_need_parts : List Str := ["states", "start", "measures", "acts", "at", "act", "source", "outcomes"]
abbrev P_need_parts : List Str := ["states", "start", "measures", "acts"]
theorem sc_need_parts : FnScope N_need_parts P_need_parts (defScope s_need_parts) := C8.fnScope_by (by decide +kernel)
abbrev N_steps_from : List Str := ["acts", "found", "at", "source", "outcomes", "odds", "target", "time", "pays"]
abbrev P_steps_from : List Str := ["acts"]
theorem sc_steps_from : FnScope N_steps_from P_steps_from (defScope s_steps_from) := C8.fnScope_by (by decide +kernel)
abbrev N_lots_of_acts : List Str := ["acts", "found", "behind", "source", "outcomes"]
abbrev P_lots_of_acts : List Str := ["acts"]
theorem sc_lots_of_acts : FnScope N_lots_of_acts P_lots_of_acts (defScope s_lots_of_acts) := C8.fnScope_by (by decide +kernel)
abbrev N_need_house : List Str := ["value"]
abbrev P_need_house : List Str := ["value"]
theorem sc_need_house : FnScope N_need_house P_need_house (defScope s_need_house) := C8.fnScope_by (by decide +kernel)
abbrev N_need_state : List Str := ["house", "value"]
abbrev P_need_state : List Str := ["house", "value"]
theorem sc_need_state : FnScope N_need_state P_need_state (defScope s_need_state) := C8.fnScope_by (by decide +kernel)
abbrev N_parts_in : List Str := ["value"]
abbrev P_parts_in : List Str := ["value"]
theorem sc_parts_in : FnScope N_parts_in P_parts_in (defScope s_parts_in) := C8.fnScope_by (by decide +kernel)
abbrev N_made_anew : List Str := ["value", "parts"]
abbrev P_made_anew : List Str := ["value", "parts"]
theorem sc_made_anew : FnScope N_made_anew P_made_anew (defScope s_made_anew) := C8.fnScope_by (by decide +kernel)
abbrev N_copied : List Str := ["value", "nodes", "below", "left", "told", "parent", "spot", "found", "part", "one"]
abbrev P_copied : List Str := ["value"]
theorem sc_copied : FnScope N_copied P_copied (defScope s_copied) := C8.fnScope_by (by decide +kernel)
abbrev N_need_goal : List Str := ["house", "goal", "state"]
abbrev P_need_goal : List Str := ["house", "goal"]
theorem sc_need_goal : FnScope N_need_goal P_need_goal (defScope s_need_goal) := C8.fnScope_by (by decide +kernel)
abbrev N_targets_of : List Str := ["house", "act", "at"]
abbrev P_targets_of : List Str := ["house", "act"]
theorem sc_targets_of : FnScope N_targets_of P_targets_of (defScope s_targets_of) := C8.fnScope_by (by decide +kernel)
abbrev N_mean_at : List Str := ["house", "act", "numbers", "found", "whole", "target", "odds"]
abbrev P_mean_at : List Str := ["house", "act", "numbers"]
theorem sc_mean_at : FnScope N_mean_at P_mean_at (defScope s_mean_at) := C8.fnScope_by (by decide +kernel)
abbrev N_eliminated : List Str := ["rows", "at", "spot", "found", "k", "row", "entry", "one"]
abbrev P_eliminated : List Str := ["rows", "at"]
theorem sc_eliminated : FnScope N_eliminated P_eliminated (defScope s_eliminated) := C8.fnScope_by (by decide +kernel)
abbrev N_solved : List Str := ["rows", "at", "row"]
abbrev P_solved : List Str := ["rows"]
theorem sc_solved : FnScope N_solved P_solved (defScope s_solved) := C8.fnScope_by (by decide +kernel)
abbrev N_led_to : List Str := ["house", "picks", "worths", "found", "line", "near", "state", "target", "odds"]
abbrev P_led_to : List Str := ["house", "picks", "worths"]
theorem sc_led_to : FnScope N_led_to P_led_to (defScope s_led_to) := C8.fnScope_by (by decide +kernel)
abbrev N_had_by : List Str := ["house", "picks", "worths", "far", "open_states", "rows", "state", "row", "whole", "target", "odds", "spot", "found", "told"]
abbrev P_had_by : List Str := ["house", "picks", "worths"]
theorem sc_had_by : FnScope N_had_by P_had_by (defScope s_had_by) := C8.fnScope_by (by decide +kernel)
abbrev N_first_picks : List Str := ["house", "worths", "picks", "known", "line", "near", "act", "state", "target", "odds"]
abbrev P_first_picks : List Str := ["house", "worths"]
theorem sc_first_picks : FnScope N_first_picks P_first_picks (defScope s_first_picks) := C8.fnScope_by (by decide +kernel)
abbrev N_better_pick : List Str := ["house", "state", "pick", "numbers", "worths", "best", "found", "act", "mean"]
abbrev P_better_pick : List Str := ["house", "state", "pick", "numbers", "worths"]
theorem sc_better_pick : FnScope N_better_pick P_better_pick (defScope s_better_pick) := C8.fnScope_by (by decide +kernel)
abbrev N_best_picks : List Str := ["house", "worths", "picks", "numbers", "far", "later", "state"]
abbrev P_best_picks : List Str := ["house", "worths"]
theorem sc_best_picks : FnScope N_best_picks P_best_picks (defScope s_best_picks) := C8.fnScope_by (by decide +kernel)
abbrev N_ranked : List Str := ["house", "numbers", "picks", "worths", "stops", "kept", "far", "state", "pick"]
abbrev P_ranked : List Str := ["house", "numbers", "picks", "worths"]
theorem sc_ranked : FnScope N_ranked P_ranked (defScope s_ranked) := C8.fnScope_by (by decide +kernel)
abbrev N_greatest_coming : List Str := ["house", "goal", "worths", "numbers", "picks", "far", "kept", "state"]
abbrev P_greatest_coming : List Str := ["house", "goal"]
theorem sc_greatest_coming : FnScope N_greatest_coming P_greatest_coming (defScope s_greatest_coming) := C8.fnScope_by (by decide +kernel)
abbrev N_law_pen : List Str := ["script"]
abbrev P_law_pen : List Str := ["script"]
theorem sc_law_pen : FnScope N_law_pen P_law_pen (defScope s_law_pen) := C8.fnScope_by (by decide +kernel)
abbrev N_law_draw : List Str := ["pen", "many", "digit", "at", "cell", "great", "mixed"]
abbrev P_law_draw : List Str := ["pen", "many"]
theorem sc_law_draw : FnScope N_law_draw P_law_draw (defScope s_law_draw) := C8.fnScope_by (by decide +kernel)
abbrev N_law_pick : List Str := ["pen", "some"]
abbrev P_law_pick : List Str := ["pen", "some"]
theorem sc_law_pick : FnScope N_law_pick P_law_pick (defScope s_law_pick) := C8.fnScope_by (by decide +kernel)
abbrev N_law_acts : List Str := ["pen", "most", "measures", "many", "style", "acts", "state", "near", "unit", "turn", "outcomes", "k", "pays", "other", "spot"]
abbrev P_law_acts : List Str := ["pen", "most", "measures"]
theorem sc_law_acts : FnScope N_law_acts P_law_acts (defScope s_law_acts) := C8.fnScope_by (by decide +kernel)
abbrev N_law_changed : List Str := ["pen", "many", "acts", "goal", "way", "often", "scaled", "state", "outcomes", "parted", "some", "left", "names", "renamed", "twice", "one", "turn"]
abbrev P_law_changed : List Str := ["pen", "many", "acts", "goal"]
theorem sc_law_changed : FnScope N_law_changed P_law_changed (defScope s_law_changed) := C8.fnScope_by (by decide +kernel)
abbrev N_law_numbers : List Str := ["many", "acts", "goal"]
abbrev P_law_numbers : List Str := ["many", "acts", "goal"]
theorem sc_law_numbers : FnScope N_law_numbers P_law_numbers (defScope s_law_numbers) := C8.fnScope_by (by decide +kernel)
abbrev N_law : List Str := ["script", "pen", "turn", "many", "acts", "goal", "other", "told", "size", "changed", "there", "names", "found", "both", "mine", "wide", "fresh", "more", "lap", "state"]
abbrev P_law : List Str := ["script"]
theorem sc_law : FnScope N_law P_law (defScope s_law) := C8.fnScope_by (by decide +kernel)
abbrev N_Ratio_init : List Str := ["self", "top", "bottom", "shared"]
abbrev P_Ratio_init : List Str := ["self", "top", "bottom"]
theorem sc_Ratio_init : FnScope N_Ratio_init P_Ratio_init (defScope s_Ratio_init) := C8.fnScope_by (by decide +kernel)
abbrev N_Ratio_add : List Str := ["self", "other"]
abbrev P_Ratio_add : List Str := ["self", "other"]
theorem sc_Ratio_add : FnScope N_Ratio_add P_Ratio_add (defScope s_Ratio_add) := C8.fnScope_by (by decide +kernel)
abbrev N_Ratio_sub : List Str := ["self", "other"]
abbrev P_Ratio_sub : List Str := ["self", "other"]
theorem sc_Ratio_sub : FnScope N_Ratio_sub P_Ratio_sub (defScope s_Ratio_sub) := C8.fnScope_by (by decide +kernel)
abbrev N_Ratio_mul : List Str := ["self", "other"]
abbrev P_Ratio_mul : List Str := ["self", "other"]
theorem sc_Ratio_mul : FnScope N_Ratio_mul P_Ratio_mul (defScope s_Ratio_mul) := C8.fnScope_by (by decide +kernel)
abbrev N_Ratio_eq : List Str := ["self", "other"]
abbrev P_Ratio_eq : List Str := ["self", "other"]
theorem sc_Ratio_eq : FnScope N_Ratio_eq P_Ratio_eq (defScope s_Ratio_eq) := C8.fnScope_by (by decide +kernel)
abbrev N_Ratio_over : List Str := ["self", "other"]
abbrev P_Ratio_over : List Str := ["self", "other"]
theorem sc_Ratio_over : FnScope N_Ratio_over P_Ratio_over (defScope s_Ratio_over) := C8.fnScope_by (by decide +kernel)
abbrev N_Ratio_is_below : List Str := ["self", "other"]
abbrev P_Ratio_is_below : List Str := ["self", "other"]
theorem sc_Ratio_is_below : FnScope N_Ratio_is_below P_Ratio_is_below (defScope s_Ratio_is_below) := C8.fnScope_by (by decide +kernel)
abbrev N_Step_init : List Str := ["self", "act", "source", "target", "odds", "time", "pays"]
abbrev P_Step_init : List Str := ["self", "act", "source", "target", "odds", "time", "pays"]
theorem sc_Step_init : FnScope N_Step_init P_Step_init (defScope s_Step_init) := C8.fnScope_by (by decide +kernel)
abbrev N_House_init : List Str := ["self", "states", "start", "measures", "acts", "events", "many", "lots", "source", "outcomes", "word"]
abbrev P_House_init : List Str := ["self", "states", "start", "measures", "acts", "events"]
theorem sc_House_init : FnScope N_House_init P_House_init (defScope s_House_init) := C8.fnScope_by (by decide +kernel)
abbrev N_House_acts_at : List Str := ["self", "state", "at", "act"]
abbrev P_House_acts_at : List Str := ["self", "state"]
theorem sc_House_acts_at : FnScope N_House_acts_at P_House_acts_at (defScope s_House_acts_at) := C8.fnScope_by (by decide +kernel)
abbrev N_House_steps_of : List Str := ["self", "act"]
abbrev P_House_steps_of : List Str := ["self", "act"]
theorem sc_House_steps_of : FnScope N_House_steps_of P_House_steps_of (defScope s_House_steps_of) := C8.fnScope_by (by decide +kernel)
abbrev N_Coming_init : List Str := ["self", "numbers", "picks", "ranks"]
abbrev P_Coming_init : List Str := ["self", "numbers", "picks", "ranks"]
theorem sc_Coming_init : FnScope N_Coming_init P_Coming_init (defScope s_Coming_init) := C8.fnScope_by (by decide +kernel)
/-! ### the facts of the top -/
abbrev CRatio (K : PySem.W.Frag) : Addr := He.ga K "Ratio"
abbrev CStep (K : PySem.W.Frag) : Addr := He.ga K "Step"
abbrev CHouse (K : PySem.W.Frag) : Addr := He.ga K "House"
abbrev CComing (K : PySem.W.Frag) : Addr := He.ga K "Coming"
structure Tx (K : PySem.W.Frag) (mg : Str → Option Value) : Prop where
  b_int : mg "int" = none
  b_bool : mg "bool" = none
  b_str : mg "str" = none
  b_tuple : mg "tuple" = none
  b_list : mg "list" = none
  b_dict : mg "dict" = none
  b_len : mg "len" = none
  b_isinstance : mg "isinstance" = none
  b_range : mg "range" = none
  b_zip : mg "zip" = none
  b_enumerate : mg "enumerate" = none
  b_sorted : mg "sorted" = none
  b_min : mg "min" = none
  b_sum : mg "sum" = none
  b_all : mg "all" = none
  b_abs : mg "abs" = none
  b_any : mg "any" = none
  b_repr : mg "repr" = none
  b_set : mg "set" = none
  g_Ratio : mg "Ratio" = some (.ref (CRatio K))
  g_Step : mg "Step" = some (.ref (CStep K))
  g_House : mg "House" = some (.ref (CHouse K))
  g_Coming : mg "Coming" = some (.ref (CComing K))
  g_is_integer : mg "is_integer" = some (.ref (He.ga K "is_integer"))
  g_is_within : mg "is_within" = some (.ref (He.ga K "is_within"))
  g_is_name : mg "is_name" = some (.ref (He.ga K "is_name"))
  g_is_lot : mg "is_lot" = some (.ref (He.ga K "is_lot"))
  g_top_of : mg "top_of" = some (.ref (He.ga K "top_of"))
  g_bottom_of : mg "bottom_of" = some (.ref (He.ga K "bottom_of"))
  g_is_measures : mg "is_measures" = some (.ref (He.ga K "is_measures"))
  g_is_pay : mg "is_pay" = some (.ref (He.ga K "is_pay"))
  g_is_outcome : mg "is_outcome" = some (.ref (He.ga K "is_outcome"))
  g_is_act : mg "is_act" = some (.ref (He.ga K "is_act"))
  g_need_parts : mg "need_parts" = some (.ref (He.ga K "need_parts"))
  g_steps_from : mg "steps_from" = some (.ref (He.ga K "steps_from"))
  g_lots_of_acts : mg "lots_of_acts" = some (.ref (He.ga K "lots_of_acts"))
  g_need_house : mg "need_house" = some (.ref (He.ga K "need_house"))
  g_need_state : mg "need_state" = some (.ref (He.ga K "need_state"))
  g_parts_in : mg "parts_in" = some (.ref (He.ga K "parts_in"))
  g_made_anew : mg "made_anew" = some (.ref (He.ga K "made_anew"))
  g_copied : mg "copied" = some (.ref (He.ga K "copied"))
  g_need_goal : mg "need_goal" = some (.ref (He.ga K "need_goal"))
  g_targets_of : mg "targets_of" = some (.ref (He.ga K "targets_of"))
  g_mean_at : mg "mean_at" = some (.ref (He.ga K "mean_at"))
  g_eliminated : mg "eliminated" = some (.ref (He.ga K "eliminated"))
  g_solved : mg "solved" = some (.ref (He.ga K "solved"))
  g_led_to : mg "led_to" = some (.ref (He.ga K "led_to"))
  g_had_by : mg "had_by" = some (.ref (He.ga K "had_by"))
  g_first_picks : mg "first_picks" = some (.ref (He.ga K "first_picks"))
  g_better_pick : mg "better_pick" = some (.ref (He.ga K "better_pick"))
  g_best_picks : mg "best_picks" = some (.ref (He.ga K "best_picks"))
  g_ranked : mg "ranked" = some (.ref (He.ga K "ranked"))
  g_greatest_coming : mg "greatest_coming" = some (.ref (He.ga K "greatest_coming"))
  g_law_pen : mg "_law_pen" = some (.ref (He.ga K "_law_pen"))
  g_law_draw : mg "_law_draw" = some (.ref (He.ga K "_law_draw"))
  g_law_pick : mg "_law_pick" = some (.ref (He.ga K "_law_pick"))
  g_law_acts : mg "_law_acts" = some (.ref (He.ga K "_law_acts"))
  g_law_changed : mg "_law_changed" = some (.ref (He.ga K "_law_changed"))
  g_law_numbers : mg "_law_numbers" = some (.ref (He.ga K "_law_numbers"))
  g_law : mg "law" = some (.ref (He.ga K "law"))
  k_LETTERS : ∃ u, mg "LETTERS" = some u ∧ RelV (.str "abcdefghijklmnopqrstuvwxyz") u
  k_MOST_LETTERS : ∃ u, mg "MOST_LETTERS" = some u ∧ RelV (.int 8) u
  k_MOST_STATES : ∃ u, mg "MOST_STATES" = some u ∧ RelV (.int 200) u
  k_MOST_ACTS : ∃ u, mg "MOST_ACTS" = some u ∧ RelV (.int 600) u
  k_MOST_STEPS : ∃ u, mg "MOST_STEPS" = some u ∧ RelV (.int 1200) u
  k_MOST_ODDS : ∃ u, mg "MOST_ODDS" = some u ∧ RelV (.int 1000) u
  k_MOST_TIME : ∃ u, mg "MOST_TIME" = some u ∧ RelV (.int 1000) u
  k_MOST_PAY : ∃ u, mg "MOST_PAY" = some u ∧ RelV (.int 999999999999) u
  k_MOST_MEASURES : ∃ u, mg "MOST_MEASURES" = some u ∧ RelV (.int 4) u
  k_MOST_EVENTS : ∃ u, mg "MOST_EVENTS" = some u ∧ RelV (.int 200) u
  gcd : mg "gcd" = some (.builtin "math.gcd")
  f_is_integer : ∃ fd, FunD K "is_integer" "is_integer" (defArgs s_is_integer) (defBody s_is_integer) (defScope s_is_integer) [] [] (He.ga K "is_integer") fd
  f_is_within : ∃ fd, FunD K "is_within" "is_within" (defArgs s_is_within) (defBody s_is_within) (defScope s_is_within) [] [] (He.ga K "is_within") fd
  f_is_name : ∃ fd, FunD K "is_name" "is_name" (defArgs s_is_name) (defBody s_is_name) (defScope s_is_name) [] [] (He.ga K "is_name") fd
  f_is_lot : ∃ fd, FunD K "is_lot" "is_lot" (defArgs s_is_lot) (defBody s_is_lot) (defScope s_is_lot) [] [] (He.ga K "is_lot") fd
  f_top_of : ∃ fd, FunD K "top_of" "top_of" (defArgs s_top_of) (defBody s_top_of) (defScope s_top_of) [] [] (He.ga K "top_of") fd
  f_bottom_of : ∃ fd, FunD K "bottom_of" "bottom_of" (defArgs s_bottom_of) (defBody s_bottom_of) (defScope s_bottom_of) [] [] (He.ga K "bottom_of") fd
  f_is_measures : ∃ fd, FunD K "is_measures" "is_measures" (defArgs s_is_measures) (defBody s_is_measures) (defScope s_is_measures) [] [] (He.ga K "is_measures") fd
  f_is_pay : ∃ fd, FunD K "is_pay" "is_pay" (defArgs s_is_pay) (defBody s_is_pay) (defScope s_is_pay) [] [] (He.ga K "is_pay") fd
  f_is_outcome : ∃ fd, FunD K "is_outcome" "is_outcome" (defArgs s_is_outcome) (defBody s_is_outcome) (defScope s_is_outcome) [] [] (He.ga K "is_outcome") fd
  f_is_act : ∃ fd, FunD K "is_act" "is_act" (defArgs s_is_act) (defBody s_is_act) (defScope s_is_act) [] [] (He.ga K "is_act") fd
  f_need_parts : ∃ fd, FunD K "need_parts" "need_parts" (defArgs s_need_parts) (defBody s_need_parts) (defScope s_need_parts) [] [] (He.ga K "need_parts") fd
  f_steps_from : ∃ fd, FunD K "steps_from" "steps_from" (defArgs s_steps_from) (defBody s_steps_from) (defScope s_steps_from) [] [] (He.ga K "steps_from") fd
  f_lots_of_acts : ∃ fd, FunD K "lots_of_acts" "lots_of_acts" (defArgs s_lots_of_acts) (defBody s_lots_of_acts) (defScope s_lots_of_acts) [] [] (He.ga K "lots_of_acts") fd
  f_need_house : ∃ fd, FunD K "need_house" "need_house" (defArgs s_need_house) (defBody s_need_house) (defScope s_need_house) [] [] (He.ga K "need_house") fd
  f_need_state : ∃ fd, FunD K "need_state" "need_state" (defArgs s_need_state) (defBody s_need_state) (defScope s_need_state) [] [] (He.ga K "need_state") fd
  f_parts_in : ∃ fd, FunD K "parts_in" "parts_in" (defArgs s_parts_in) (defBody s_parts_in) (defScope s_parts_in) [] [] (He.ga K "parts_in") fd
  f_made_anew : ∃ fd, FunD K "made_anew" "made_anew" (defArgs s_made_anew) (defBody s_made_anew) (defScope s_made_anew) [] [] (He.ga K "made_anew") fd
  f_copied : ∃ fd, FunD K "copied" "copied" (defArgs s_copied) (defBody s_copied) (defScope s_copied) [] [] (He.ga K "copied") fd
  f_need_goal : ∃ fd, FunD K "need_goal" "need_goal" (defArgs s_need_goal) (defBody s_need_goal) (defScope s_need_goal) [] [] (He.ga K "need_goal") fd
  f_targets_of : ∃ fd, FunD K "targets_of" "targets_of" (defArgs s_targets_of) (defBody s_targets_of) (defScope s_targets_of) [] [] (He.ga K "targets_of") fd
  f_mean_at : ∃ fd, FunD K "mean_at" "mean_at" (defArgs s_mean_at) (defBody s_mean_at) (defScope s_mean_at) [] [] (He.ga K "mean_at") fd
  f_eliminated : ∃ fd, FunD K "eliminated" "eliminated" (defArgs s_eliminated) (defBody s_eliminated) (defScope s_eliminated) [] [] (He.ga K "eliminated") fd
  f_solved : ∃ fd, FunD K "solved" "solved" (defArgs s_solved) (defBody s_solved) (defScope s_solved) [] [] (He.ga K "solved") fd
  f_led_to : ∃ fd, FunD K "led_to" "led_to" (defArgs s_led_to) (defBody s_led_to) (defScope s_led_to) [] [] (He.ga K "led_to") fd
  f_had_by : ∃ fd, FunD K "had_by" "had_by" (defArgs s_had_by) (defBody s_had_by) (defScope s_had_by) [] [] (He.ga K "had_by") fd
  f_first_picks : ∃ fd, FunD K "first_picks" "first_picks" (defArgs s_first_picks) (defBody s_first_picks) (defScope s_first_picks) [] [] (He.ga K "first_picks") fd
  f_better_pick : ∃ fd, FunD K "better_pick" "better_pick" (defArgs s_better_pick) (defBody s_better_pick) (defScope s_better_pick) [] [] (He.ga K "better_pick") fd
  f_best_picks : ∃ fd, FunD K "best_picks" "best_picks" (defArgs s_best_picks) (defBody s_best_picks) (defScope s_best_picks) [] [] (He.ga K "best_picks") fd
  f_ranked : ∃ fd, FunD K "ranked" "ranked" (defArgs s_ranked) (defBody s_ranked) (defScope s_ranked) [] [] (He.ga K "ranked") fd
  f_greatest_coming : ∃ fd, FunD K "greatest_coming" "greatest_coming" (defArgs s_greatest_coming) (defBody s_greatest_coming) (defScope s_greatest_coming) [] [] (He.ga K "greatest_coming") fd
  f_law_pen : ∃ fd, FunD K "_law_pen" "_law_pen" (defArgs s_law_pen) (defBody s_law_pen) (defScope s_law_pen) [] [] (He.ga K "_law_pen") fd
  f_law_draw : ∃ fd, FunD K "_law_draw" "_law_draw" (defArgs s_law_draw) (defBody s_law_draw) (defScope s_law_draw) [] [] (He.ga K "_law_draw") fd
  f_law_pick : ∃ fd, FunD K "_law_pick" "_law_pick" (defArgs s_law_pick) (defBody s_law_pick) (defScope s_law_pick) [] [] (He.ga K "_law_pick") fd
  f_law_acts : ∃ fd, FunD K "_law_acts" "_law_acts" (defArgs s_law_acts) (defBody s_law_acts) (defScope s_law_acts) [] [] (He.ga K "_law_acts") fd
  f_law_changed : ∃ fd, FunD K "_law_changed" "_law_changed" (defArgs s_law_changed) (defBody s_law_changed) (defScope s_law_changed) [] [] (He.ga K "_law_changed") fd
  f_law_numbers : ∃ fd, FunD K "_law_numbers" "_law_numbers" (defArgs s_law_numbers) (defBody s_law_numbers) (defScope s_law_numbers) [] [] (He.ga K "_law_numbers") fd
  f_law : ∃ fd, FunD K "law" "law" (defArgs s_law) (defBody s_law) (defScope s_law) [] [] (He.ga K "law") fd
  f_Ratio_init : ∃ fd, FunD K "__init__" "Ratio.__init__" (defArgs s_Ratio_init) (defBody s_Ratio_init) (defScope s_Ratio_init) [.int 1] [] (He.ma K (CRatio K) "__init__") fd
  f_Ratio_add : ∃ fd, FunD K "__add__" "Ratio.__add__" (defArgs s_Ratio_add) (defBody s_Ratio_add) (defScope s_Ratio_add) [] [] (He.ma K (CRatio K) "__add__") fd
  f_Ratio_sub : ∃ fd, FunD K "__sub__" "Ratio.__sub__" (defArgs s_Ratio_sub) (defBody s_Ratio_sub) (defScope s_Ratio_sub) [] [] (He.ma K (CRatio K) "__sub__") fd
  f_Ratio_mul : ∃ fd, FunD K "__mul__" "Ratio.__mul__" (defArgs s_Ratio_mul) (defBody s_Ratio_mul) (defScope s_Ratio_mul) [] [] (He.ma K (CRatio K) "__mul__") fd
  f_Ratio_eq : ∃ fd, FunD K "__eq__" "Ratio.__eq__" (defArgs s_Ratio_eq) (defBody s_Ratio_eq) (defScope s_Ratio_eq) [] [] (He.ma K (CRatio K) "__eq__") fd
  f_Ratio_over : ∃ fd, FunD K "over" "Ratio.over" (defArgs s_Ratio_over) (defBody s_Ratio_over) (defScope s_Ratio_over) [] [] (He.ma K (CRatio K) "over") fd
  f_Ratio_is_below : ∃ fd, FunD K "is_below" "Ratio.is_below" (defArgs s_Ratio_is_below) (defBody s_Ratio_is_below) (defScope s_Ratio_is_below) [] [] (He.ma K (CRatio K) "is_below") fd
  f_Step_init : ∃ fd, FunD K "__init__" "Step.__init__" (defArgs s_Step_init) (defBody s_Step_init) (defScope s_Step_init) [] [] (He.ma K (CStep K) "__init__") fd
  f_House_init : ∃ fd, FunD K "__init__" "House.__init__" (defArgs s_House_init) (defBody s_House_init) (defScope s_House_init) [.non] [] (He.ma K (CHouse K) "__init__") fd
  f_House_acts_at : ∃ fd, FunD K "acts_at" "House.acts_at" (defArgs s_House_acts_at) (defBody s_House_acts_at) (defScope s_House_acts_at) [] [] (He.ma K (CHouse K) "acts_at") fd
  f_House_steps_of : ∃ fd, FunD K "steps_of" "House.steps_of" (defArgs s_House_steps_of) (defBody s_House_steps_of) (defScope s_House_steps_of) [] [] (He.ma K (CHouse K) "steps_of") fd
  f_Coming_init : ∃ fd, FunD K "__init__" "Coming.__init__" (defArgs s_Coming_init) (defBody s_Coming_init) (defScope s_Coming_init) [] [] (He.ma K (CComing K) "__init__") fd
  cl_Ratio : Cls K (CRatio K)
  mk_Ratio : Mk K (CRatio K) (He.ma K (CRatio K) "__init__")
  na_Ratio_top : NoAttr K (CRatio K) "top"
  na_Ratio_bottom : NoAttr K (CRatio K) "bottom"
  ha_Ratio : PySem.W.findIn K (.ref (CRatio K)) "__class__" = some (some (.builtin "object.__class__"))
  hm_Ratio : PySem.W.mroIn K (CRatio K) (.type "object") = some true
  ki_Ratio : PySem.W.kitOne K (.ref (CRatio K)) (.ref (CRatio K)) = some true
  cl_Step : Cls K (CStep K)
  mk_Step : Mk K (CStep K) (He.ma K (CStep K) "__init__")
  na_Step_act : NoAttr K (CStep K) "act"
  na_Step_source : NoAttr K (CStep K) "source"
  na_Step_target : NoAttr K (CStep K) "target"
  na_Step_odds : NoAttr K (CStep K) "odds"
  na_Step_time : NoAttr K (CStep K) "time"
  na_Step_pays : NoAttr K (CStep K) "pays"
  ha_Step : PySem.W.findIn K (.ref (CStep K)) "__class__" = some (some (.builtin "object.__class__"))
  hm_Step : PySem.W.mroIn K (CStep K) (.type "object") = some true
  ki_Step : PySem.W.kitOne K (.ref (CStep K)) (.ref (CStep K)) = some true
  cl_House : Cls K (CHouse K)
  mk_House : Mk K (CHouse K) (He.ma K (CHouse K) "__init__")
  na_House_states : NoAttr K (CHouse K) "states"
  na_House_start : NoAttr K (CHouse K) "start"
  na_House_measures : NoAttr K (CHouse K) "measures"
  na_House_acts : NoAttr K (CHouse K) "acts"
  na_House_steps : NoAttr K (CHouse K) "steps"
  na_House_lots : NoAttr K (CHouse K) "lots"
  na_House_lots_of : NoAttr K (CHouse K) "lots_of"
  ha_House : PySem.W.findIn K (.ref (CHouse K)) "__class__" = some (some (.builtin "object.__class__"))
  hm_House : PySem.W.mroIn K (CHouse K) (.type "object") = some true
  ki_House : PySem.W.kitOne K (.ref (CHouse K)) (.ref (CHouse K)) = some true
  cl_Coming : Cls K (CComing K)
  mk_Coming : Mk K (CComing K) (He.ma K (CComing K) "__init__")
  na_Coming_numbers : NoAttr K (CComing K) "numbers"
  na_Coming_picks : NoAttr K (CComing K) "picks"
  na_Coming_ranks : NoAttr K (CComing K) "ranks"
  ha_Coming : PySem.W.findIn K (.ref (CComing K)) "__class__" = some (some (.builtin "object.__class__"))
  hm_Coming : PySem.W.mroIn K (CComing K) (.type "object") = some true
  ki_Coming : PySem.W.kitOne K (.ref (CComing K)) (.ref (CComing K)) = some true
  kr_int : PySem.W.kitOne K (.ref (CRatio K)) (.type "int") = some false
  kr_bool : PySem.W.kitOne K (.ref (CRatio K)) (.type "bool") = some false
  kr_tuple : PySem.W.kitOne K (.ref (CRatio K)) (.type "tuple") = some false
  kr_list : PySem.W.kitOne K (.ref (CRatio K)) (.type "list") = some false
  kr_dict : PySem.W.kitOne K (.ref (CRatio K)) (.type "dict") = some false
  kr_str : PySem.W.kitOne K (.ref (CRatio K)) (.type "str") = some false
  kn_int : PySem.W.kitOne K (.type "int") (.ref (CRatio K)) = some false
  hn : PySem.W.specialIn K (.builtin "object.__class__") "__get__" = some (some (.builtin "getset_descriptor.__get__"))
  htk : PySem.W.takesIn K (.builtin "object.__class__") = some true
  me_Ratio_over : Meth K (CRatio K) "over" (He.ma K (CRatio K) "over")
  me_Ratio_is_below : Meth K (CRatio K) "is_below" (He.ma K (CRatio K) "is_below")
  me_House_acts_at : Meth K (CHouse K) "acts_at" (He.ma K (CHouse K) "acts_at")
  me_House_steps_of : Meth K (CHouse K) "steps_of" (He.ma K (CHouse K) "steps_of")
  op_add : OpF K (CRatio K) (He.ma K (CRatio K) "__add__") (PySem.dunder "add")
  opr_add : OpRf K (CRatio K) "add"
  op_sub : OpF K (CRatio K) (He.ma K (CRatio K) "__sub__") (PySem.dunder "sub")
  opr_sub : OpRf K (CRatio K) "sub"
  op_mul : OpF K (CRatio K) (He.ma K (CRatio K) "__mul__") (PySem.dunder "mul")
  opr_mul : OpRf K (CRatio K) "mul"
  eq_at : PySem.W.findIn K (.ref (CRatio K)) "__eq__" = some (some (.ref (He.ma K (CRatio K) "__eq__")))
  eq_fn : PySem.W.isFn K (.ref (He.ma K (CRatio K) "__eq__")) = true
  ne_at : PySem.W.findIn K (.ref (CRatio K)) "__ne__" = some (some (.builtin "object.__ne__"))
end Lc
set_option Elab.async false
set_option linter.all false
set_option maxRecDepth 100000
set_option maxHeartbeats 4000000
namespace Lc
open PySem PySem.Spec PyProof.Rows L2 LcR He
section
variable {K : PySem.W.Frag} {h : Heap} {mg : Str → Option Value}
theorem int_rel (X : K.In h) (G : h.Ns mainGlobals mg) {x : Str} {i : Int} (c : (Fa.int x i).ok K = true) : ∃ u, mg x = some u ∧ RelV (.int i) u := by
  obtain ⟨t, e⟩ := He.int_ok X G c
  exact ⟨_, e, ⟨t, rfl⟩⟩
theorem str_rel (X : K.In h) (G : h.Ns mainGlobals mg) {x z : Str} (c : (Fa.str x z).ok K = true) : ∃ u, mg x = some u ∧ RelV (.str z) u := by
  obtain ⟨t, e⟩ := He.str_ok X G c
  exact ⟨_, e, ⟨t, rfl⟩⟩
def nsB (x : Str) (v : Value) (K : PySem.W.Frag) : Bool := eqO (PySem.W.nsIn K mainGlobals x) (some (some v))
theorem nsB_ok (X : K.In h) (G : h.Ns mainGlobals mg) {x : Str} {v : Value} (c : nsB x v K = true) : mg x = some v := PySem.W.mg_of X G (eqO_ok c)
def opB (m : String) (K : PySem.W.Frag) : Bool := PySem.W.selfFirst K (CRatio K) && (eqO (PySem.W.findIn K (.ref (CRatio K)) (PySem.dunder m)) (some (some (.ref (He.ma K (CRatio K) (PySem.dunder m))))) && PySem.W.isFn K (.ref (He.ma K (CRatio K) (PySem.dunder m))))
theorem opB_ok {m : String} (c : opB m K = true) : OpF K (CRatio K) (He.ma K (CRatio K) (PySem.dunder m)) (PySem.dunder m) := by
  obtain ⟨c1, c⟩ := ba c
  obtain ⟨c2, c3⟩ := ba c
  exact ⟨c1, eqO_ok c2, c3⟩
def oprB (m : String) (K : PySem.W.Frag) : Bool := (match PySem.W.findIn K (.ref (CRatio K)) (dunderR m) with
  | some none => true
  | some (some (.ref _)) => true
  | _ => false) && ((PySem.W.findIn K (.type "int") (PySem.dunder m)).isSome && ((PySem.W.findIn K (.type "int") (dunderR m)).isSome && decide (PySem.W.subIn K (.type "int") (.ref (CRatio K)) = some false)))
theorem oprB_ok {m : String} (c : oprB m K = true) : OpRf K (CRatio K) m := by
  obtain ⟨c1, c⟩ := ba c
  obtain ⟨c2, c⟩ := ba c
  obtain ⟨c3, c4⟩ := ba c
  refine ⟨?_, ⟨_, Option.eq_some_of_isSome c2⟩, ⟨_, Option.eq_some_of_isSome c3⟩, of_decide_eq_true c4⟩
  cases e : PySem.W.findIn K (.ref (CRatio K)) (dunderR m) with
  | none =>
    rw [e] at c1
    cases c1
  | some r =>
    rw [e] at c1
    cases r with
    | none => exact ⟨_, rfl, .inl rfl⟩
    | some v =>
      cases v with
      | ref g => exact ⟨_, rfl, .inr ⟨g, rfl⟩⟩
      | _ => cases c1
end
/-! ### the hook: what stands at the names that the law needs -/
def outs (g : Addr → Option Obj) (as : List Addr) : List Addr := as.flatMap fun a => match g a with
  | some o => refsD o
  | none => []
def asX (ns : List Str) (g : Addr → Option Obj) : List Addr :=
  let l1 := ns.map (ga (frG g [mainGlobals]))
  let l2 := outs g l1
  let l3 := outs g l2
  let l4 := outs g l3
  mainGlobals :: (l1 ++ (l2 ++ (l3 ++ l4)))
def obsX (fa : List Fa) (ex : List (PySem.W.Frag → Bool)) (fn : List DefD) (K : PySem.W.Frag) : AlD := ((fa.all fun f => f.ok K) && ((ex.all fun f => f K) && fn.all fun d => d.ok K), fn.map fun d => fnW K d.at_)
def SaysX (fa : List Fa) (ex : List (PySem.W.Frag → Bool)) (fn : List DefD) (K : PySem.W.Frag) : Prop := obsX fa ex fn K = valD fn
def obsXG (ns : List Str) (fa : List Fa) (ex : List (PySem.W.Frag → Bool)) (fn : List DefD) (g : Addr → Option Obj) : AlD := obsX fa ex fn (frG g (asX ns g))
def hookX (ns : List Str) (fa : List Fa) (ex : List (PySem.W.Frag → Bool)) (fn : List DefD) : PySem.W.Hook where
  α := AlD
  obs := fun s => obsXG ns fa ex fn s.heap.get?
  val := fun _ => valD fn
  says := fun _ h => ∃ K : PySem.W.Frag, K.In h ∧ SaysX fa ex fn K
  of := fun _ _ e => ⟨_, frG_in, e⟩
  keeps := fun _ _ _ ⟨K, hK, c⟩ k => ⟨K, PySem.W.Frag.In.keeps hK k, c⟩
theorem obsXG_eq {ns : List Str} {fa : List Fa} {ex : List (PySem.W.Frag → Bool)} {fn : List DefD} {g : Addr → Option Obj} {s : Shared} (h : ∀ a, g a = s.heap.get? a) : obsXG ns fa ex fn g = (hookX ns fa ex fn).obs s := by
  have e : g = s.heap.get? := funext h
  rw [e] <;> rfl
section
variable {fa : List Fa} {ex : List (PySem.W.Frag → Bool)} {fn : List DefD} {K : PySem.W.Frag}
theorem SaysX.fact (c : SaysX fa ex fn K) (i : Nat) {f : Fa} (h : fa[i]? = some f) : f.ok K = true := by
  have c1 := (ba (show ((fa.all fun f => f.ok K) && ((ex.all fun f => f K) && fn.all fun d => d.ok K)) = true from congrArg (fun z : AlD => z.1) c)).1
  exact List.all_eq_true.mp c1 f (List.mem_of_getElem? h)
theorem SaysX.more (c : SaysX fa ex fn K) (i : Nat) {f : PySem.W.Frag → Bool} (h : ex[i]? = some f) : f K = true := by
  have c1 := (ba (ba (show ((fa.all fun f => f.ok K) && ((ex.all fun f => f K) && fn.all fun d => d.ok K)) = true from congrArg (fun z : AlD => z.1) c)).2).1
  exact List.all_eq_true.mp c1 f (List.mem_of_getElem? h)
theorem SaysX.def_ (c : SaysX fa ex fn K) (i : Nat) {d : DefD} (h : fn[i]? = some d) : ∃ fd, FunD K d.name d.qual d.params d.body d.scope (d.dvs K) (d.kws K) (fAd K d.at_) fd := by
  have c2 := (ba (ba (show ((fa.all fun f => f.ok K) && ((ex.all fun f => f K) && fn.all fun d => d.ok K)) = true from congrArg (fun z : AlD => z.1) c)).2).2
  have e : fn.map (fun d => fnW K d.at_) = fn.map DefD.val := congrArg (fun z : AlD => z.2) c
  have e2 : (fn.map fun d => fnW K d.at_)[i]? = (fn.map DefD.val)[i]? := by rw [e]
  rw [List.getElem?_map, List.getElem?_map, h] at e2
  exact DefD.funD (Option.some.inj e2) (List.all_eq_true.mp c2 d (List.mem_of_getElem? h))
end
def d_is_integer : DefD := ⟨("is_integer", none), "is_integer", "is_integer", defArgs s_is_integer, defBody s_is_integer, defScope s_is_integer, [], []⟩
def d_is_within : DefD := ⟨("is_within", none), "is_within", "is_within", defArgs s_is_within, defBody s_is_within, defScope s_is_within, [], []⟩
def d_is_name : DefD := ⟨("is_name", none), "is_name", "is_name", defArgs s_is_name, defBody s_is_name, defScope s_is_name, [], []⟩
def d_is_lot : DefD := ⟨("is_lot", none), "is_lot", "is_lot", defArgs s_is_lot, defBody s_is_lot, defScope s_is_lot, [], []⟩
def d_top_of : DefD := ⟨("top_of", none), "top_of", "top_of", defArgs s_top_of, defBody s_top_of, defScope s_top_of, [], []⟩
def d_bottom_of : DefD := ⟨("bottom_of", none), "bottom_of", "bottom_of", defArgs s_bottom_of, defBody s_bottom_of, defScope s_bottom_of, [], []⟩
def d_is_measures : DefD := ⟨("is_measures", none), "is_measures", "is_measures", defArgs s_is_measures, defBody s_is_measures, defScope s_is_measures, [], []⟩
def d_is_pay : DefD := ⟨("is_pay", none), "is_pay", "is_pay", defArgs s_is_pay, defBody s_is_pay, defScope s_is_pay, [], []⟩
def d_is_outcome : DefD := ⟨("is_outcome", none), "is_outcome", "is_outcome", defArgs s_is_outcome, defBody s_is_outcome, defScope s_is_outcome, [], []⟩
def d_is_act : DefD := ⟨("is_act", none), "is_act", "is_act", defArgs s_is_act, defBody s_is_act, defScope s_is_act, [], []⟩
def d_need_parts : DefD := ⟨("need_parts", none), "need_parts", "need_parts", defArgs s_need_parts, defBody s_need_parts, defScope s_need_parts, [], []⟩
def d_steps_from : DefD := ⟨("steps_from", none), "steps_from", "steps_from", defArgs s_steps_from, defBody s_steps_from, defScope s_steps_from, [], []⟩
def d_lots_of_acts : DefD := ⟨("lots_of_acts", none), "lots_of_acts", "lots_of_acts", defArgs s_lots_of_acts, defBody s_lots_of_acts, defScope s_lots_of_acts, [], []⟩
def d_need_house : DefD := ⟨("need_house", none), "need_house", "need_house", defArgs s_need_house, defBody s_need_house, defScope s_need_house, [], []⟩
def d_need_state : DefD := ⟨("need_state", none), "need_state", "need_state", defArgs s_need_state, defBody s_need_state, defScope s_need_state, [], []⟩
def d_parts_in : DefD := ⟨("parts_in", none), "parts_in", "parts_in", defArgs s_parts_in, defBody s_parts_in, defScope s_parts_in, [], []⟩
def d_made_anew : DefD := ⟨("made_anew", none), "made_anew", "made_anew", defArgs s_made_anew, defBody s_made_anew, defScope s_made_anew, [], []⟩
def d_copied : DefD := ⟨("copied", none), "copied", "copied", defArgs s_copied, defBody s_copied, defScope s_copied, [], []⟩
def d_need_goal : DefD := ⟨("need_goal", none), "need_goal", "need_goal", defArgs s_need_goal, defBody s_need_goal, defScope s_need_goal, [], []⟩
def d_targets_of : DefD := ⟨("targets_of", none), "targets_of", "targets_of", defArgs s_targets_of, defBody s_targets_of, defScope s_targets_of, [], []⟩
def d_mean_at : DefD := ⟨("mean_at", none), "mean_at", "mean_at", defArgs s_mean_at, defBody s_mean_at, defScope s_mean_at, [], []⟩
def d_eliminated : DefD := ⟨("eliminated", none), "eliminated", "eliminated", defArgs s_eliminated, defBody s_eliminated, defScope s_eliminated, [], []⟩
def d_solved : DefD := ⟨("solved", none), "solved", "solved", defArgs s_solved, defBody s_solved, defScope s_solved, [], []⟩
def d_led_to : DefD := ⟨("led_to", none), "led_to", "led_to", defArgs s_led_to, defBody s_led_to, defScope s_led_to, [], []⟩
def d_had_by : DefD := ⟨("had_by", none), "had_by", "had_by", defArgs s_had_by, defBody s_had_by, defScope s_had_by, [], []⟩
def d_first_picks : DefD := ⟨("first_picks", none), "first_picks", "first_picks", defArgs s_first_picks, defBody s_first_picks, defScope s_first_picks, [], []⟩
def d_better_pick : DefD := ⟨("better_pick", none), "better_pick", "better_pick", defArgs s_better_pick, defBody s_better_pick, defScope s_better_pick, [], []⟩
def d_best_picks : DefD := ⟨("best_picks", none), "best_picks", "best_picks", defArgs s_best_picks, defBody s_best_picks, defScope s_best_picks, [], []⟩
def d_ranked : DefD := ⟨("ranked", none), "ranked", "ranked", defArgs s_ranked, defBody s_ranked, defScope s_ranked, [], []⟩
def d_greatest_coming : DefD := ⟨("greatest_coming", none), "greatest_coming", "greatest_coming", defArgs s_greatest_coming, defBody s_greatest_coming, defScope s_greatest_coming, [], []⟩
def d_law_pen : DefD := ⟨("_law_pen", none), "_law_pen", "_law_pen", defArgs s_law_pen, defBody s_law_pen, defScope s_law_pen, [], []⟩
def d_law_draw : DefD := ⟨("_law_draw", none), "_law_draw", "_law_draw", defArgs s_law_draw, defBody s_law_draw, defScope s_law_draw, [], []⟩
def d_law_pick : DefD := ⟨("_law_pick", none), "_law_pick", "_law_pick", defArgs s_law_pick, defBody s_law_pick, defScope s_law_pick, [], []⟩
def d_law_acts : DefD := ⟨("_law_acts", none), "_law_acts", "_law_acts", defArgs s_law_acts, defBody s_law_acts, defScope s_law_acts, [], []⟩
def d_law_changed : DefD := ⟨("_law_changed", none), "_law_changed", "_law_changed", defArgs s_law_changed, defBody s_law_changed, defScope s_law_changed, [], []⟩
def d_law_numbers : DefD := ⟨("_law_numbers", none), "_law_numbers", "_law_numbers", defArgs s_law_numbers, defBody s_law_numbers, defScope s_law_numbers, [], []⟩
def d_law : DefD := ⟨("law", none), "law", "law", defArgs s_law, defBody s_law, defScope s_law, [], []⟩
def d_Ratio_init : DefD := ⟨("Ratio", some "__init__"), "__init__", "Ratio.__init__", defArgs s_Ratio_init, defBody s_Ratio_init, defScope s_Ratio_init, [.int 1], []⟩
def d_Ratio_add : DefD := ⟨("Ratio", some "__add__"), "__add__", "Ratio.__add__", defArgs s_Ratio_add, defBody s_Ratio_add, defScope s_Ratio_add, [], []⟩
def d_Ratio_sub : DefD := ⟨("Ratio", some "__sub__"), "__sub__", "Ratio.__sub__", defArgs s_Ratio_sub, defBody s_Ratio_sub, defScope s_Ratio_sub, [], []⟩
def d_Ratio_mul : DefD := ⟨("Ratio", some "__mul__"), "__mul__", "Ratio.__mul__", defArgs s_Ratio_mul, defBody s_Ratio_mul, defScope s_Ratio_mul, [], []⟩
def d_Ratio_eq : DefD := ⟨("Ratio", some "__eq__"), "__eq__", "Ratio.__eq__", defArgs s_Ratio_eq, defBody s_Ratio_eq, defScope s_Ratio_eq, [], []⟩
def d_Ratio_over : DefD := ⟨("Ratio", some "over"), "over", "Ratio.over", defArgs s_Ratio_over, defBody s_Ratio_over, defScope s_Ratio_over, [], []⟩
def d_Ratio_is_below : DefD := ⟨("Ratio", some "is_below"), "is_below", "Ratio.is_below", defArgs s_Ratio_is_below, defBody s_Ratio_is_below, defScope s_Ratio_is_below, [], []⟩
def d_Step_init : DefD := ⟨("Step", some "__init__"), "__init__", "Step.__init__", defArgs s_Step_init, defBody s_Step_init, defScope s_Step_init, [], []⟩
def d_House_init : DefD := ⟨("House", some "__init__"), "__init__", "House.__init__", defArgs s_House_init, defBody s_House_init, defScope s_House_init, [.non], []⟩
def d_House_acts_at : DefD := ⟨("House", some "acts_at"), "acts_at", "House.acts_at", defArgs s_House_acts_at, defBody s_House_acts_at, defScope s_House_acts_at, [], []⟩
def d_House_steps_of : DefD := ⟨("House", some "steps_of"), "steps_of", "House.steps_of", defArgs s_House_steps_of, defBody s_House_steps_of, defScope s_House_steps_of, [], []⟩
def d_Coming_init : DefD := ⟨("Coming", some "__init__"), "__init__", "Coming.__init__", defArgs s_Coming_init, defBody s_Coming_init, defScope s_Coming_init, [], []⟩
def ex0 : PySem.W.Frag → Bool := nsB "gcd" (.builtin "math.gcd")
def ex1 : PySem.W.Frag → Bool := fun K => eqO (PySem.W.findIn K (.ref (CRatio K)) "__class__") (some (some (.builtin "object.__class__")))
def ex2 : PySem.W.Frag → Bool := fun K => decide (PySem.W.mroIn K (CRatio K) (.type "object") = some true)
def ex3 : PySem.W.Frag → Bool := fun K => decide (PySem.W.kitOne K (.ref (CRatio K)) (.ref (CRatio K)) = some true)
def ex4 : PySem.W.Frag → Bool := fun K => eqO (PySem.W.findIn K (.ref (CStep K)) "__class__") (some (some (.builtin "object.__class__")))
def ex5 : PySem.W.Frag → Bool := fun K => decide (PySem.W.mroIn K (CStep K) (.type "object") = some true)
def ex6 : PySem.W.Frag → Bool := fun K => decide (PySem.W.kitOne K (.ref (CStep K)) (.ref (CStep K)) = some true)
def ex7 : PySem.W.Frag → Bool := fun K => eqO (PySem.W.findIn K (.ref (CHouse K)) "__class__") (some (some (.builtin "object.__class__")))
def ex8 : PySem.W.Frag → Bool := fun K => decide (PySem.W.mroIn K (CHouse K) (.type "object") = some true)
def ex9 : PySem.W.Frag → Bool := fun K => decide (PySem.W.kitOne K (.ref (CHouse K)) (.ref (CHouse K)) = some true)
def ex10 : PySem.W.Frag → Bool := fun K => eqO (PySem.W.findIn K (.ref (CComing K)) "__class__") (some (some (.builtin "object.__class__")))
def ex11 : PySem.W.Frag → Bool := fun K => decide (PySem.W.mroIn K (CComing K) (.type "object") = some true)
def ex12 : PySem.W.Frag → Bool := fun K => decide (PySem.W.kitOne K (.ref (CComing K)) (.ref (CComing K)) = some true)
def ex13 : PySem.W.Frag → Bool := fun K => decide (PySem.W.kitOne K (.ref (CRatio K)) (.type "int") = some false)
def ex14 : PySem.W.Frag → Bool := fun K => decide (PySem.W.kitOne K (.ref (CRatio K)) (.type "bool") = some false)
def ex15 : PySem.W.Frag → Bool := fun K => decide (PySem.W.kitOne K (.ref (CRatio K)) (.type "tuple") = some false)
def ex16 : PySem.W.Frag → Bool := fun K => decide (PySem.W.kitOne K (.ref (CRatio K)) (.type "list") = some false)
def ex17 : PySem.W.Frag → Bool := fun K => decide (PySem.W.kitOne K (.ref (CRatio K)) (.type "dict") = some false)
def ex18 : PySem.W.Frag → Bool := fun K => decide (PySem.W.kitOne K (.ref (CRatio K)) (.type "str") = some false)
def ex19 : PySem.W.Frag → Bool := fun K => decide (PySem.W.kitOne K (.type "int") (.ref (CRatio K)) = some false)
def ex20 : PySem.W.Frag → Bool := fun K => decide (PySem.W.specialIn K (.builtin "object.__class__") "__get__" = some (some (.builtin "getset_descriptor.__get__")))
def ex21 : PySem.W.Frag → Bool := fun K => decide (PySem.W.takesIn K (.builtin "object.__class__") = some true)
def ex22 : PySem.W.Frag → Bool := opB "add"
def ex23 : PySem.W.Frag → Bool := oprB "add"
def ex24 : PySem.W.Frag → Bool := opB "sub"
def ex25 : PySem.W.Frag → Bool := oprB "sub"
def ex26 : PySem.W.Frag → Bool := opB "mul"
def ex27 : PySem.W.Frag → Bool := oprB "mul"
def ex28 : PySem.W.Frag → Bool := fun K => eqO (PySem.W.findIn K (.ref (CRatio K)) "__eq__") (some (some (.ref (He.ma K (CRatio K) "__eq__"))))
def ex29 : PySem.W.Frag → Bool := fun K => PySem.W.isFn K (.ref (He.ma K (CRatio K) "__eq__"))
def ex30 : PySem.W.Frag → Bool := fun K => eqO (PySem.W.findIn K (.ref (CRatio K)) "__ne__") (some (some (.builtin "object.__ne__")))
def nsL0 : List Str := [("Ratio" : Str), ("Step" : Str), ("House" : Str), ("Coming" : Str), ("is_integer" : Str), ("is_within" : Str), ("is_name" : Str), ("is_lot" : Str), ("top_of" : Str), ("bottom_of" : Str), ("is_measures" : Str), ("is_pay" : Str), ("is_outcome" : Str), ("is_act" : Str), ("need_parts" : Str), ("steps_from" : Str), ("lots_of_acts" : Str), ("need_house" : Str), ("need_state" : Str), ("parts_in" : Str), ("made_anew" : Str), ("copied" : Str), ("need_goal" : Str), ("targets_of" : Str), ("mean_at" : Str), ("eliminated" : Str), ("solved" : Str), ("led_to" : Str), ("had_by" : Str), ("first_picks" : Str)]
def nsL1 : List Str := [("better_pick" : Str), ("best_picks" : Str), ("ranked" : Str), ("greatest_coming" : Str), ("_law_pen" : Str), ("_law_draw" : Str), ("_law_pick" : Str), ("_law_acts" : Str), ("_law_changed" : Str), ("_law_numbers" : Str), ("law" : Str)]
def nsL : List Str := nsL0 ++ nsL1
def faL0 : List Fa := [.free "int", .free "bool", .free "str", .free "tuple", .free "list", .free "dict", .free "len", .free "isinstance", .free "range", .free "zip", .free "enumerate", .free "sorted", .free "min", .free "sum", .free "all", .free "abs", .free "any", .free "repr", .free "set", .glo "Ratio", .glo "Step", .glo "House", .glo "Coming", .glo "is_integer", .glo "is_within", .glo "is_name", .glo "is_lot", .glo "top_of", .glo "bottom_of", .glo "is_measures"]
def faL1 : List Fa := [.glo "is_pay", .glo "is_outcome", .glo "is_act", .glo "need_parts", .glo "steps_from", .glo "lots_of_acts", .glo "need_house", .glo "need_state", .glo "parts_in", .glo "made_anew", .glo "copied", .glo "need_goal", .glo "targets_of", .glo "mean_at", .glo "eliminated", .glo "solved", .glo "led_to", .glo "had_by", .glo "first_picks", .glo "better_pick", .glo "best_picks", .glo "ranked", .glo "greatest_coming", .glo "_law_pen", .glo "_law_draw", .glo "_law_pick", .glo "_law_acts", .glo "_law_changed", .glo "_law_numbers", .glo "law"]
def faL2 : List Fa := [.str "LETTERS" "abcdefghijklmnopqrstuvwxyz", .int "MOST_LETTERS" 8, .int "MOST_STATES" 200, .int "MOST_ACTS" 600, .int "MOST_STEPS" 1200, .int "MOST_ODDS" 1000, .int "MOST_TIME" 1000, .int "MOST_PAY" 999999999999, .int "MOST_MEASURES" 4, .int "MOST_EVENTS" 200, .cls "Ratio", .mkr "Ratio", .noat "Ratio" "top", .noat "Ratio" "bottom", .cls "Step", .mkr "Step", .noat "Step" "act", .noat "Step" "source", .noat "Step" "target", .noat "Step" "odds", .noat "Step" "time", .noat "Step" "pays", .cls "House", .mkr "House", .noat "House" "states", .noat "House" "start", .noat "House" "measures", .noat "House" "acts", .noat "House" "steps", .noat "House" "lots"]
def faL3 : List Fa := [.noat "House" "lots_of", .cls "Coming", .mkr "Coming", .noat "Coming" "numbers", .noat "Coming" "picks", .noat "Coming" "ranks", .meth "Ratio" "over", .meth "Ratio" "is_below", .meth "House" "acts_at", .meth "House" "steps_of"]
def faL : List Fa := faL0 ++ faL1 ++ faL2 ++ faL3
def exL0 : List (PySem.W.Frag → Bool) := [ex0, ex1, ex2, ex3, ex4, ex5, ex6, ex7, ex8, ex9, ex10, ex11, ex12, ex13, ex14, ex15, ex16, ex17, ex18, ex19, ex20, ex21, ex22, ex23, ex24, ex25, ex26, ex27, ex28, ex29]
def exL1 : List (PySem.W.Frag → Bool) := [ex30]
def exL : List (PySem.W.Frag → Bool) := exL0 ++ exL1
def fnL0 : List DefD := [d_is_integer, d_is_within, d_is_name, d_is_lot, d_top_of, d_bottom_of, d_is_measures, d_is_pay, d_is_outcome, d_is_act, d_need_parts, d_steps_from, d_lots_of_acts, d_need_house, d_need_state, d_parts_in, d_made_anew, d_copied, d_need_goal, d_targets_of, d_mean_at, d_eliminated, d_solved, d_led_to, d_had_by, d_first_picks, d_better_pick, d_best_picks, d_ranked, d_greatest_coming]
def fnL1 : List DefD := [d_law_pen, d_law_draw, d_law_pick, d_law_acts, d_law_changed, d_law_numbers, d_law, d_Ratio_init, d_Ratio_add, d_Ratio_sub, d_Ratio_mul, d_Ratio_eq, d_Ratio_over, d_Ratio_is_below, d_Step_init, d_House_init, d_House_acts_at, d_House_steps_of, d_Coming_init]
def fnL : List DefD := fnL0 ++ fnL1
theorem tx_of {K : PySem.W.Frag} {h : Heap} {mg : Str → Option Value} (X : K.In h) (G : h.Ns mainGlobals mg) (c : SaysX faL exL fnL K) : Tx K mg where
  b_int := He.free_ok X G (c.fact 0 (f := .free "int") rfl)
  b_bool := He.free_ok X G (c.fact 1 (f := .free "bool") rfl)
  b_str := He.free_ok X G (c.fact 2 (f := .free "str") rfl)
  b_tuple := He.free_ok X G (c.fact 3 (f := .free "tuple") rfl)
  b_list := He.free_ok X G (c.fact 4 (f := .free "list") rfl)
  b_dict := He.free_ok X G (c.fact 5 (f := .free "dict") rfl)
  b_len := He.free_ok X G (c.fact 6 (f := .free "len") rfl)
  b_isinstance := He.free_ok X G (c.fact 7 (f := .free "isinstance") rfl)
  b_range := He.free_ok X G (c.fact 8 (f := .free "range") rfl)
  b_zip := He.free_ok X G (c.fact 9 (f := .free "zip") rfl)
  b_enumerate := He.free_ok X G (c.fact 10 (f := .free "enumerate") rfl)
  b_sorted := He.free_ok X G (c.fact 11 (f := .free "sorted") rfl)
  b_min := He.free_ok X G (c.fact 12 (f := .free "min") rfl)
  b_sum := He.free_ok X G (c.fact 13 (f := .free "sum") rfl)
  b_all := He.free_ok X G (c.fact 14 (f := .free "all") rfl)
  b_abs := He.free_ok X G (c.fact 15 (f := .free "abs") rfl)
  b_any := He.free_ok X G (c.fact 16 (f := .free "any") rfl)
  b_repr := He.free_ok X G (c.fact 17 (f := .free "repr") rfl)
  b_set := He.free_ok X G (c.fact 18 (f := .free "set") rfl)
  g_Ratio := He.glo_ok X G (c.fact 19 (f := .glo "Ratio") rfl)
  g_Step := He.glo_ok X G (c.fact 20 (f := .glo "Step") rfl)
  g_House := He.glo_ok X G (c.fact 21 (f := .glo "House") rfl)
  g_Coming := He.glo_ok X G (c.fact 22 (f := .glo "Coming") rfl)
  g_is_integer := He.glo_ok X G (c.fact 23 (f := .glo "is_integer") rfl)
  g_is_within := He.glo_ok X G (c.fact 24 (f := .glo "is_within") rfl)
  g_is_name := He.glo_ok X G (c.fact 25 (f := .glo "is_name") rfl)
  g_is_lot := He.glo_ok X G (c.fact 26 (f := .glo "is_lot") rfl)
  g_top_of := He.glo_ok X G (c.fact 27 (f := .glo "top_of") rfl)
  g_bottom_of := He.glo_ok X G (c.fact 28 (f := .glo "bottom_of") rfl)
  g_is_measures := He.glo_ok X G (c.fact 29 (f := .glo "is_measures") rfl)
  g_is_pay := He.glo_ok X G (c.fact 30 (f := .glo "is_pay") rfl)
  g_is_outcome := He.glo_ok X G (c.fact 31 (f := .glo "is_outcome") rfl)
  g_is_act := He.glo_ok X G (c.fact 32 (f := .glo "is_act") rfl)
  g_need_parts := He.glo_ok X G (c.fact 33 (f := .glo "need_parts") rfl)
  g_steps_from := He.glo_ok X G (c.fact 34 (f := .glo "steps_from") rfl)
  g_lots_of_acts := He.glo_ok X G (c.fact 35 (f := .glo "lots_of_acts") rfl)
  g_need_house := He.glo_ok X G (c.fact 36 (f := .glo "need_house") rfl)
  g_need_state := He.glo_ok X G (c.fact 37 (f := .glo "need_state") rfl)
  g_parts_in := He.glo_ok X G (c.fact 38 (f := .glo "parts_in") rfl)
  g_made_anew := He.glo_ok X G (c.fact 39 (f := .glo "made_anew") rfl)
  g_copied := He.glo_ok X G (c.fact 40 (f := .glo "copied") rfl)
  g_need_goal := He.glo_ok X G (c.fact 41 (f := .glo "need_goal") rfl)
  g_targets_of := He.glo_ok X G (c.fact 42 (f := .glo "targets_of") rfl)
  g_mean_at := He.glo_ok X G (c.fact 43 (f := .glo "mean_at") rfl)
  g_eliminated := He.glo_ok X G (c.fact 44 (f := .glo "eliminated") rfl)
  g_solved := He.glo_ok X G (c.fact 45 (f := .glo "solved") rfl)
  g_led_to := He.glo_ok X G (c.fact 46 (f := .glo "led_to") rfl)
  g_had_by := He.glo_ok X G (c.fact 47 (f := .glo "had_by") rfl)
  g_first_picks := He.glo_ok X G (c.fact 48 (f := .glo "first_picks") rfl)
  g_better_pick := He.glo_ok X G (c.fact 49 (f := .glo "better_pick") rfl)
  g_best_picks := He.glo_ok X G (c.fact 50 (f := .glo "best_picks") rfl)
  g_ranked := He.glo_ok X G (c.fact 51 (f := .glo "ranked") rfl)
  g_greatest_coming := He.glo_ok X G (c.fact 52 (f := .glo "greatest_coming") rfl)
  g_law_pen := He.glo_ok X G (c.fact 53 (f := .glo "_law_pen") rfl)
  g_law_draw := He.glo_ok X G (c.fact 54 (f := .glo "_law_draw") rfl)
  g_law_pick := He.glo_ok X G (c.fact 55 (f := .glo "_law_pick") rfl)
  g_law_acts := He.glo_ok X G (c.fact 56 (f := .glo "_law_acts") rfl)
  g_law_changed := He.glo_ok X G (c.fact 57 (f := .glo "_law_changed") rfl)
  g_law_numbers := He.glo_ok X G (c.fact 58 (f := .glo "_law_numbers") rfl)
  g_law := He.glo_ok X G (c.fact 59 (f := .glo "law") rfl)
  k_LETTERS := str_rel X G (c.fact 60 (f := .str "LETTERS" "abcdefghijklmnopqrstuvwxyz") rfl)
  k_MOST_LETTERS := int_rel X G (c.fact 61 (f := .int "MOST_LETTERS" 8) rfl)
  k_MOST_STATES := int_rel X G (c.fact 62 (f := .int "MOST_STATES" 200) rfl)
  k_MOST_ACTS := int_rel X G (c.fact 63 (f := .int "MOST_ACTS" 600) rfl)
  k_MOST_STEPS := int_rel X G (c.fact 64 (f := .int "MOST_STEPS" 1200) rfl)
  k_MOST_ODDS := int_rel X G (c.fact 65 (f := .int "MOST_ODDS" 1000) rfl)
  k_MOST_TIME := int_rel X G (c.fact 66 (f := .int "MOST_TIME" 1000) rfl)
  k_MOST_PAY := int_rel X G (c.fact 67 (f := .int "MOST_PAY" 999999999999) rfl)
  k_MOST_MEASURES := int_rel X G (c.fact 68 (f := .int "MOST_MEASURES" 4) rfl)
  k_MOST_EVENTS := int_rel X G (c.fact 69 (f := .int "MOST_EVENTS" 200) rfl)
  gcd := nsB_ok X G (c.more 0 (f := ex0) rfl)
  f_is_integer := c.def_ 0 (d := d_is_integer) rfl
  f_is_within := c.def_ 1 (d := d_is_within) rfl
  f_is_name := c.def_ 2 (d := d_is_name) rfl
  f_is_lot := c.def_ 3 (d := d_is_lot) rfl
  f_top_of := c.def_ 4 (d := d_top_of) rfl
  f_bottom_of := c.def_ 5 (d := d_bottom_of) rfl
  f_is_measures := c.def_ 6 (d := d_is_measures) rfl
  f_is_pay := c.def_ 7 (d := d_is_pay) rfl
  f_is_outcome := c.def_ 8 (d := d_is_outcome) rfl
  f_is_act := c.def_ 9 (d := d_is_act) rfl
  f_need_parts := c.def_ 10 (d := d_need_parts) rfl
  f_steps_from := c.def_ 11 (d := d_steps_from) rfl
  f_lots_of_acts := c.def_ 12 (d := d_lots_of_acts) rfl
  f_need_house := c.def_ 13 (d := d_need_house) rfl
  f_need_state := c.def_ 14 (d := d_need_state) rfl
  f_parts_in := c.def_ 15 (d := d_parts_in) rfl
  f_made_anew := c.def_ 16 (d := d_made_anew) rfl
  f_copied := c.def_ 17 (d := d_copied) rfl
  f_need_goal := c.def_ 18 (d := d_need_goal) rfl
  f_targets_of := c.def_ 19 (d := d_targets_of) rfl
  f_mean_at := c.def_ 20 (d := d_mean_at) rfl
  f_eliminated := c.def_ 21 (d := d_eliminated) rfl
  f_solved := c.def_ 22 (d := d_solved) rfl
  f_led_to := c.def_ 23 (d := d_led_to) rfl
  f_had_by := c.def_ 24 (d := d_had_by) rfl
  f_first_picks := c.def_ 25 (d := d_first_picks) rfl
  f_better_pick := c.def_ 26 (d := d_better_pick) rfl
  f_best_picks := c.def_ 27 (d := d_best_picks) rfl
  f_ranked := c.def_ 28 (d := d_ranked) rfl
  f_greatest_coming := c.def_ 29 (d := d_greatest_coming) rfl
  f_law_pen := c.def_ 30 (d := d_law_pen) rfl
  f_law_draw := c.def_ 31 (d := d_law_draw) rfl
  f_law_pick := c.def_ 32 (d := d_law_pick) rfl
  f_law_acts := c.def_ 33 (d := d_law_acts) rfl
  f_law_changed := c.def_ 34 (d := d_law_changed) rfl
  f_law_numbers := c.def_ 35 (d := d_law_numbers) rfl
  f_law := c.def_ 36 (d := d_law) rfl
  f_Ratio_init := c.def_ 37 (d := d_Ratio_init) rfl
  f_Ratio_add := c.def_ 38 (d := d_Ratio_add) rfl
  f_Ratio_sub := c.def_ 39 (d := d_Ratio_sub) rfl
  f_Ratio_mul := c.def_ 40 (d := d_Ratio_mul) rfl
  f_Ratio_eq := c.def_ 41 (d := d_Ratio_eq) rfl
  f_Ratio_over := c.def_ 42 (d := d_Ratio_over) rfl
  f_Ratio_is_below := c.def_ 43 (d := d_Ratio_is_below) rfl
  f_Step_init := c.def_ 44 (d := d_Step_init) rfl
  f_House_init := c.def_ 45 (d := d_House_init) rfl
  f_House_acts_at := c.def_ 46 (d := d_House_acts_at) rfl
  f_House_steps_of := c.def_ 47 (d := d_House_steps_of) rfl
  f_Coming_init := c.def_ 48 (d := d_Coming_init) rfl
  cl_Ratio := He.cls_ok (c.fact 70 (f := .cls "Ratio") rfl)
  mk_Ratio := He.mkr_ok (c.fact 71 (f := .mkr "Ratio") rfl)
  na_Ratio_top := He.noat_ok (c.fact 72 (f := .noat "Ratio" "top") rfl)
  na_Ratio_bottom := He.noat_ok (c.fact 73 (f := .noat "Ratio" "bottom") rfl)
  ha_Ratio := eqO_ok (c.more 1 (f := ex1) rfl)
  hm_Ratio := of_decide_eq_true (c.more 2 (f := ex2) rfl)
  ki_Ratio := of_decide_eq_true (c.more 3 (f := ex3) rfl)
  cl_Step := He.cls_ok (c.fact 74 (f := .cls "Step") rfl)
  mk_Step := He.mkr_ok (c.fact 75 (f := .mkr "Step") rfl)
  na_Step_act := He.noat_ok (c.fact 76 (f := .noat "Step" "act") rfl)
  na_Step_source := He.noat_ok (c.fact 77 (f := .noat "Step" "source") rfl)
  na_Step_target := He.noat_ok (c.fact 78 (f := .noat "Step" "target") rfl)
  na_Step_odds := He.noat_ok (c.fact 79 (f := .noat "Step" "odds") rfl)
  na_Step_time := He.noat_ok (c.fact 80 (f := .noat "Step" "time") rfl)
  na_Step_pays := He.noat_ok (c.fact 81 (f := .noat "Step" "pays") rfl)
  ha_Step := eqO_ok (c.more 4 (f := ex4) rfl)
  hm_Step := of_decide_eq_true (c.more 5 (f := ex5) rfl)
  ki_Step := of_decide_eq_true (c.more 6 (f := ex6) rfl)
  cl_House := He.cls_ok (c.fact 82 (f := .cls "House") rfl)
  mk_House := He.mkr_ok (c.fact 83 (f := .mkr "House") rfl)
  na_House_states := He.noat_ok (c.fact 84 (f := .noat "House" "states") rfl)
  na_House_start := He.noat_ok (c.fact 85 (f := .noat "House" "start") rfl)
  na_House_measures := He.noat_ok (c.fact 86 (f := .noat "House" "measures") rfl)
  na_House_acts := He.noat_ok (c.fact 87 (f := .noat "House" "acts") rfl)
  na_House_steps := He.noat_ok (c.fact 88 (f := .noat "House" "steps") rfl)
  na_House_lots := He.noat_ok (c.fact 89 (f := .noat "House" "lots") rfl)
  na_House_lots_of := He.noat_ok (c.fact 90 (f := .noat "House" "lots_of") rfl)
  ha_House := eqO_ok (c.more 7 (f := ex7) rfl)
  hm_House := of_decide_eq_true (c.more 8 (f := ex8) rfl)
  ki_House := of_decide_eq_true (c.more 9 (f := ex9) rfl)
  cl_Coming := He.cls_ok (c.fact 91 (f := .cls "Coming") rfl)
  mk_Coming := He.mkr_ok (c.fact 92 (f := .mkr "Coming") rfl)
  na_Coming_numbers := He.noat_ok (c.fact 93 (f := .noat "Coming" "numbers") rfl)
  na_Coming_picks := He.noat_ok (c.fact 94 (f := .noat "Coming" "picks") rfl)
  na_Coming_ranks := He.noat_ok (c.fact 95 (f := .noat "Coming" "ranks") rfl)
  ha_Coming := eqO_ok (c.more 10 (f := ex10) rfl)
  hm_Coming := of_decide_eq_true (c.more 11 (f := ex11) rfl)
  ki_Coming := of_decide_eq_true (c.more 12 (f := ex12) rfl)
  kr_int := of_decide_eq_true (c.more 13 (f := ex13) rfl)
  kr_bool := of_decide_eq_true (c.more 14 (f := ex14) rfl)
  kr_tuple := of_decide_eq_true (c.more 15 (f := ex15) rfl)
  kr_list := of_decide_eq_true (c.more 16 (f := ex16) rfl)
  kr_dict := of_decide_eq_true (c.more 17 (f := ex17) rfl)
  kr_str := of_decide_eq_true (c.more 18 (f := ex18) rfl)
  kn_int := of_decide_eq_true (c.more 19 (f := ex19) rfl)
  hn := of_decide_eq_true (c.more 20 (f := ex20) rfl)
  htk := of_decide_eq_true (c.more 21 (f := ex21) rfl)
  me_Ratio_over := He.meth_ok (c.fact 96 (f := .meth "Ratio" "over") rfl)
  me_Ratio_is_below := He.meth_ok (c.fact 97 (f := .meth "Ratio" "is_below") rfl)
  me_House_acts_at := He.meth_ok (c.fact 98 (f := .meth "House" "acts_at") rfl)
  me_House_steps_of := He.meth_ok (c.fact 99 (f := .meth "House" "steps_of") rfl)
  op_add := opB_ok (c.more 22 (f := ex22) rfl)
  opr_add := oprB_ok (c.more 23 (f := ex23) rfl)
  op_sub := opB_ok (c.more 24 (f := ex24) rfl)
  opr_sub := oprB_ok (c.more 25 (f := ex25) rfl)
  op_mul := opB_ok (c.more 26 (f := ex26) rfl)
  opr_mul := oprB_ok (c.more 27 (f := ex27) rfl)
  eq_at := eqO_ok (c.more 28 (f := ex28) rfl)
  eq_fn := id (c.more 29 (f := ex29) rfl)
  ne_at := eqO_ok (c.more 30 (f := ex30) rfl)
end Lc
set_option Elab.async false
set_option linter.all false
set_option maxRecDepth 100000
set_option maxHeartbeats 0
namespace Hd
open PySem PySem.Spec PyProof.Rows L2
abbrev LAW := PySem.Challenge.rw_longchances_k79_whole_coming_in_changed
abbrev R : PySem.W.OpenRow := PySem.W.OpenLaw.row LAW
abbrev hk : PySem.W.Hook := Lc.hookX Lc.nsL Lc.faL Lc.exL Lc.fnL
def ob (s : PySem.W.SharedT) : He.AlD := Lc.obsXG Lc.nsL Lc.faL Lc.exL Lc.fnL (HandSHeadRun.getT s)
theorem ob_eq (s : PySem.W.SharedT) : ob s = hk.obs s.abs := Lc.obsXG_eq (HandSHeadRun.getT_eq s)
def loose0 : List Str := ["_wall", "LETTERS", "SIGNS", "MOST_LETTERS", "MOST_SIGNS", "is_integer", "is_within", "is_name", "is_event", "is_lot", "OddsError", "BadNumber", "BadRatio", "BadHouse", "BadAct", "BadGoal", "NoState", "NoAct", "NoStep", "NoEvent", "TooMany", "top_of", "bottom_of", "Ratio", "HOUSE", "PART", "MORE", "OR", "joined", "act_words"]
def loose1 : List Str := ["house_words", "MOST_STATES", "MOST_ACTS", "MOST_STEPS", "MOST_ODDS", "MOST_TIME", "MOST_PAY", "MOST_MEASURES", "MOST_EVENTS", "EVERY", "NEVER", "Step", "are_alike_paid", "is_measures", "is_pay", "is_outcome", "is_act", "is_lot_of", "is_events", "need_parts", "steps_from", "lots_of_acts", "need_house", "need_state", "House", "parts_in", "made_anew", "copied", "Coming", "need_goal"]
def loose2 : List Str := ["targets_of", "mean_at", "eliminated", "solved", "led_to", "had_by", "first_picks", "better_pick", "best_picks", "ranked", "greatest_coming", "_law_pen", "_law_draw", "_law_pick", "_law_acts", "_law_changed", "_law_numbers"]
def loose : List Str := loose0 ++ loose1 ++ loose2
theorem run (w : World) : HandSHeadRun.RunEqI R (PySem.W.view R.prog [0, 86]) hk ob 20000 loose w := by
  unfold HandSHeadRun.RunEqI
  kernel_rfl
end Hd
set_option Elab.async false
set_option linter.all false
set_option maxRecDepth 100000
set_option maxHeartbeats 4000000
namespace Lc
open PySem PySem.Spec PyProof.Rows L2 LcR
section
variable {P : Program} {w : World} {K : PySem.W.Frag} {mg : Str → Option Value} {base : Heap}
theorem calD {x : Str} {st : Stmt} {f : Addr} {fd : FuncData} {N ps : List Str} {k : Nat} {sp : Sp} (F : FunD K x x (defArgs st) (defBody st) (defScope st) [] [] f fd) (hm : mg x = some (.ref f)) (S : FnScope N ps (defScope st))
    (hb : ∀ (kV doc pm : Value) (an : Option Addr) (cdv ct : Value) (us : List Value), us.length = ps.length → bindArgs (PySem.W.fnOf x x (defArgs st) (defBody st) (defScope st) .none kV doc pm an cdv ct) ⟨us, []⟩ = pure (ps.zip us))
    (len : ∀ vs H Q E, sp vs H Q E → vs.length = ps.length)
    (hbody : ∀ (cdv : Value) (A : Around) (outer : List Env) (s : Shared) (H : Hp) (vs : List V) (Q : VK) (E : XK), Room k (A.deeper (envOfC x (defScope st) s.heap.objs.size f cdv)) → sp vs H Q E →
      ∃ t, PSs (cxOf CX0 P w K mg base N x (defScope st) f cdv A outer s H E).nox (defBody st) t ∧ t { nx := fun _ H' => Q .non H', rt := Q } (start N vs) H) : C8.Cal P w K mg base (k + 1) x sp [] :=
  ⟨f, fd, ps, [], F.ok S len fun cdv A outer s H vs Q E hr h => (hbody cdv A outer s H vs Q E hr h).imp fun _ z => ⟨z.1.nox, z.2⟩, hm, F.kp, F.bindsN hb, .nil⟩
theorem fnD {x qual : Str} {st : Stmt} {f : Addr} {fd : FuncData} {N ps : List Str} {dvs : List V} {k : Nat} {sp : Sp} (F : FunD K x qual (defArgs st) (defBody st) (defScope st) dvs [] f fd) (S : FnScope N ps (defScope st))
    (len : ∀ vs H Q E, sp vs H Q E → vs.length = ps.length)
    (hbody : ∀ (cdv : Value) (A : Around) (outer : List Env) (s : Shared) (H : Hp) (vs : List V) (Q : VK) (E : XK), Room k (A.deeper (envOfC qual (defScope st) s.heap.objs.size f cdv)) → sp vs H Q E →
      ∃ t, PSs (cxOf CX0 P w K mg base N qual (defScope st) f cdv A outer s H E).nox (defBody st) t ∧ t { nx := fun _ H' => Q .non H', rt := Q } (start N vs) H) : FnOk P w K mg base CX0 (k + 1) f fd ps sp :=
  F.ok S len fun cdv A outer s H vs Q E hr h => (hbody cdv A outer s H vs Q E hr h).imp fun _ z => ⟨z.1.nox, z.2⟩
end
/-! ### fractions in the heap -/
def flR (q : Rat) : List (Str × V) := [("top", .int q.num), ("bottom", .int (q.den : Int))]
/-- the value v is a Ratio that is q -/
def IsR (K : PySem.W.Frag) (H : Hp) (v : V) (q : Rat) : Prop := ∃ a dx, v = .ref a ∧ H a = some (.ins (CRatio K) dx (flR q))
theorem IsR.same {K : PySem.W.Frag} {H H' : Hp} {v : V} {q : Rat} (h : IsR K H v q) (s : Same H H') : IsR K H' v q := by
  obtain ⟨a, dx, rfl, e⟩ := h
  exact ⟨a, dx, rfl, s _ _ e⟩
/-- a Ratio or an int -/
def IsN (K : PySem.W.Frag) (H : Hp) (v : V) (q : Rat) : Prop := IsR K H v q ∨ ∃ i : Int, v = .int i ∧ q = (i : Rat)
theorem ty_R {K : PySem.W.Frag} {mg : Str → Option Value} {H : Hp} (T : Tx K mg) {a dx : Addr} {fs : List (Str × V)} (e : H a = some (.ins (CRatio K) dx fs)) : TyX K H (.ref a) (.ref (CRatio K)) :=
  .base (.ins e T.cl_Ratio T.ha_Ratio T.hn T.htk T.hm_Ratio)
section
variable {P : Program} {w : World} {K : PySem.W.Frag} {mg : Str → Option Value} {base : Heap}
/-! ### is_integer, is_within of ints -/
def sp_is_integer : Sp := fun vs H Q _ => ∃ i, vs = [.int i] ∧ Q (.bl true) H
theorem c_is_integer (T : Tx K mg) : C8.Cal P w K mg base 1 "is_integer" sp_is_integer [] := by
  obtain ⟨fd, F⟩ := T.f_is_integer
  refine calD F T.g_is_integer sc_is_integer (fun _ _ _ _ _ _ us hl => match us, hl with | [_], _ => rfl) (fun vs H Q E h => ?_) (fun cdv A outer s H vs Q E hr h => ?_)
  · obtain ⟨_, rfl, _⟩ := h; rfl
  obtain ⟨i, rfl, k⟩ := h
  refine ⟨_, (pss_one (ps_ret (pe_and (pe_callB call_isi (by rfl) T.b_isinstance (by decide +kernel) (pa_cons (pv 0) (pa_cons (pe_bltn (v := .ty "int") (by rfl) T.b_int (by decide +kernel) rfl) pa_nil))) (pe_one (pe_not (pe_callB call_isi (by rfl) T.b_isinstance (by decide +kernel) (pa_cons (pv 0) (pa_cons (pe_bltn (v := .ty "bool") (by rfl) T.b_bool (by decide +kernel) rfl) pa_nil)))))))), ?_⟩
  refine ⟨_, rfl, _, _, _, _, true, rfl, .ty _, .base (.int i), kit_ty (by decide +kernel), true, rfl, iteT ?_⟩
  exact ⟨_, rfl, _, _, _, _, false, rfl, .ty _, .base (.int i), kit_ty (by decide +kernel), false, rfl, k⟩
def sp_is_within : Sp := fun vs H Q _ => ∃ i lo hi, vs = [.int i, .int lo, .int hi] ∧ lo ≤ i ∧ i ≤ hi ∧ Q (.bl true) H
theorem c_is_within (T : Tx K mg) : C8.Cal P w K mg base 2 "is_within" sp_is_within [] := by
  obtain ⟨fd, F⟩ := T.f_is_within
  refine calD F T.g_is_within sc_is_within (fun _ _ _ _ _ _ us hl => match us, hl with | [_, _, _], _ => rfl) (fun vs H Q E h => ?_) (fun cdv A outer s H vs Q E hr h => ?_)
  · obtain ⟨_, _, _, rfl, _⟩ := h; rfl
  obtain ⟨i, lo, hi, rfl, h1, h2, k⟩ := h
  refine ⟨_, (pss_one (ps_ret (pe_and (C8.pe_c (c_is_integer T) hr (by decide) (by rfl) (pa_cons (pv 0) pa_nil)) (pe_one (pe_chain op_le op_le (pv 1) (pv 0) (pv 2)))))), ?_⟩
  refine ⟨_, rfl, i, rfl, true, rfl, iteT ?_⟩
  refine ⟨_, rfl, _, rfl, _, _, rfl, rfl, true, by simp [h1], iteT ⟨_, rfl, _, _, rfl, rfl, ?_⟩⟩
  simpa [h2] using k
/-! ### top_of, bottom_of -/
def sp_top_of (K : PySem.W.Frag) : Sp := fun vs H Q _ => ∃ v q, vs = [v] ∧ IsN K H v q ∧ Q (.int q.num) H
theorem c_top_of (T : Tx K mg) : C8.Cal P w K mg base 2 "top_of" (sp_top_of K) [] := by
  obtain ⟨fd, F⟩ := T.f_top_of
  refine calD F T.g_top_of sc_top_of (fun _ _ _ _ _ _ us hl => match us, hl with | [_], _ => rfl) (fun vs H Q E h => ?_) (fun cdv A outer s H vs Q E hr h => ?_)
  · obtain ⟨_, _, rfl, _⟩ := h; rfl
  obtain ⟨v, q, rfl, hv, k⟩ := h
  refine ⟨_, (pss_cons (ps_if (pt_val (pe_callB call_isi (by rfl) T.b_isinstance (by decide +kernel) (pa_cons (pv 0) (pa_cons (pe_glob (v := .ref (CRatio K)) (by rfl) T.g_Ratio rfl) pa_nil)))) (pss_one (ps_ret (pe_fld (pv 0) rfl))) pss_nil)
      (pss_cons (ps_if (pt_not (pt_val (C8.pe_c (c_is_integer T) hr (by decide) (by rfl) (pa_cons (pv 0) pa_nil)))) (pss_one ps_never) pss_nil)
      (pss_one (ps_ret (pv 0))))), ?_⟩
  rcases hv with ⟨a, dx, rfl, e⟩ | ⟨i, rfl, rfl⟩
  · refine ⟨_, rfl, _, _, _, _, true, rfl, .own _, ty_R T e, T.ki_Ratio, true, rfl, iteT ?_⟩
    exact ⟨_, rfl, a, _, dx, _, _, rfl, e, T.cl_Ratio, T.na_Ratio_top, rfl, k⟩
  · refine ⟨_, rfl, _, _, _, _, false, rfl, .own _, .base (.int i), T.kn_int, false, rfl, iteF ?_⟩
    refine ⟨_, rfl, i, rfl, true, rfl, iteF ?_⟩
    exact ⟨_, rfl, by simpa using k⟩
end
end Lc
set_option linter.all false
namespace LC
/-! ### fractions by top and bottom -/
/-- what __init__ divides by -/
def shr (t b : Int) : Int := if b > 0 then ((Nat.gcd t.natAbs b.natAbs : Nat) : Int) else -((Nat.gcd t.natAbs b.natAbs : Nat) : Int)
theorem gcd_pos {t b : Int} (h : b ≠ 0) : 0 < Nat.gcd t.natAbs b.natAbs := Nat.gcd_pos_of_pos_right _ (Int.natAbs_pos.mpr h)
theorem shr_ne {t b : Int} (h : b ≠ 0) : shr t b ≠ 0 := by
  have := gcd_pos (t := t) h
  unfold shr
  split <;> omega
theorem shr_abs {t b : Int} : (shr t b).natAbs = Nat.gcd t.natAbs b.natAbs := by
  unfold shr
  split <;> simp
theorem shr_le {t b : Int} (h : b ≠ 0) : (shr t b).natAbs ≤ b.natAbs := by
  rw [shr_abs]; exact Nat.gcd_le_right _ (Int.natAbs_pos.mpr h)
theorem fdiv_num {t b : Int} (h : b ≠ 0) : t.fdiv (shr t b) = (Rat.divInt t b).num := by
  have hg := gcd_pos (t := t) h
  rw [Rat.num_divInt]
  have e : (b.gcd t : Int) = ((Nat.gcd t.natAbs b.natAbs : Nat) : Int) := by unfold Int.gcd; rw [Nat.gcd_comm]
  rw [e]
  obtain ⟨c, hc⟩ : ((Nat.gcd t.natAbs b.natAbs : Nat) : Int) ∣ t := Int.ofNat_dvd_left.mpr (Nat.gcd_dvd_left _ _)
  generalize hG : ((Nat.gcd t.natAbs b.natAbs : Nat) : Int) = G at *
  have G0 : 0 < G := by omega
  unfold shr
  rw [hG]
  split
  · rename_i hb
    rw [Int.sign_eq_one_of_pos hb, Int.one_mul, Int.fdiv_eq_ediv_of_nonneg _ (by omega)]
  · have hb : b < 0 := by omega
    rw [Int.sign_eq_neg_one_of_neg hb, hc]
    have e1 : -1 * (G * c) = G * (-c) := by grind
    have e2 : G * c = (-G) * (-c) := by grind
    rw [e1, Int.mul_ediv_cancel_left _ (by omega), e2, Int.mul_fdiv_cancel_left _ (by omega)]
theorem fdiv_den {t b : Int} (h : b ≠ 0) : b.fdiv (shr t b) = ((Rat.divInt t b).den : Int) := by
  have hg := gcd_pos (t := t) h
  rw [Rat.den_divInt, if_neg h]
  have e : b.gcd t = Nat.gcd t.natAbs b.natAbs := by unfold Int.gcd; rw [Nat.gcd_comm]
  rw [e]
  obtain ⟨c, hc⟩ : ((Nat.gcd t.natAbs b.natAbs : Nat) : Int) ∣ b := Int.ofNat_dvd_left.mpr (Nat.gcd_dvd_right _ _)
  have e3 : ((b.natAbs / Nat.gcd t.natAbs b.natAbs : Nat) : Int) = (b.natAbs : Int) / ((Nat.gcd t.natAbs b.natAbs : Nat) : Int) := by simp
  rw [e3]
  generalize hG : ((Nat.gcd t.natAbs b.natAbs : Nat) : Int) = G at *
  have G0 : 0 < G := by omega
  unfold shr
  rw [hG]
  split
  · rename_i hb
    rw [Int.fdiv_eq_ediv_of_nonneg _ (by omega)]
    congr 1
    omega
  · have hb : b < 0 := by omega
    have e4 : (b.natAbs : Int) = G * (-c) := by
      have e5 : (b.natAbs : Int) = -b := by omega
      rw [e5, hc]; grind
    have e2 : b = (-G) * (-c) := by rw [hc]; grind
    rw [e4, Int.mul_ediv_cancel_left _ (by omega)]
    conv => lhs; lhs; rw [e2]
    rw [Int.mul_fdiv_cancel_left _ (by omega)]
theorem nd (q : Rat) : (q.num : Rat) / ((q.den : Nat) : Rat) = q := by
  have := Rat.num_divInt_den q
  rw [Rat.divInt_eq_div, Rat.intCast_natCast] at this
  exact this
theorem den_ne (q : Rat) : ((q.den : Nat) : Rat) ≠ 0 := by
  have : 0 < ((q.den : Nat) : Rat) := by
    have : ((0 : Nat) : Rat) < (q.den : Rat) := Rat.natCast_lt_natCast.mpr q.den_pos
    simpa using this
  grind
/-- the four operations by tops and bottoms -/
theorem add_frac (a b : Rat) : Rat.divInt (a.num * (b.den : Int) + b.num * (a.den : Int)) ((a.den : Int) * (b.den : Int)) = a + b := by
  rw [Rat.divInt_eq_div]
  have ha := den_ne a
  have hb := den_ne b
  have e1 := nd a
  have e2 := nd b
  push_cast
  generalize ((a.den : Nat) : Rat) = x at *
  generalize ((b.den : Nat) : Rat) = y at *
  generalize (a.num : Rat) = p at *
  generalize (b.num : Rat) = q at *
  rw [← e1, ← e2]
  grind
theorem sub_frac (a b : Rat) : Rat.divInt (a.num * (b.den : Int) - b.num * (a.den : Int)) ((a.den : Int) * (b.den : Int)) = a - b := by
  rw [Rat.divInt_eq_div]
  have ha := den_ne a
  have hb := den_ne b
  have e1 := nd a
  have e2 := nd b
  push_cast
  generalize ((a.den : Nat) : Rat) = x at *
  generalize ((b.den : Nat) : Rat) = y at *
  generalize (a.num : Rat) = p at *
  generalize (b.num : Rat) = q at *
  rw [← e1, ← e2]
  grind
theorem mul_frac (a b : Rat) : Rat.divInt (a.num * b.num) ((a.den : Int) * (b.den : Int)) = a * b := by
  rw [Rat.divInt_eq_div]
  have ha := den_ne a
  have hb := den_ne b
  have e1 := nd a
  have e2 := nd b
  push_cast
  generalize ((a.den : Nat) : Rat) = x at *
  generalize ((b.den : Nat) : Rat) = y at *
  generalize (a.num : Rat) = p at *
  generalize (b.num : Rat) = q at *
  rw [← e1, ← e2]
  grind
theorem num_ne {q : Rat} (h : q ≠ 0) : q.num ≠ 0 := fun e => h (by rw [← Rat.num_eq_zero]; exact e)
theorem div_frac {a b : Rat} (h : b ≠ 0) : Rat.divInt (a.num * (b.den : Int)) ((a.den : Int) * b.num) = a / b := by
  rw [Rat.divInt_eq_div]
  have ha := den_ne a
  have hb := den_ne b
  have hn : (b.num : Rat) ≠ 0 := fun e => num_ne h (by exact_mod_cast e)
  have e1 := nd a
  have e2 := nd b
  push_cast
  generalize ((a.den : Nat) : Rat) = x at *
  generalize ((b.den : Nat) : Rat) = y at *
  generalize (a.num : Rat) = p at *
  generalize (b.num : Rat) = q at *
  rw [← e1, ← e2]
  grind
/-- sizes: the top is below 2 ^ t, the bottom below 2 ^ b -/
def Sz (t b : Nat) (q : Rat) : Prop := q.num.natAbs ≤ 2 ^ t ∧ q.den ≤ 2 ^ b
theorem Sz.mono {t b t' b' : Nat} {q : Rat} (h : Sz t b q) (h1 : t ≤ t') (h2 : b ≤ b') : Sz t' b' q :=
  ⟨Nat.le_trans h.1 (Nat.pow_le_pow_right (by omega) h1), Nat.le_trans h.2 (Nat.pow_le_pow_right (by omega) h2)⟩
theorem sz_divInt {n d : Int} {t b : Nat} (hd : d ≠ 0) (h1 : n.natAbs ≤ 2 ^ t) (h2 : d.natAbs ≤ 2 ^ b) : Sz t b (Rat.divInt n d) := by
  constructor
  · rw [← fdiv_num hd]
    obtain ⟨c, hc⟩ : shr n d ∣ n := by
      rw [← Int.natAbs_dvd_natAbs, shr_abs]; exact Nat.gcd_dvd_left _ _
    have hs := shr_ne (t := n) hd
    have : n.fdiv (shr n d) = c := by
      conv => lhs; lhs; rw [hc]
      exact Int.mul_fdiv_cancel_left _ hs
    rw [this]
    refine Nat.le_trans ?_ h1
    rw [hc, Int.natAbs_mul]
    exact Nat.le_mul_of_pos_left _ (Int.natAbs_pos.mpr hs)
  · rw [Rat.den_divInt, if_neg hd]
    exact Nat.le_trans (Nat.div_le_self _ _) h2
theorem pow_mul_le {a b x y : Nat} (h1 : a ≤ 2 ^ x) (h2 : b ≤ 2 ^ y) : a * b ≤ 2 ^ (x + y) := by
  rw [Nat.pow_add]; exact Nat.mul_le_mul h1 h2
theorem add_top_le {p q : Int} {x : Nat} (h1 : p.natAbs ≤ 2 ^ x) (h2 : q.natAbs ≤ 2 ^ x) : (p + q).natAbs ≤ 2 ^ (x + 1) ∧ (p - q).natAbs ≤ 2 ^ (x + 1) := by
  have e : 2 ^ (x + 1) = 2 ^ x + 2 ^ x := by rw [Nat.pow_succ]; omega
  rw [e]
  omega
theorem Sz.add {a b : Rat} {t u x y : Nat} (h : Sz t x a) (k : Sz u y b) : Sz (max (t + y) (u + x) + 1) (x + y) (a + b) := by
  rw [← add_frac]
  have d1 := a.den_pos
  have d2 := b.den_pos
  refine sz_divInt (by have := Int.mul_pos (by omega : (0 : Int) < a.den) (by omega : (0 : Int) < b.den); omega) (add_top_le ?_ ?_).1 ?_
  · rw [Int.natAbs_mul]; exact Nat.le_trans (pow_mul_le h.1 (by simpa using k.2)) (Nat.pow_le_pow_right (by omega) (Nat.le_max_left _ _))
  · rw [Int.natAbs_mul]; exact Nat.le_trans (pow_mul_le k.1 (by simpa using h.2)) (Nat.pow_le_pow_right (by omega) (Nat.le_max_right _ _))
  · rw [Int.natAbs_mul]; exact pow_mul_le (by simpa using h.2) (by simpa using k.2)
theorem Sz.sub {a b : Rat} {t u x y : Nat} (h : Sz t x a) (k : Sz u y b) : Sz (max (t + y) (u + x) + 1) (x + y) (a - b) := by
  rw [← sub_frac]
  have d1 := a.den_pos
  have d2 := b.den_pos
  refine sz_divInt (by have := Int.mul_pos (by omega : (0 : Int) < a.den) (by omega : (0 : Int) < b.den); omega) (add_top_le ?_ ?_).2 ?_
  · rw [Int.natAbs_mul]; exact Nat.le_trans (pow_mul_le h.1 (by simpa using k.2)) (Nat.pow_le_pow_right (by omega) (Nat.le_max_left _ _))
  · rw [Int.natAbs_mul]; exact Nat.le_trans (pow_mul_le k.1 (by simpa using h.2)) (Nat.pow_le_pow_right (by omega) (Nat.le_max_right _ _))
  · rw [Int.natAbs_mul]; exact pow_mul_le (by simpa using h.2) (by simpa using k.2)
theorem Sz.mul {a b : Rat} {t u x y : Nat} (h : Sz t x a) (k : Sz u y b) : Sz (t + u) (x + y) (a * b) := by
  rw [← mul_frac]
  have d1 := a.den_pos
  have d2 := b.den_pos
  refine sz_divInt (by have := Int.mul_pos (by omega : (0 : Int) < a.den) (by omega : (0 : Int) < b.den); omega) ?_ ?_
  · rw [Int.natAbs_mul]; exact pow_mul_le h.1 k.1
  · rw [Int.natAbs_mul]; exact pow_mul_le (by simpa using h.2) (by simpa using k.2)
theorem Sz.div {a b : Rat} {t u x y : Nat} (h : Sz t x a) (k : Sz u y b) (hb : b ≠ 0) : Sz (t + y) (x + u) (a / b) := by
  rw [← div_frac hb]
  have d1 := a.den_pos
  have hn := num_ne hb
  refine sz_divInt (fun e => by rcases Int.mul_eq_zero.mp e with e | e <;> omega) ?_ ?_
  · rw [Int.natAbs_mul]; exact pow_mul_le h.1 (by simpa using k.2)
  · rw [Int.natAbs_mul]; exact pow_mul_le (by simpa using h.2) k.1
theorem sz_int {i : Int} {t : Nat} (h : i.natAbs ≤ 2 ^ t) : Sz t 0 (i : Rat) := ⟨by simpa using h, by simp⟩
theorem below_iff (a b : Rat) : (decide (a.num * (b.den : Int) < b.num * (a.den : Int))) = decide (a < b) := by
  simp [Rat.lt_iff]
theorem eq_iff (a b : Rat) : a = b ↔ a.num = b.num ∧ (a.den : Int) = (b.den : Int) := by
  constructor
  · rintro rfl; exact ⟨rfl, rfl⟩
  · rintro ⟨h1, h2⟩; exact Rat.ext h1 (by omega)
end LC
set_option Elab.async false
set_option linter.all false
set_option maxRecDepth 100000
set_option maxHeartbeats 4000000
namespace Lc
open PySem PySem.Spec PyProof.Rows L2 LcR
/-- // by a divisor of either sign below 2 ^ 9000 -/
def CDivA (_ j : Int) : Prop := j ≠ 0 ∧ j.natAbs.log2 < 9000
theorem op_fdivA {X : Cx} : OpR X (binaryOp .FloorDiv) (rI CDivA fun i j => .int (i.fdiv j)) := opI fun i j _ _ _ _ _ hc q => floordiv_int hc.1 q (.inl (PyProof.noPylong_of_log2 hc.2))
theorem hu64 {A : Around} {k : Nat} (hr : Room k A) : A.units + 64 < cLine := hr.units
/-- a product of ints of together at most so many bits -/
theorem mulx {i j : Int} {a b : Nat} (ha : i.natAbs ≤ 2 ^ a) (hb : j.natAbs ≤ 2 ^ b) (h : a + b ≤ 100000) : CMulX i j :=
  mulx_ok (a := a + 1) (b := b + 1) (Nat.lt_of_le_of_lt ha (Nat.pow_lt_pow_right (by omega) (by omega))) (Nat.lt_of_le_of_lt hb (Nat.pow_lt_pow_right (by omega) (by omega))) (by omega)
theorem log2_le {n b : Nat} (h : n ≤ 2 ^ b) (hb : b < 8999) : n.log2 < 9000 := by
  have := PySem.Flt.log2_lt_of (n := n) (k := b + 1) (by omega) (Nat.lt_of_le_of_lt h (Nat.pow_lt_pow_right (by omega) (by omega)))
  omega
section
variable {P : Program} {w : World} {K : PySem.W.Frag} {mg : Str → Option Value} {base : Heap}
def sp_bottom_of (K : PySem.W.Frag) : Sp := fun vs H Q _ => ∃ v q, vs = [v] ∧ IsN K H v q ∧ Q (.int (q.den : Int)) H
theorem c_bottom_of (T : Tx K mg) : C8.Cal P w K mg base 1 "bottom_of" (sp_bottom_of K) [] := by
  obtain ⟨fd, F⟩ := T.f_bottom_of
  refine calD F T.g_bottom_of sc_bottom_of (fun _ _ _ _ _ _ us hl => match us, hl with | [_], _ => rfl) (fun vs H Q E h => ?_) (fun cdv A outer s H vs Q E hr h => ?_)
  · obtain ⟨_, _, rfl, _⟩ := h; rfl
  obtain ⟨v, q, rfl, hv, k⟩ := h
  refine ⟨_, (pss_one (ps_ret (pe_ifExp (pt_val (pe_callB call_isi (by rfl) T.b_isinstance (by decide +kernel) (pa_cons (pv 0) (pa_cons (pe_glob (v := .ref (CRatio K)) (by rfl) T.g_Ratio rfl) pa_nil)))) (pe_fld (pv 0) rfl) pe_int))), ?_⟩
  rcases hv with ⟨a, dx, rfl, e⟩ | ⟨i, rfl, rfl⟩
  · refine ⟨_, rfl, _, _, _, _, true, rfl, .own _, ty_R T e, T.ki_Ratio, true, rfl, iteT ?_⟩
    exact ⟨_, rfl, a, _, dx, _, _, rfl, e, T.cl_Ratio, T.na_Ratio_bottom, rfl, k⟩
  · refine ⟨_, rfl, _, _, _, _, false, rfl, .own _, .base (.int i), T.kn_int, false, rfl, iteF ?_⟩
    have z : Q (.int 1) H := by simpa using k
    exact z
/-! ### Ratio(top, bottom) -/
def sp_Ratio_init (K : PySem.W.Frag) : Sp := fun vs H Q _ => ∃ a dx t b n, vs = [.ref a, .int t, .int b] ∧ b ≠ 0 ∧ b.natAbs ≤ 2 ^ n ∧ n < 8999 ∧ H a = some (.ins (CRatio K) dx []) ∧
  ∀ q : Rat, q = Rat.divInt t b → Q .non (upd H a (.ins (CRatio K) dx (flR q)))
theorem k_tb : ¬ (("top" : Str) = "bottom") := by decide +kernel
theorem ok_Ratio_init (T : Tx K mg) {f : Addr} {fd : FuncData} (F : FunD K "__init__" "Ratio.__init__" (defArgs s_Ratio_init) (defBody s_Ratio_init) (defScope s_Ratio_init) [.int 1] [] f fd) : FnOk P w K mg base CX0 2 f fd P_Ratio_init (sp_Ratio_init K) := by
  refine fnD F sc_Ratio_init (fun vs H Q E h => ?_) (fun cdv A outer s H vs Q E hr h => ?_)
  · obtain ⟨_, _, _, _, _, rfl, _⟩ := h; rfl
  obtain ⟨a, dx, t, b, n, rfl, hb, hn, hn2, ha, k⟩ := h
  refine ⟨_, (pss_cons (ps_if (pt_not (pt_val (C8.pe_c (c_is_integer T) hr (by decide) (by rfl) (pa_cons (pv 1) pa_nil)))) (pss_one ps_never) pss_nil)
      (pss_cons (ps_if (PW.pt (pw_or (pt_not (pt_val (C8.pe_c (c_is_integer T) hr (by decide) (by rfl) (pa_cons (pv 2) pa_nil)))) (pw_or1 (pt_cmpR op_eq (pv 2) pe_int (nomark _))))) (pss_one ps_never) pss_nil)
      (pss_cons (ps_set (i := 3) sc_Ratio_init.nd rfl (Or.inl rfl) (pe_ifExp (pt_cmpR op_gt (pv 2) pe_int (nomark _)) (pe_callBfun cr_gcd (by rfl) T.gcd (pa_cons (pv 1) (pa_cons (pv 2) pa_nil))) (pe_un un_neg (pe_callBfun cr_gcd (by rfl) T.gcd (pa_cons (pv 1) (pa_cons (pv 2) pa_nil))))))
      (pss_cons (ps_fld (pv 0) (pe_op op_fdivA (pv 1) (pv 3)) rfl)
      (pss_one (ps_fld (pv 0) (pe_op op_fdivA (pv 2) (pv 3)) rfl)))))), ?_⟩
  refine ⟨_, rfl, t, rfl, true, rfl, iteF ?_⟩
  refine ⟨_, rfl, b, rfl, true, rfl, iteF ?_⟩
  refine ⟨_, rfl, rfl, false, by simp [hb], iteF ?_⟩
  have key : ∀ sh : Int, sh = LC.shr t b → (tSeq (sFld K (tVar 0) (tOp (rI CDivA fun i j => .int (i.fdiv j)) (tVar 1) (tVar 3)) "top") (sFld K (tVar 0) (tOp (rI CDivA fun i j => .int (i.fdiv j)) (tVar 2) (tVar 3)) "bottom")) { nx := fun _ H' => Q .non H', rt := Q } [some (.ref a), some (.int t), some (.int b), some (.int sh)] H := by
    rintro sh rfl
    have c : ∀ x, CDivA x (LC.shr t b) := fun x => ⟨LC.shr_ne hb, log2_le (Nat.le_trans (LC.shr_le hb) hn) hn2⟩
    refine ⟨_, rfl, _, rfl, _, _, rfl, rfl, c _, _, rfl, a, _, dx, _, rfl, ha, T.cl_Ratio, T.na_Ratio_top, (by decide), ?_⟩
    refine ⟨_, rfl, _, rfl, _, _, rfl, rfl, c _, _, rfl, a, _, dx, _, rfl, upd_same, T.cl_Ratio, T.na_Ratio_bottom, (by show 1 < 1000; decide), ?_⟩
    have e : putF "bottom" (V.int (b.fdiv (LC.shr t b))) (putF "top" (V.int (t.fdiv (LC.shr t b))) []) = flR (Rat.divInt t b) := by
      rw [LC.fdiv_num hb, LC.fdiv_den hb]
      show (if ("top" : Str) = "bottom" then _ else _) = _
      rw [if_neg k_tb]
      rfl
    have := k _ rfl
    rw [upd_upd, e]
    exact this
  refine ⟨_, rfl, b, 0, rfl, rfl, decide (0 < b), rfl, ite2 (fun h0 => ?_) (fun h0 => ?_)⟩
  · refine ⟨_, rfl, _, rfl, t, b, rfl, ?_⟩
    exact key _ (by unfold LC.shr; rw [if_pos (of_decide_eq_true h0)])
  · refine ⟨_, rfl, _, rfl, t, b, rfl, _, rfl, ?_⟩
    exact key _ (by unfold LC.shr; rw [if_neg (fun z => h0 (decide_eq_true z))])
theorem bind_Ratio (T : Tx K mg) {f : Addr} {fd : FuncData} (F : FunD K "__init__" "Ratio.__init__" (defArgs s_Ratio_init) (defBody s_Ratio_init) (defScope s_Ratio_init) [.int 1] [] f fd) :
    Binds K fd P_Ratio_init [] ∧ ∃ ds, Vals [V.int 1] ds ∧ Binds K fd P_Ratio_init ds := by
  constructor
  · obtain ⟨ds, v, b⟩ := F.binds1 (ps := P_Ratio_init) 3 1 (by simp) rfl (fun _ _ _ _ _ _ _ us its h1 h2 => match us, h1, its, h2 with | [_, _, _], _, [_], _ => ⟨_, rfl, rfl⟩)
    cases v
    exact b
  · exact F.binds1 (ps := P_Ratio_init) 2 0 (by simp) rfl (fun _ _ _ _ _ _ _ us its h1 h2 => match us, h1, its, h2 with | [_, _], _, [_], _ => ⟨_, rfl, rfl⟩)
theorem c_Ratio_2 (T : Tx K mg) : C8.Mak P w K mg base 2 "Ratio" (CRatio K) (sp_Ratio_init K) [] := by
  obtain ⟨fd, F⟩ := T.f_Ratio_init
  exact ⟨_, fd, P_Ratio_init, [], T.mk_Ratio, ok_Ratio_init T F, T.g_Ratio, (bind_Ratio T F).1, .nil⟩
theorem c_Ratio_1 (T : Tx K mg) : C8.Mak P w K mg base 2 "Ratio" (CRatio K) (sp_Ratio_init K) [.int 1] := by
  obtain ⟨fd, F⟩ := T.f_Ratio_init
  obtain ⟨ds, v, b⟩ := (bind_Ratio T F).2
  exact ⟨_, fd, P_Ratio_init, ds, T.mk_Ratio, ok_Ratio_init T F, T.g_Ratio, b, v⟩
end
end Lc
set_option Elab.async false
set_option linter.all false
set_option maxRecDepth 100000
set_option maxHeartbeats 4000000
namespace Lc
open PySem PySem.Spec PyProof.Rows L2 LcR
open LC (Sz)
theorem same_made {H : Hp} {x dx : Addr} {o : HO} (hx : H x = none) (hd : H dx = none) : Same H (upd (upd H dx (.own x)) x o) := fun b u e => by
  rw [upd_ne (ne_of_none e hx), upd_ne (ne_of_none e hd)]
  exact e
theorem same_upd {H : Hp} {p : Addr} {o : HO} (h : H p = none) : Same H (upd H p o) := fun b u e => by rw [upd_ne (ne_of_none e h)]; exact e
/-- a Ratio is made -/
theorem made_R {K : PySem.W.Frag} {H : Hp} {Q : VK} {E : XK} {vs : List V} {t b : Int} {n : Nat} (hv : vs = [.int t, .int b]) (hb : b ≠ 0) (h1 : b.natAbs ≤ 2 ^ n) (h2 : n < 8999) (k : ∀ H' v, Same H H' → IsR K H' v (Rat.divInt t b) → Q v H') :
    ∀ x dx, H x = none → H dx = none → dx ≠ x → sp_Ratio_init K (.ref x :: vs) (upd (upd H dx (.own x)) x (.ins (CRatio K) dx [])) (fun v H2 => v = .non ∧ Q (.ref x) H2) E := by
  intro x dx hx hd ne
  subst hv
  refine ⟨x, dx, t, b, n, rfl, hb, h1, h2, upd_same, fun q hq => ⟨rfl, ?_⟩⟩
  subst hq
  rw [upd_upd]
  exact k _ _ (same_made hx hd) ⟨x, dx, rfl, upd_same⟩
section
variable {P : Program} {w : World} {K : PySem.W.Frag} {mg : Str → Option Value} {base : Heap}
def sp_op (K : PySem.W.Frag) (f : Rat → Rat → Rat) : Sp := fun vs H Q _ => ∃ x y p q t b t' b', vs = [x, y] ∧ IsR K H x p ∧ IsN K H y q ∧ Sz t b p ∧ Sz t' b' q ∧ t + b + t' + b' ≤ 40000 ∧ b + b' < 8999 ∧
  ∀ H' v, Same H H' → IsR K H' v (f p q) → Q v H'
theorem den_nz (a b : Rat) : (a.den : Int) * (b.den : Int) ≠ 0 := by
  have d1 := a.den_pos
  have d2 := b.den_pos
  have := Int.mul_pos (by omega : (0 : Int) < a.den) (by omega : (0 : Int) < b.den)
  omega
theorem den_abs {a : Rat} {t b : Nat} (h : Sz t b a) : ((a.den : Int)).natAbs ≤ 2 ^ b := by simpa using h.2
theorem ok_add (T : Tx K mg) {f : Addr} {fd : FuncData} (F : FunD K "__add__" "Ratio.__add__" (defArgs s_Ratio_add) (defBody s_Ratio_add) (defScope s_Ratio_add) [] [] f fd) : FnOk P w K mg base CX0 4 f fd P_Ratio_add (sp_op K fun p q => p + q) := by
  refine fnD F sc_Ratio_add (fun vs H Q E h => ?_) (fun cdv A outer s H vs Q E hr h => ?_)
  · obtain ⟨_, _, _, _, _, _, _, _, rfl, _⟩ := h; rfl
  obtain ⟨x, y, p, q, t, b, t', b', rfl, hx, hy, hp, hq, h1, h2, k⟩ := h
  obtain ⟨a, dx, rfl, e⟩ := id hx
  refine ⟨_, (pss_one (ps_ret (C8.pe_mk (c_Ratio_2 T) hr (by decide) (by rfl) (pa_cons (pe_op op_add (pe_op op_mulX (pe_fld (pv 0) rfl) (C8.pe_c (c_bottom_of T) hr (by decide) (by rfl) (pa_cons (pv 1) pa_nil))) (pe_op op_mulX (C8.pe_c (c_top_of T) hr (by decide) (by rfl) (pa_cons (pv 1) pa_nil)) (pe_fld (pv 0) rfl))) (pa_cons (pe_op op_mulX (pe_fld (pv 0) rfl) (C8.pe_c (c_bottom_of T) hr (by decide) (by rfl) (pa_cons (pv 1) pa_nil))) pa_nil))))), ?_⟩
  refine ⟨_, rfl, a, _, dx, _, _, rfl, e, T.cl_Ratio, T.na_Ratio_top, rfl, _, rfl, y, q, rfl, hy, _, _, rfl, rfl, mulx hp.1 (den_abs hq) (by omega), ?_⟩
  refine ⟨_, rfl, y, q, rfl, hy, _, rfl, a, _, dx, _, _, rfl, e, T.cl_Ratio, T.na_Ratio_bottom, rfl, _, _, rfl, rfl, mulx hq.1 (den_abs hp) (by omega), _, _, rfl, rfl, ?_⟩
  refine ⟨_, rfl, a, _, dx, _, _, rfl, e, T.cl_Ratio, T.na_Ratio_bottom, rfl, _, rfl, y, q, rfl, hy, _, _, rfl, rfl, mulx (den_abs hp) (den_abs hq) (by omega), ?_⟩
  refine made_R rfl (den_nz p q) (n := b + b') (by rw [Int.natAbs_mul]; exact LC.pow_mul_le (den_abs hp) (den_abs hq)) h2 ?_
  rw [LC.add_frac]
  exact k
theorem ok_sub (T : Tx K mg) {f : Addr} {fd : FuncData} (F : FunD K "__sub__" "Ratio.__sub__" (defArgs s_Ratio_sub) (defBody s_Ratio_sub) (defScope s_Ratio_sub) [] [] f fd) : FnOk P w K mg base CX0 4 f fd P_Ratio_sub (sp_op K fun p q => p - q) := by
  refine fnD F sc_Ratio_sub (fun vs H Q E h => ?_) (fun cdv A outer s H vs Q E hr h => ?_)
  · obtain ⟨_, _, _, _, _, _, _, _, rfl, _⟩ := h; rfl
  obtain ⟨x, y, p, q, t, b, t', b', rfl, hx, hy, hp, hq, h1, h2, k⟩ := h
  obtain ⟨a, dx, rfl, e⟩ := id hx
  refine ⟨_, (pss_one (ps_ret (C8.pe_mk (c_Ratio_2 T) hr (by decide) (by rfl) (pa_cons (pe_op op_sub (pe_op op_mulX (pe_fld (pv 0) rfl) (C8.pe_c (c_bottom_of T) hr (by decide) (by rfl) (pa_cons (pv 1) pa_nil))) (pe_op op_mulX (C8.pe_c (c_top_of T) hr (by decide) (by rfl) (pa_cons (pv 1) pa_nil)) (pe_fld (pv 0) rfl))) (pa_cons (pe_op op_mulX (pe_fld (pv 0) rfl) (C8.pe_c (c_bottom_of T) hr (by decide) (by rfl) (pa_cons (pv 1) pa_nil))) pa_nil))))), ?_⟩
  refine ⟨_, rfl, a, _, dx, _, _, rfl, e, T.cl_Ratio, T.na_Ratio_top, rfl, _, rfl, y, q, rfl, hy, _, _, rfl, rfl, mulx hp.1 (den_abs hq) (by omega), ?_⟩
  refine ⟨_, rfl, y, q, rfl, hy, _, rfl, a, _, dx, _, _, rfl, e, T.cl_Ratio, T.na_Ratio_bottom, rfl, _, _, rfl, rfl, mulx hq.1 (den_abs hp) (by omega), _, _, rfl, rfl, ?_⟩
  refine ⟨_, rfl, a, _, dx, _, _, rfl, e, T.cl_Ratio, T.na_Ratio_bottom, rfl, _, rfl, y, q, rfl, hy, _, _, rfl, rfl, mulx (den_abs hp) (den_abs hq) (by omega), ?_⟩
  refine made_R rfl (den_nz p q) (n := b + b') (by rw [Int.natAbs_mul]; exact LC.pow_mul_le (den_abs hp) (den_abs hq)) h2 ?_
  rw [LC.sub_frac]
  exact k
theorem ok_mul (T : Tx K mg) {f : Addr} {fd : FuncData} (F : FunD K "__mul__" "Ratio.__mul__" (defArgs s_Ratio_mul) (defBody s_Ratio_mul) (defScope s_Ratio_mul) [] [] f fd) : FnOk P w K mg base CX0 4 f fd P_Ratio_mul (sp_op K fun p q => p * q) := by
  refine fnD F sc_Ratio_mul (fun vs H Q E h => ?_) (fun cdv A outer s H vs Q E hr h => ?_)
  · obtain ⟨_, _, _, _, _, _, _, _, rfl, _⟩ := h; rfl
  obtain ⟨x, y, p, q, t, b, t', b', rfl, hx, hy, hp, hq, h1, h2, k⟩ := h
  obtain ⟨a, dx, rfl, e⟩ := id hx
  refine ⟨_, (pss_one (ps_ret (C8.pe_mk (c_Ratio_2 T) hr (by decide) (by rfl) (pa_cons (pe_op op_mulX (pe_fld (pv 0) rfl) (C8.pe_c (c_top_of T) hr (by decide) (by rfl) (pa_cons (pv 1) pa_nil))) (pa_cons (pe_op op_mulX (pe_fld (pv 0) rfl) (C8.pe_c (c_bottom_of T) hr (by decide) (by rfl) (pa_cons (pv 1) pa_nil))) pa_nil))))), ?_⟩
  refine ⟨_, rfl, a, _, dx, _, _, rfl, e, T.cl_Ratio, T.na_Ratio_top, rfl, _, rfl, y, q, rfl, hy, _, _, rfl, rfl, mulx hp.1 hq.1 (by omega), ?_⟩
  refine ⟨_, rfl, a, _, dx, _, _, rfl, e, T.cl_Ratio, T.na_Ratio_bottom, rfl, _, rfl, y, q, rfl, hy, _, _, rfl, rfl, mulx (den_abs hp) (den_abs hq) (by omega), ?_⟩
  refine made_R rfl (den_nz p q) (n := b + b') (by rw [Int.natAbs_mul]; exact LC.pow_mul_le (den_abs hp) (den_abs hq)) h2 ?_
  rw [LC.mul_frac]
  exact k
def sp_over (K : PySem.W.Frag) : Sp := fun vs H Q _ => ∃ x y p q t b t' b', vs = [x, y] ∧ IsR K H x p ∧ IsN K H y q ∧ Sz t b p ∧ Sz t' b' q ∧ t + b + t' + b' ≤ 40000 ∧ b + t' < 8999 ∧ q ≠ 0 ∧
  ∀ H' v, Same H H' → IsR K H' v (p / q) → Q v H'
theorem m_over (T : Tx K mg) : C8.Met P w K mg base 4 (CRatio K) "over" (sp_over K) [] := by
  obtain ⟨fd, F⟩ := T.f_Ratio_over
  refine ⟨_, fd, P_Ratio_over, [], T.cl_Ratio, T.me_Ratio_over, ?_, F.bindsN (fun _ _ _ _ _ _ us hl => match us, hl with | [_, _], _ => rfl), .nil⟩
  refine fnD F sc_Ratio_over (fun vs H Q E h => ?_) (fun cdv A outer s H vs Q E hr h => ?_)
  · obtain ⟨_, _, _, _, _, _, _, _, rfl, _⟩ := h; rfl
  obtain ⟨x, y, p, q, t, b, t', b', rfl, hx, hy, hp, hq, h1, h2, h3, k⟩ := h
  obtain ⟨a, dx, rfl, e⟩ := id hx
  have hn := LC.num_ne h3
  refine ⟨_, (pss_cons (ps_if (pt_cmpR op_eq (C8.pe_c (c_top_of T) hr (by decide) (by rfl) (pa_cons (pv 1) pa_nil)) pe_int (nomark _)) (pss_one ps_never) pss_nil)
      (pss_one (ps_ret (C8.pe_mk (c_Ratio_2 T) hr (by decide) (by rfl) (pa_cons (pe_op op_mulX (pe_fld (pv 0) rfl) (C8.pe_c (c_bottom_of T) hr (by decide) (by rfl) (pa_cons (pv 1) pa_nil))) (pa_cons (pe_op op_mulX (pe_fld (pv 0) rfl) (C8.pe_c (c_top_of T) hr (by decide) (by rfl) (pa_cons (pv 1) pa_nil))) pa_nil)))))), ?_⟩
  refine ⟨_, rfl, y, q, rfl, hy, rfl, false, by simp [hn], iteF ?_⟩
  refine ⟨_, rfl, a, _, dx, _, _, rfl, e, T.cl_Ratio, T.na_Ratio_top, rfl, _, rfl, y, q, rfl, hy, _, _, rfl, rfl, mulx hp.1 (den_abs hq) (by omega), ?_⟩
  refine ⟨_, rfl, a, _, dx, _, _, rfl, e, T.cl_Ratio, T.na_Ratio_bottom, rfl, _, rfl, y, q, rfl, hy, _, _, rfl, rfl, mulx (den_abs hp) hq.1 (by omega), ?_⟩
  refine made_R rfl (fun z => by have := p.den_pos; rcases Int.mul_eq_zero.mp z with z | z <;> omega) (n := b + t') (by rw [Int.natAbs_mul]; exact LC.pow_mul_le (den_abs hp) hq.1) h2 ?_
  rw [LC.div_frac h3]
  exact k
def sp_is_below (K : PySem.W.Frag) : Sp := fun vs H Q _ => ∃ x y p q t b t' b', vs = [x, y] ∧ IsR K H x p ∧ IsN K H y q ∧ Sz t b p ∧ Sz t' b' q ∧ t + b + t' + b' ≤ 40000 ∧ Q (.bl (decide (p < q))) H
theorem m_is_below (T : Tx K mg) : C8.Met P w K mg base 3 (CRatio K) "is_below" (sp_is_below K) [] := by
  obtain ⟨fd, F⟩ := T.f_Ratio_is_below
  refine ⟨_, fd, P_Ratio_is_below, [], T.cl_Ratio, T.me_Ratio_is_below, ?_, F.bindsN (fun _ _ _ _ _ _ us hl => match us, hl with | [_, _], _ => rfl), .nil⟩
  refine fnD F sc_Ratio_is_below (fun vs H Q E h => ?_) (fun cdv A outer s H vs Q E hr h => ?_)
  · obtain ⟨_, _, _, _, _, _, _, _, rfl, _⟩ := h; rfl
  obtain ⟨x, y, p, q, t, b, t', b', rfl, hx, hy, hp, hq, h1, k⟩ := h
  obtain ⟨a, dx, rfl, e⟩ := id hx
  refine ⟨_, (pss_one (ps_ret (pe_cmpR op_lt (pe_op op_mulX (pe_fld (pv 0) rfl) (C8.pe_c (c_bottom_of T) hr (by decide) (by rfl) (pa_cons (pv 1) pa_nil))) (pe_op op_mulX (C8.pe_c (c_top_of T) hr (by decide) (by rfl) (pa_cons (pv 1) pa_nil)) (pe_fld (pv 0) rfl)) (nomark _)))), ?_⟩
  refine ⟨_, rfl, a, _, dx, _, _, rfl, e, T.cl_Ratio, T.na_Ratio_top, rfl, _, rfl, y, q, rfl, hy, _, _, rfl, rfl, mulx hp.1 (den_abs hq) (by omega), ?_⟩
  refine ⟨_, rfl, y, q, rfl, hy, _, rfl, a, _, dx, _, _, rfl, e, T.cl_Ratio, T.na_Ratio_bottom, rfl, _, _, rfl, rfl, mulx hq.1 (den_abs hp) (by omega), _, _, rfl, rfl, ?_⟩
  rw [← LC.below_iff] at k
  exact k
def sp_eqR (K : PySem.W.Frag) : Sp := fun vs H Q _ => ∃ x y p q, vs = [x, y] ∧ IsR K H x p ∧ IsR K H y q ∧ Q (.bl (decide (p = q))) H
theorem ok_eq (T : Tx K mg) {f : Addr} {fd : FuncData} (F : FunD K "__eq__" "Ratio.__eq__" (defArgs s_Ratio_eq) (defBody s_Ratio_eq) (defScope s_Ratio_eq) [] [] f fd) : FnOk P w K mg base CX0 1 f fd P_Ratio_eq (sp_eqR K) := by
  refine fnD F sc_Ratio_eq (fun vs H Q E h => ?_) (fun cdv A outer s H vs Q E hr h => ?_)
  · obtain ⟨_, _, _, _, rfl, _⟩ := h; rfl
  obtain ⟨x, y, p, q, rfl, ⟨a, dx, rfl, e⟩, ⟨b, dy, rfl, e2⟩, k⟩ := h
  refine ⟨_, (pss_one (ps_ret (pe_and (pe_callB call_isi (by rfl) T.b_isinstance (by decide +kernel) (pa_cons (pv 1) (pa_cons (pe_glob (v := .ref (CRatio K)) (by rfl) T.g_Ratio rfl) pa_nil))) (pe_and (pe_cmpR op_eq (pe_fld (pv 0) rfl) (pe_fld (pv 1) rfl) (nomark _)) (pe_one (pe_cmpR op_eq (pe_fld (pv 0) rfl) (pe_fld (pv 1) rfl) (nomark _))))))), ?_⟩
  refine ⟨_, rfl, _, _, _, _, true, rfl, .own _, ty_R T e2, T.ki_Ratio, true, rfl, iteT ?_⟩
  refine ⟨_, rfl, a, _, dx, _, _, rfl, e, T.cl_Ratio, T.na_Ratio_top, rfl, _, rfl, b, _, dy, _, _, rfl, e2, T.cl_Ratio, T.na_Ratio_top, rfl, rfl, _, rfl, ite2 (fun h => ?_) (fun h => ?_)⟩
  · refine ⟨_, rfl, a, _, dx, _, _, rfl, e, T.cl_Ratio, T.na_Ratio_bottom, rfl, _, rfl, b, _, dy, _, _, rfl, e2, T.cl_Ratio, T.na_Ratio_bottom, rfl, rfl, ?_⟩
    have h1 : p.num = q.num := by simpa using of_decide_eq_true h
    have e3 : decide (V.int (p.den : Int) = V.int (q.den : Int)) = decide (p = q) := by
      rw [decide_eq_decide, LC.eq_iff]
      simp [h1]
    rw [e3]
    exact k
  · have h1 : ¬ p.num = q.num := by
      intro z
      exact h (decide_eq_true (by rw [z]))
    have e3 : decide (p = q) = false := decide_eq_false fun z => h1 (by rw [z])
    rw [e3] at k
    exact k
end
end Lc
set_option Elab.async false
set_option linter.all false
set_option maxRecDepth 100000
set_option maxHeartbeats 4000000
namespace Lc
open PySem PySem.Spec PyProof.Rows L2 LcR
open LC (Sz)
/-- a Ratio by a Ratio or an int -/
def rRN (K : PySem.W.Frag) (f : Rat → Rat → Rat) : R2 := fun x y H Q => ∃ p q t b t' b', IsR K H x p ∧ IsN K H y q ∧ Sz t b p ∧ Sz t' b' q ∧ t + b + t' + b' ≤ 40000 ∧ b + b' < 8999 ∧ ∀ H' v, Same H H' → IsR K H' v (f p q) → Q v H'
theorem op_RN {X : Cx} {op : Operator} {nm : String} {f : Addr} {fd : FuncData} {ps : List Str} {g : Rat → Rat → Rat} (T : Tx X.K X.mg) (F : FnOk X.prog X.w X.K X.mg X.base CX0 4 f fd ps (sp_op X.K g)) (hb : Binds X.K fd ps []) (e : op.info.2 = nm)
    (hf : OpF X.K (CRatio X.K) f (PySem.dunder nm)) (hg : OpRf X.K (CRatio X.K) nm) {j : Nat} (hr : Room j X.A) (hj : 4 ≤ j) : OpR X (binaryOp op) (rRN X.K g) := by
  subst e
  have hr4 := hr.mono hj
  intro pins s σ H x y v u Q I rx ry hq
  obtain ⟨p, q, t, b, t', b', hx, hy, h1, h2, h3, h4, k⟩ := hq
  obtain ⟨a, dx, rfl, ea⟩ := id hx
  have sp : sp_op X.K g [V.ref a, y] H Q E0 := ⟨_, _, p, q, t, b, t', b', rfl, hx, hy, h1, h2, h3, h4, k⟩
  rcases hy with ⟨c, dy, rfl, ec⟩ | ⟨i, rfl, _⟩
  · exact op_own F hr4 hb hf pins s σ H _ _ v u Q I rx ry ⟨⟨a, dx, _, rfl, ea⟩, ⟨c, dy, _, rfl, ec⟩, sp⟩
  · obtain ⟨rc, h5, h6⟩ := hg.rc
    obtain ⟨fo, h7⟩ := hg.fo
    obtain ⟨ro, h8⟩ := hg.ro
    exact op_ownI F hr4 hb hf h5 h6 h7 h8 hg.sub pins s σ H _ _ v u Q I rx ry ⟨⟨a, dx, _, rfl, ea⟩, ⟨i, rfl⟩, sp⟩
section
variable {X : Cx} {j : Nat}
theorem op_Radd (T : Tx X.K X.mg) (hr : Room j X.A) (hj : 4 ≤ j) : OpR X (binaryOp .Add) (rRN X.K fun p q => p + q) := by
  obtain ⟨fd, F⟩ := T.f_Ratio_add
  exact op_RN T (ok_add T F) (F.bindsN (ps := P_Ratio_add) (fun _ _ _ _ _ _ us hl => match us, hl with | [_, _], _ => rfl)) rfl T.op_add T.opr_add hr hj
theorem op_Rsub (T : Tx X.K X.mg) (hr : Room j X.A) (hj : 4 ≤ j) : OpR X (binaryOp .Sub) (rRN X.K fun p q => p - q) := by
  obtain ⟨fd, F⟩ := T.f_Ratio_sub
  exact op_RN T (ok_sub T F) (F.bindsN (ps := P_Ratio_sub) (fun _ _ _ _ _ _ us hl => match us, hl with | [_, _], _ => rfl)) rfl T.op_sub T.opr_sub hr hj
theorem op_Rmul (T : Tx X.K X.mg) (hr : Room j X.A) (hj : 4 ≤ j) : OpR X (binaryOp .Mult) (rRN X.K fun p q => p * q) := by
  obtain ⟨fd, F⟩ := T.f_Ratio_mul
  exact op_RN T (ok_mul T F) (F.bindsN (ps := P_Ratio_mul) (fun _ _ _ _ _ _ us hl => match us, hl with | [_, _], _ => rfl)) rfl T.op_mul T.opr_mul hr hj
/-- ==, != of two Ratios -/
def rEqR (K : PySem.W.Frag) : R2 := fun x y H Q => ∃ p q, IsR K H x p ∧ IsR K H y q ∧ Q (.bl (decide (p = q))) H
def rNeR (K : PySem.W.Frag) : R2 := fun x y H Q => ∃ p q, IsR K H x p ∧ IsR K H y q ∧ Q (.bl (!decide (p = q))) H
theorem bind_eq (T : Tx X.K X.mg) {f : Addr} {fd : FuncData} (F : FunD X.K "__eq__" "Ratio.__eq__" (defArgs s_Ratio_eq) (defBody s_Ratio_eq) (defScope s_Ratio_eq) [] [] f fd) : Binds X.K fd P_Ratio_eq [] :=
  F.bindsN (ps := P_Ratio_eq) (fun _ _ _ _ _ _ us hl => match us, hl with | [_, _], _ => rfl)
theorem op_Req (T : Tx X.K X.mg) (hr : Room j X.A) (hj : 4 ≤ j) : OpR X (compareOp .Eq) (rEqR X.K) := by
  obtain ⟨fd, F⟩ := T.f_Ratio_eq
  intro pins s σ H x y v u Q I rx ry hq
  obtain ⟨p, q, hx, hy, k⟩ := hq
  obtain ⟨a, dx, rfl, ea⟩ := id hx
  obtain ⟨c, dy, rfl, ec⟩ := id hy
  exact op_ownEq (ok_eq T F) (hr.mono (by omega)) (bind_eq T F) T.eq_at T.eq_fn pins s σ H _ _ v u Q I rx ry ⟨⟨a, dx, _, rfl, ea⟩, ⟨c, dy, _, rfl, ec⟩, _, _, p, q, rfl, hx, hy, k⟩
theorem op_Rne (T : Tx X.K X.mg) (hr : Room j X.A) (hj : 4 ≤ j) : OpR X (compareOp .NotEq) (rNeR X.K) := by
  obtain ⟨fd, F⟩ := T.f_Ratio_eq
  intro pins s σ H x y v u Q I rx ry hq
  obtain ⟨p, q, hx, hy, k⟩ := hq
  obtain ⟨a, dx, rfl, ea⟩ := id hx
  obtain ⟨c, dy, rfl, ec⟩ := id hy
  exact op_ownNe (ok_eq T F) (hr.mono (by omega)) (bind_eq T F) T.eq_at T.eq_fn T.ne_at T.hm_Ratio pins s σ H _ _ v u Q I rx ry ⟨⟨a, dx, _, rfl, ea⟩, ⟨c, dy, _, rfl, ec⟩, _, _, p, q, rfl, hx, hy, _, rfl, k⟩
/-- what Ratio(n) asks -/
theorem made_R1 {K : PySem.W.Frag} {H : Hp} {Q : VK} {E : XK} {i : Int} (k : ∀ H' v, Same H H' → IsR K H' v (i : Rat) → Q v H') :
    ∀ x dx, H x = none → H dx = none → dx ≠ x → sp_Ratio_init K (.ref x :: ([.int i] ++ [.int 1])) (upd (upd H dx (.own x)) x (.ins (CRatio K) dx [])) (fun v H2 => v = .non ∧ Q (.ref x) H2) E := by
  refine made_R (t := i) (b := 1) (n := 0) rfl (by decide) (by decide) (by decide) ?_
  have e : Rat.divInt i 1 = (i : Rat) := by
    rw [Rat.divInt_eq_div, show ((1 : Int) : Rat) = 1 from rfl]; grind
  rw [e]
  exact k
end
end Lc
set_option Elab.async false
set_option linter.all false
set_option maxRecDepth 100000
set_option maxHeartbeats 4000000
namespace Lc
open PySem PySem.Spec PyProof.Rows L2 LcR
/-! ### lists side by side -/
def All2 {α β : Type} (R : α → β → Prop) (xs : List α) (ys : List β) : Prop := xs.length = ys.length ∧ ∀ (i : Nat) x y, xs[i]? = some x → ys[i]? = some y → R x y
theorem All2.nil {α β : Type} {R : α → β → Prop} : All2 R [] [] := ⟨rfl, fun i x y h _ => by simp at h⟩
theorem All2.snoc {α β : Type} {R : α → β → Prop} {xs : List α} {ys : List β} {x : α} {y : β} (h : All2 R xs ys) (r : R x y) : All2 R (xs ++ [x]) (ys ++ [y]) := by
  refine ⟨by simp [h.1], fun i a b ha hb => ?_⟩
  by_cases hi : i < xs.length
  · rw [List.getElem?_append_left hi] at ha
    rw [List.getElem?_append_left (by rw [← h.1]; exact hi)] at hb
    exact h.2 i a b ha hb
  · rw [List.getElem?_append_right (by omega)] at ha
    rw [List.getElem?_append_right (by rw [← h.1]; omega)] at hb
    have e1 : i - xs.length = 0 := by
      cases q : i - xs.length with
      | zero => rfl
      | succ k => rw [q] at ha; simp at ha
    rw [e1] at ha
    rw [← h.1, e1] at hb
    simp at ha hb
    subst ha hb
    exact r
theorem All2.imp {α β : Type} {R S : α → β → Prop} {xs : List α} {ys : List β} (h : All2 R xs ys) (f : ∀ x y, R x y → S x y) : All2 S xs ys := ⟨h.1, fun i x y a b => f x y (h.2 i x y a b)⟩
theorem All2.get {α β : Type} {R : α → β → Prop} {xs : List α} {ys : List β} (h : All2 R xs ys) {i : Nat} {y : β} (e : ys[i]? = some y) : ∃ x, xs[i]? = some x ∧ R x y := by
  have hi : i < xs.length := by rw [h.1]; exact (List.getElem?_eq_some_iff.mp e).1
  exact ⟨xs[i], List.getElem?_eq_getElem hi, h.2 i _ _ (List.getElem?_eq_getElem hi) e⟩
theorem All2.get' {α β : Type} {R : α → β → Prop} {xs : List α} {ys : List β} (h : All2 R xs ys) {i : Nat} {x : α} (e : xs[i]? = some x) : ∃ y, ys[i]? = some y ∧ R x y := by
  have hi : i < ys.length := by rw [← h.1]; exact (List.getElem?_eq_some_iff.mp e).1
  exact ⟨ys[i], List.getElem?_eq_getElem hi, h.2 i _ _ e (List.getElem?_eq_getElem hi)⟩
/-! ### what stays while lists and dicts turn -/
def Fz : HO → Prop
  | .lst _ => False
  | .dK _ => False
  | _ => True
def SameN (H H' : Hp) : Prop := ∀ b o, H b = some o → Fz o → H' b = some o
theorem SameN.refl (H : Hp) : SameN H H := fun _ _ h _ => h
theorem SameN.trans {H H1 H2 : Hp} (a : SameN H H1) (b : SameN H1 H2) : SameN H H2 := fun c o h f => b c o (a c o h f) f
theorem same_n {H H' : Hp} (s : Same H H') : SameN H H' := fun b o h _ => s b o h
theorem sameN_upd {H : Hp} {a : Addr} {o u : HO} (h : H a = some u) (f : ¬ Fz u) : SameN H (upd H a o) := fun b x e fx => by
  rw [upd_ne (fun z => by subst z; rw [h] at e; cases e; exact f fx)]
  exact e
theorem sameN_new {H : Hp} {a : Addr} {o : HO} (h : H a = none) : SameN H (upd H a o) := same_n (same_upd h)
theorem IsR.n {K : PySem.W.Frag} {H H' : Hp} {v : V} {q : Rat} (h : IsR K H v q) (s : SameN H H') : IsR K H' v q := by
  obtain ⟨a, dx, rfl, e⟩ := h
  exact ⟨a, dx, rfl, s _ _ e trivial⟩
theorem same_seqT {K : PySem.W.Frag} {H H' : Hp} {a : Addr} {xs : List V} (e : Same H H') (h : SqT K H a xs) : SqT K H' a xs := by
  rcases h with (h | ⟨o, h⟩) | h
  · exact .inl (.inl (e _ _ h))
  · exact .inl (.inr ⟨o, e _ _ h⟩)
  · exact .inr h
/-! ### comprehensions whose elements leave what stood -/
def Kept (keep : Nat → Bool) (R : Nat → V → Hp → Prop) (n : Nat) (ys : List V) (H : Hp) : Prop :=
  ys.length = ((List.range n).filter keep).length ∧ ∀ (m j : Nat) (y : V), ((List.range n).filter keep)[m]? = some j → ys[m]? = some y → R j y H
theorem Kept.all {R : Nat → V → Hp → Prop} {n : Nat} {ys : List V} {H : Hp} (h : Kept (fun _ => true) R n ys H) : ys.length = n ∧ ∀ (i : Nat) y, ys[i]? = some y → R i y H := by
  obtain ⟨h1, h2⟩ := h
  rw [List.filter_eq_self.mpr (fun _ _ => rfl), List.length_range] at h1
  refine ⟨h1, fun i y e => h2 i i y ?_ e⟩
  rw [List.filter_eq_self.mpr (fun _ _ => rfl)]
  have := (List.getElem?_eq_some_iff.mp e).1
  exact List.getElem?_range (by omega)
theorem lcm {J : It} {n : Nat} {G : Hp → Prop} {Y : Nat → Hp → V → Hp → Prop} (w : Walk J n G Y) {g : TG} {tt : TT} {te : TE} {vs : List Nat} {σ : L2.St} {H1 : Hp} {D : Addr} {Qd : Hp → Prop} (hD : H1 D = none) (hn : n ≤ sizeLine)
    (keep : Nat → Bool) (R : Nat → V → Hp → Prop) (mono : ∀ i y H H', SameN H H' → R i y H → R i y H') (hG : ∀ H, Same H1 H → G H)
    (hs : ∀ i x H H' (kN : Hp → Prop) (k : V → Hp → Prop), i < n → Same H1 H → Y i H x H' → (∀ H3, Same H H3 → keep i = false → kN H3) → (∀ y H4, Same H H4 → keep i = true → R i y H4 → k y H4) →
      g x (wipe σ vs) H' fun σ2 H2 => wipe σ2 vs = wipe σ vs ∧ tt σ2 H2 fun b H3 => if b = true then te σ2 H3 k else kN H3)
    (hd : ∀ H' ys, Same H1 H' → H' D = some (.lst ys) → Kept keep R n ys H' → Qd H') :
    ∃ W : Nat → Nat → Hp → Prop, (∃ m, W 0 m (upd H1 D (.lst []))) ∧ ∀ i m H, W i m H →
      (J.stop i H ∧ Qd H) ∨ (J.go i H ∧ ∃ Nx : Hp → Prop, (∀ H', Nx H' → ∃ m', m' < m ∧ W (i + 1) m' H') ∧ ∀ x H', J.yld i H x H' → g x (wipe σ vs) H' fun σ2 H2 => wipe σ2 vs = wipe σ vs ∧ tt σ2 H2 fun b H3 =>
        if b = true then te σ2 H3 fun y H4 => ∃ acc, H4 D = some (.lst acc) ∧ acc.length < sizeLine ∧ Nx (upd H4 D (.lst (acc ++ [y]))) else Nx H3) := by
  refine lc_it w (fun i H => Same H1 H ∧ ∃ ys, H D = some (.lst ys) ∧ Kept keep R i ys H) ⟨same_upd hD, [], upd_same, rfl, fun m j y h _ => by simp at h⟩ (fun i H _ p => hG H p.1) ?_ ?_
  · rintro i x H H' hi ⟨s1, ys, e, kp⟩ hy
    have el : ∀ {c : Bool}, keep i = c → (List.range (i + 1)).filter keep = if c = true then (List.range i).filter keep ++ [i] else (List.range i).filter keep := by
      intro c hc
      rw [List.range_succ, List.filter_append]
      cases c with
      | true => rw [if_pos rfl, List.filter_cons_of_pos (by rw [hc]), List.filter_nil]
      | false => rw [if_neg (by simp), List.filter_cons_of_neg (by rw [hc]; simp), List.filter_nil, List.append_nil]
    refine hs i x H H' _ _ hi s1 hy (fun H3 s3 hk => ?_) (fun y H4 s4 hk r => ?_)
    · refine ⟨s1.trans s3, ys, s3 _ _ e, ?_⟩
      obtain ⟨k1, k2⟩ := kp
      have e1 := el hk
      rw [if_neg (by simp)] at e1
      exact ⟨by rw [e1]; exact k1, fun m j y h1 h2 => mono _ _ _ _ (same_n s3) (k2 m j y (by rw [e1] at h1; exact h1) h2)⟩
    · obtain ⟨k1, k2⟩ := kp
      have e1 := el hk
      rw [if_pos rfl] at e1
      have hl : ys.length ≤ i := by
        rw [k1]
        exact Nat.le_trans (List.length_filter_le _ _) (by simp)
      have sN : SameN H4 (upd H4 D (.lst (ys ++ [y]))) := sameN_upd (s4 _ _ e) (fun z => z)
      refine ⟨ys, s4 _ _ e, by omega, fun b o hb => ?_, ys ++ [y], upd_same, by rw [e1]; simp [k1], fun m j z h1 h2 => ?_⟩
      · rw [upd_ne (ne_of_none hb hD)]
        exact s4 _ _ (s1 _ _ hb)
      · rw [e1] at h1
        by_cases hm : m < ys.length
        · rw [List.getElem?_append_left hm] at h2
          rw [List.getElem?_append_left (by rw [← k1]; exact hm)] at h1
          exact mono _ _ _ _ ((same_n s4).trans sN) (k2 m j z h1 h2)
        · have hm2 : m = ys.length := by
            have := (List.getElem?_eq_some_iff.mp h2).1
            simp at this
            omega
          subst hm2
          rw [List.getElem?_append_right (by omega)] at h2
          rw [List.getElem?_append_right (by omega)] at h1
          simp [k1] at h1 h2
          subst h1 h2
          exact mono _ _ _ _ sN r
  · rintro H ⟨s1, ys, e, kp⟩
    exact hd H ys s1 e kp
end Lc
set_option Elab.async false
set_option linter.all false
set_option maxRecDepth 100000
set_option maxHeartbeats 4000000
namespace LcE
open PySem PySem.Spec PyProof.Rows
open AutoSeq1 (wpAny_loadPart')
theorem meets_enumerate_newB1 {v : Value} {o : Obj} {H : Heap → Prop} (B : Begins v o H) :
    Meets (Builtin.«enumerate.__new__» ⟨[.type "enumerate", v], []⟩) (fun _ R s => H s.heap ∧
      R (.ok (.ret (.ref (s.heap.push o).objs.size))) { s with heap := (s.heap.push o).push { cls := .type "enumerate", data := .fields #[.none, .bool false, .ref s.heap.objs.size, rawInt 0, .none, .none] } }) :=
  .of_wp fun prog w A R s h => by
    obtain ⟨hp, g, d, tk, os⟩ := s; obtain ⟨h1, h⟩ := h
    have hsub := sub_enumerate
    have q1 : ∀ {A' : Around} {E : Value → Shared → Prop} {Q : Value → Shared → Prop}, Q (.ref hp.objs.size) ⟨hp.push o, g, d, tk, os⟩ → wpAny (model prog w) A' (pyIter v) Q E ⟨hp, g, d, tk, os⟩ :=
      fun q => B.iter prog w _ _ ⟨hp, g, d, tk, os⟩ _ h1 q
    wp_walk using q1
    refine wpAny_stack_any fun st => wpAny_pure ?_
    split
    · rename_i c _ _ _ _ _
      cases (c == Value.type "enumerate")
      · wp_walk using q1
        exact ⟨_, rfl, h⟩
      · wp_walk using q1
        exact ⟨_, rfl, h⟩
    · wp_walk using q1
      exact ⟨_, rfl, h⟩
section
variable {prog : Program} {w : World} {A : Around} {E : Value → Shared → Prop} {s : Shared}
theorem enum_begins1 {v : Value} {o : Obj} {H : Heap → Prop} {Q : Value → Shared → Prop} (B : Begins v o H) (h1 : H s.heap)
    (h : ∀ h', IsEnum h' (s.heap.objs.size + 1) s.heap.objs.size 0 .none → h'.get? s.heap.objs.size = some o → h'.objs.size = s.heap.objs.size + 2 →
      (∀ b o, s.heap.get? b = some o → h'.get? b = some o) → Q (.ref (s.heap.objs.size + 1)) { s with heap := h' }) :
    wpAny (model prog w) A (call (.type "enumerate") [v]) Q E s := by
  refine callType_new F.called_enumerate (by decide) (F.typeCall_enumerate_1 _) (F.newCall_enumerate_1 _) (fun obj => F.args_object_init_2 obj _) F.entry_enumerate_new
    (meets_enumerate_newB1 B) ⟨h1, ?_⟩
  have hz : (s.heap.push o).objs.size = s.heap.objs.size + 1 := Heap.size_push ..
  show _ ∧ _
  rw [hz]
  have he : IsEnum ((s.heap.push o).push { cls := .type "enumerate", data := .fields #[.none, .bool false, .ref s.heap.objs.size, rawInt 0, .none, .none] }) (s.heap.objs.size + 1) s.heap.objs.size 0 .none := by
    have := Heap.get?_push_size (s.heap.push o) (o := { cls := .type "enumerate", data := .fields #[.none, .bool false, .ref s.heap.objs.size, rawInt 0, .none, .none] }) rfl
    rw [hz] at this; exact this
  refine ⟨⟨_, he, rfl⟩, h _ he (Heap.get?_push_of_some _ (Heap.get?_push_size _ B.free)) (by rw [Heap.size_push, hz]) fun b o x => Heap.get?_push_of_some _ (Heap.get?_push_of_some _ x)⟩
end
end LcE
namespace LcE
open PySem PySem.Spec PyProof.Rows L2
/-! ### enumerate(tuple) -/
def IteT (K : PySem.W.Frag) (a : Addr) : It :=
  ⟨fun i H => ∃ (xs : List V) (x : V), SqT K H a xs ∧ xs[i]? = some x, fun i H v H' => ∃ T x, v = .ref T ∧ H T = none ∧ H' = upd H T (.tup [.int (i : Nat), x]) ∧ ∀ xs, SqT K H a xs → xs[i]? = some x, fun i H => ∃ xs : List V, SqT K H a xs ∧ xs.length ≤ i⟩
theorem tup_inj {X : Cx} {pins : List (Addr × Obj)} {σ : L2.St} {H : Hp} {s : Shared} (I : Inv X pins σ H s) {a : Addr} {xs ys : List V} (h : SqT X.K H a xs) (k : SqT X.K H a ys) : xs = ys := by
  exact I.tuple_inj h k
theorem turn_enumT {P : Program} {w : World} {K : PySem.W.Frag} {elts : List Expr} {kk : Nat} {tpos : Pos} (a e it : Addr) :
    Turn P w K (.Tuple elts kk tpos) (IteT K a) [e, it] e (fun i h => (∃ old, IsEnum h e it ((i : Nat) : Int) old) ∧ h.IsTupleIter it a i ∧ e ≠ it) where
  mem := by simp
  obj := fun i h st b hb => by
    obtain ⟨⟨old, he⟩, ⟨o, ho, hc, hd⟩, _⟩ := st
    have e' : b = e ∨ b = it := by simpa using hb
    rcases e' with z | z
    · rw [z]; exact ⟨_, he, fun v q => nomatch q⟩
    · rw [z]; exact ⟨o, ho, fun v q => by rw [hd] at q; cases q⟩
  keep := fun i h h' st k => let ⟨⟨old, he⟩, hi, hne⟩ := st; ⟨⟨old, k e (by simp) _ he⟩, hi.at fun o q => k it (by simp) o q, hne⟩
  item := by
    intro X hP hw hK hc i pins s σ H E I hf st hg
    subst hP hw hK
    obtain ⟨⟨old, he⟩, hit, hne⟩ := st
    obtain ⟨xs, x, hq, hx⟩ := hg
    obtain ⟨its, rv, p, hz⟩ := I.tuple hq
    obtain ⟨u, hu, ru⟩ := rv.get hx
    have hel : e < s.heap.objs.size := Heap.lt_size he
    have hil : it < s.heap.objs.size := by obtain ⟨_, q, _⟩ := hit; exact Heap.lt_size q
    have hta : a ≠ it := fun z => by
      obtain ⟨o1, q1, c1, _⟩ := p
      obtain ⟨o2, q2, c2, _⟩ := hit
      rw [z, q2] at q1
      cases q1
      rw [c2] at c1
      exact absurd (Value.type.inj c1) (by decide)
    have hte : e ≠ a := fun z => by
      obtain ⟨o1, q1, c1, _⟩ := p
      have he' := he
      unfold IsEnum at he'
      rw [z, q1] at he'
      cases he'
      exact absurd (Value.type.inj c1) (by decide)
    have hu' : its.toArray[i]? = some u := by simpa using hu
    refine wpAny_pyNext_enum_itemD (Draws.tuple (prog := X.prog) (w := X.w) (A := X.A.in1) (I.ok.hd hc) it a hta its.toArray) he ⟨hit, p⟩ (by
      have := (List.getElem?_eq_some_iff.mp hu).1
      simpa using this) hne (by simp [hne, hte]) fun y h' tk hy ho hst hT hsz hk => ?_
    have hit' := hst.1
    have hyu : y = u := by rw [hu'] at hy; exact (Option.some.inj hy).symm
    subst hyu
    refine ⟨_, rfl, wpAny_letOwnedTupleGo_enum (s := { s with heap := h', toks := tk + 1 }) ho fun h'' he' sb => ?_⟩
    have hT2 : h''.get? s.heap.objs.size = some { cls := .type "tuple", data := .seq #[.int i tk, y] } := (sb.2 _ (Nat.ne_of_gt hel)).trans hT
    have new : ObjOk X.prog X.w (upd H s.heap.objs.size (.tup [.int (i : Nat), x])) h'' s.heap.objs.size (.tup [.int (i : Nat), x]) :=
      ⟨by show 2 ≤ sizeLine; decide, [.int i tk, y], .cons ⟨_, rfl⟩ (.cons ru .nil), ⟨_, hT2, rfl, _, rfl⟩⟩
    have I1 : Inv X pins σ (upd H s.heap.objs.size (.tup [.int (i : Nat), x])) { s with heap := h'', toks := tk + 1 } :=
      I.turnedNew (ch := [e, it]) (fun b ob hb q => (sb.2 b (fun z => hb (by simp [z]))).trans (hk b ob (fun z => hb (by simp [z])) (fun z => hb (by simp [z])) q)) hf (Nat.le_refl _) new
    refine ⟨.ref s.heap.objs.size, _, I1, rfl, ⟨_, x, rfl, I.hok.fresh (Nat.le_refl _), rfl, fun ys hy => by rw [tup_inj I hy hq]; exact hx⟩, ⟨⟨y, ?_⟩, hit'.at fun o q => (sb.2 it (Ne.symm hne)).trans q, hne⟩, fun b hb => ?_⟩
    · have e1 : ((i + 1 : Nat) : Int) = (i : Int) + 1 := by omega
      rw [e1]; exact he'
    · have hb' : b < s.heap.objs.size := by
        have e' : b = e ∨ b = it := by simpa using hb
        rcases e' with z | z
        · rw [z]; exact hel
        · rw [z]; exact hil
      rw [upd_ne (Nat.ne_of_lt hb')]
      exact (hf b hb).1
  done := by
    intro X hP hw hK hc i pins s σ H E I hf st hg
    subst hP hw hK
    obtain ⟨⟨old, he⟩, hit, hne⟩ := st
    obtain ⟨xs, hq, hx⟩ := hg
    obtain ⟨its, rv, p, hz⟩ := I.tuple hq
    obtain ⟨f0, f1, f2, f3, f4, f5⟩ := hf it (by simp)
    have hl := rv.length
    have hta : a ≠ it := fun z => by
      obtain ⟨o1, q1, c1, _⟩ := p
      obtain ⟨o2, q2, c2, _⟩ := hit
      rw [z, q2] at q1
      cases q1
      rw [c2] at c1
      exact absurd (Value.type.inj c1) (by decide)
    have D' : Draws X.prog X.w X.A.in1 it [it, a] i (fun i v => its.toArray[i]? = some v) (fun j h => j = i ∧ h.IsTupleIter it a i ∧ h.IsTuple a its.toArray) :=
      { live := fun _ _ st => let ⟨o, ho, _⟩ := st.2.1; ⟨o, ho⟩
        frame := fun _ _ _ st hk => ⟨st.1, st.2.1.at fun o e => hk it (by simp) o e, st.2.2.at fun o e => hk a (by simp) o e⟩
        item := fun j s Q E hj st hQ => by have := st.1; omega
        done := fun s Q E st hE => wpAny_nextOf_tuple_end (A := X.A.in1) (I.ok.hd hc) st.2.1 st.2.2 (by simp; omega) hE }
    exact wpAny_pyNext_enum_endD D' he ⟨rfl, hit, p⟩ fun h' eb => ⟨rfl, I.turned (t' := s.toks) (fun b o hb q => eb b o hb q) f0 f1 f3 f4 f5⟩
  self := fun A i s Q E st h => let ⟨⟨_, he⟩, _⟩ := st; wpAny_pyIter_enum he h
def iEnumT (K : PySem.W.Frag) (ta : TA) : TI := fun σ H R => ta σ H fun vs H1 => ∃ a xs, vs = [.ref a] ∧ SqT K H1 a xs ∧ R (IteT K a) H1
theorem pi_enumT {X : Cx} {e : Expr} {ta : TA} {p pos tpos : Pos} {elts : List Expr} {kk : Nat} (hg : Gl X "enumerate") (hm : X.mg "enumerate" = none) (ha : PA X [e] ta) (hs : starEach [e] X.env = [(false, eval e X.env)] := by rfl) :
    PI X (.Tuple elts kk tpos) (.Call (.Name "enumerate" p) [e] [] pos) (iEnumT X.K ta) := by
  refine ⟨fun pins s σ H R I h => ?_⟩
  refine Call_ (ld_blt I hg hm boot_enumerate (PyProof.Rows.callWith_type1 (thn (ha.run pos pins s σ H _ I h) fun us s1 ⟨vs, H1, I1, r1, q1⟩ => ?_) hs rfl))
  obtain ⟨a, xs, ex, hq, q⟩ := q1
  subst ex
  cases r1 with
  | cons r rr =>
    cases rr
    cases r
    obtain ⟨its, rv, p', hz⟩ := I1.tuple hq
    refine enum_begins1 (begins_tuple a its.toArray) p' fun h' he hit hsz hk => wpAny_pyIter_enum he ?_
    have I2 : Inv X pins σ H1 { s1 with heap := h' } := I1.kept (t' := s1.toks) hk
    refine ⟨s1.heap.objs.size + 1, [s1.heap.objs.size + 1, s1.heap.objs.size], _, _, H1, rfl, I2, turn_enumT a (s1.heap.objs.size + 1) s1.heap.objs.size, ⟨⟨.none, he⟩, ⟨_, hit, rfl, rfl⟩, Nat.succ_ne_self _⟩, fun b hb => ?_, q⟩
    have e' : b = s1.heap.objs.size + 1 ∨ b = s1.heap.objs.size := by simpa using hb
    have hle : s1.heap.objs.size ≤ b := by
      rcases e' with z | z
      · rw [z]; exact Nat.le_add_right _ _
      · rw [z]; exact Nat.le_refl _
    exact I1.fpOk hle (I1.hok.fresh hle)
theorem walk_enumT {K : PySem.W.Frag} {a : Addr} {xs : List V} : Walk (IteT K a) xs.length (fun H => SqT K H a xs) (YPair (fun i => some (.int (i : Nat))) (fun i => xs[i]?)) := by
  refine ⟨fun i _ hi q => ⟨xs, xs[i], q, by simp [hi]⟩, fun _ q => ⟨xs, q, Nat.le_refl _⟩, fun i H v H' _ q y => ?_⟩
  obtain ⟨T, x, h1, h2, h3, h4⟩ := y
  exact ⟨T, .int (i : Nat), x, h1, h2, h3, rfl, h4 xs q⟩
end LcE
set_option Elab.async false
set_option linter.all false
set_option maxRecDepth 100000
set_option maxHeartbeats 4000000
namespace Lc
open PySem PySem.Spec PyProof.Rows L2 LcR
section
variable {X : Cx}
/-- xs != [] of lists of any things -/
def rNeNil (K : PySem.W.Frag) : R2 := fun x y H Q => ∃ a b xs, x = .ref a ∧ y = .ref b ∧ SqL K H a xs ∧ SqL K H b [] ∧ Q (.bl (!xs.isEmpty)) H
theorem op_neNil (hu : X.A.units < cLine) : OpR X (compareOp .NotEq) (rNeNil X.K) := by
  intro pins s σ H x y v u Q I rx ry h
  obtain ⟨a, b, xs, rfl, rfl, h1, h2, q⟩ := h
  cases rx
  cases ry
  obtain ⟨its, rv, p, _⟩ := I.list h1
  obtain ⟨its2, rv2, p2, _⟩ := I.list h2
  cases rv2
  show wpAny (model X.prog X.w) X.A (richCompare .NotEq (.ref a) (.ref b)) (EP X pins σ Q) X.xe s
  cases xs with
  | nil =>
    cases rv
    exact SeqAt.RcNeAt.lists (e := fun _ => true) p.isList p2.isList rfl hu (fun j h1 _ => by simp at h1) X.prog X.w X.xe _ ⟨.bl _, H, I, rfl, by simpa using q⟩
  | cons z r =>
    have hl := rv.length
    exact SeqAt.RcNeAt.lists_lengths p.isList p2.isList (by simp; intro e; simp [e] at hl) hu X.prog X.w X.xe _ ⟨.bl _, H, I, rfl, by simpa using q⟩
/-- xs == [] of lists of any things -/
def rEqNil (K : PySem.W.Frag) : R2 := fun x y H Q => ∃ a b xs, x = .ref a ∧ y = .ref b ∧ SqL K H a xs ∧ SqL K H b [] ∧ Q (.bl xs.isEmpty) H
theorem op_eqNil (hu : X.A.units < cLine) : OpR X (compareOp .Eq) (rEqNil X.K) := by
  intro pins s σ H x y v u Q I rx ry h
  obtain ⟨a, b, xs, rfl, rfl, h1, h2, q⟩ := h
  cases rx
  cases ry
  obtain ⟨its, rv, p, _⟩ := I.list h1
  obtain ⟨its2, rv2, p2, _⟩ := I.list h2
  cases rv2
  show wpAny (model X.prog X.w) X.A (richCompare .Eq (.ref a) (.ref b)) (EP X pins σ Q) X.xe s
  cases xs with
  | nil =>
    cases rv
    exact SeqAt.RcAt.lists (e := fun _ => true) p.isList p2.isList rfl hu (fun j h1 _ => by simp at h1) X.prog X.w X.xe _ ⟨.bl _, H, I, rfl, by simpa using q⟩
  | cons z r =>
    have hl := rv.length
    exact SeqAt.RcAt.lists_lengths p.isList p2.isList (by simp; intro e; simp [e] at hl) hu X.prog X.w X.xe _ ⟨.bl _, H, I, rfl, by simpa using q⟩
/-- t == () -/
def rEqNilT (K : PySem.W.Frag) : R2 := fun x y H Q => ∃ a b xs, x = .ref a ∧ y = .ref b ∧ SqT K H a xs ∧ SqT K H b [] ∧ Q (.bl xs.isEmpty) H
theorem op_eqNilT (hu : X.A.units < cLine) : OpR X (compareOp .Eq) (rEqNilT X.K) := by
  intro pins s σ H x y v u Q I rx ry h
  obtain ⟨a, b, xs, rfl, rfl, h1, h2, q⟩ := h
  cases rx
  cases ry
  obtain ⟨its, rv, p, _⟩ := I.tuple h1
  obtain ⟨its2, rv2, p2, _⟩ := I.tuple h2
  cases rv2
  show wpAny (model X.prog X.w) X.A (richCompare .Eq (.ref a) (.ref b)) (EP X pins σ Q) X.xe s
  refine SeqAt.RcAt.tuples (e := fun _ => true) p p2 hu (fun j _ h2 => by simp at h2) X.prog X.w X.xe _ ?_
  have hl := rv.length
  have e : ((List.range (min its.toArray.size (#[] : Array Value).size)).all (fun _ => true) && its.toArray.size == (#[] : Array Value).size) = xs.isEmpty := by
    cases xs with
    | nil => cases rv; rfl
    | cons z r =>
      cases its with
      | nil => simp at hl
      | cons i j => rfl
  have q' : EP X pins σ Q (.bool xs.isEmpty) s := ⟨.bl _, H, I, rfl, q⟩
  rw [← e] at q'
  exact q'
end
end Lc
set_option Elab.async false
set_option linter.all false
set_option maxRecDepth 100000
set_option maxHeartbeats 4000000
namespace Lc
open PySem PySem.Spec PyProof.Rows L2 LcR
/-! ### what a house is made of -/
structure OutD where
  odds : Nat
  target : Nat
  time : Nat
  pays : List Int
abbrev ActD := Nat × List OutD
def OutV (H : Hp) (v : V) (o : OutD) : Prop := ∃ a pa, v = .ref a ∧ H a = some (.tup [.int (o.odds : Int), .int (o.target : Int), .int (o.time : Int), .ref pa]) ∧ H pa = some (.tup (o.pays.map V.int))
def ActV (H : Hp) (v : V) (d : ActD) : Prop := ∃ p q vs, v = .ref p ∧ H p = some (.tup [.int (d.1 : Int), .ref q]) ∧ H q = some (.tup vs) ∧ All2 (OutV H) vs d.2
def ActsV (H : Hp) (v : V) (l : List ActD) : Prop := ∃ p vs, v = .ref p ∧ H p = some (.tup vs) ∧ All2 (ActV H) vs l
theorem OutV.n {H H' : Hp} {v : V} {o : OutD} (h : OutV H v o) (s : SameN H H') : OutV H' v o := by
  obtain ⟨a, pa, rfl, e1, e2⟩ := h
  exact ⟨a, pa, rfl, s _ _ e1 trivial, s _ _ e2 trivial⟩
theorem ActV.n {H H' : Hp} {v : V} {d : ActD} (h : ActV H v d) (s : SameN H H') : ActV H' v d := by
  obtain ⟨p, q, vs, rfl, e1, e2, e3⟩ := h
  exact ⟨p, q, vs, rfl, s _ _ e1 trivial, s _ _ e2 trivial, e3.imp fun x y z => z.n s⟩
theorem ActsV.n {H H' : Hp} {v : V} {l : List ActD} (h : ActsV H v l) (s : SameN H H') : ActsV H' v l := by
  obtain ⟨p, vs, rfl, e1, e3⟩ := h
  exact ⟨p, vs, rfl, s _ _ e1 trivial, e3.imp fun x y z => z.n s⟩
structure OkOut (n : Nat) (o : OutD) : Prop where
  o1 : 1 ≤ o.odds
  o2 : o.odds ≤ 900
  t : o.target < n
  t1 : 1 ≤ o.time
  t2 : o.time ≤ 1000
  p : o.pays.length = 1
  p1 : ∀ i ∈ o.pays, -999 ≤ i ∧ i ≤ 999
structure OkAct (n : Nat) (d : ActD) : Prop where
  s : d.1 < n
  ne : d.2 ≠ []
  len : d.2.length ≤ 5
  outs : ∀ o ∈ d.2, OkOut n o
structure OkActs (n : Nat) (l : List ActD) : Prop where
  n1 : 1 ≤ n
  n2 : n ≤ 10
  len : l.length ≤ 30
  acts : ∀ d ∈ l, OkAct n d
  all : ∀ s, s < n → ∃ d ∈ l, d.1 = s
theorem map_bl_all {ys : List V} {H : Hp} {n : Nat} (h1 : ys.length = n) (h2 : ∀ (i : Nat) y, ys[i]? = some y → y = V.bl true) : ys = (List.replicate n true).map V.bl := by
  apply List.ext_getElem?
  intro i
  rw [List.map_replicate]
  by_cases hi : i < n
  · rw [List.getElem?_replicate, if_pos hi, List.getElem?_eq_getElem (by omega)]
    exact congrArg some (h2 i _ (List.getElem?_eq_getElem (by omega)))
  · rw [List.getElem?_eq_none (by omega), List.getElem?_eq_none (by simp; omega)]
theorem all_true (n : Nat) : (List.replicate n true).all id = true := by
  rw [List.all_eq_true]
  intro x hx
  exact (List.mem_replicate.mp hx).2
section
variable {P : Program} {w : World} {K : PySem.W.Frag} {mg : Str → Option Value} {base : Heap}
def sp_is_pay : Sp := fun vs H Q _ => ∃ i : Int, vs = [.int i] ∧ -999 ≤ i ∧ i ≤ 999 ∧ Q (.bl true) H
theorem c_is_pay (T : Tx K mg) : C8.Cal P w K mg base 3 "is_pay" sp_is_pay [] := by
  obtain ⟨fd, F⟩ := T.f_is_pay
  refine calD F T.g_is_pay sc_is_pay (fun _ _ _ _ _ _ us hl => match us, hl with | [_], _ => rfl) (fun vs H Q E h => ?_) (fun cdv A outer s H vs Q E hr h => ?_)
  · obtain ⟨_, rfl, _⟩ := h; rfl
  obtain ⟨i, rfl, h1, h2, k⟩ := h
  refine ⟨_, (pss_one (ps_ret (C8.pe_c (c_is_within T) hr (by decide) (by rfl) (pa_cons (pv 0) (pa_cons (pe_un un_neg (C8.pe_gc (by rfl) T.k_MOST_PAY)) (pa_cons (C8.pe_gc (by rfl) T.k_MOST_PAY) pa_nil)))))), ?_⟩
  exact ⟨_, rfl, _, rfl, i, _, _, rfl, by omega, by omega, k⟩
def sp_is_outcome : Sp := fun vs H Q _ => ∃ (n : Nat) (v : V) (o : OutD), vs = [.int (n : Int), .int 1, v] ∧ OutV H v o ∧ OkOut n o ∧ ∀ H', Same H H' → Q (.bl true) H'
theorem c_is_outcome (T : Tx K mg) : C8.Cal P w K mg base 4 "is_outcome" sp_is_outcome [] := by
  obtain ⟨fd, F⟩ := T.f_is_outcome
  refine calD F T.g_is_outcome sc_is_outcome (fun _ _ _ _ _ _ us hl => match us, hl with | [_, _, _], _ => rfl) (fun vs H Q E h => ?_) (fun cdv A outer s H vs Q E hr h => ?_)
  · obtain ⟨_, _, _, rfl, _⟩ := h; rfl
  obtain ⟨n, v, o, rfl, ⟨a, pa, rfl, e1, e2⟩, ok, k⟩ := h
  obtain ⟨o1, o2, t, t1, t2, p, p1⟩ := ok
  refine ⟨_, (pss_cons (ps_if (PW.pt (pw_or (pt_not (pt_val (pe_callB call_isi (by rfl) T.b_isinstance (by decide +kernel) (pa_cons (pv 2) (pa_cons (pe_bltn (v := .ty "tuple") (by rfl) T.b_tuple (by decide +kernel) rfl) pa_nil))))) (pw_or (pt_cmpR op_ne (pe_callB call_len (by rfl) T.b_len (by decide +kernel) (pa_cons (pv 2) pa_nil)) pe_int (nomark _)) (pw_or1 (pt_not (pt_val (C8.pe_c (c_is_within T) hr (by decide) (by rfl) (pa_cons (pe_ix ix_tup (pv 2) pe_int (fun _ _ => rfl)) (pa_cons pe_int (pa_cons (C8.pe_gc (by rfl) T.k_MOST_ODDS) pa_nil)))))))))) (pss_one (ps_ret pe_bl)) pss_nil)
      (pss_cons (ps_if (PW.pt (pw_or (pt_not (pt_val (C8.pe_c (c_is_within T) hr (by decide) (by rfl) (pa_cons (pe_ix ix_tup (pv 2) pe_int (fun _ _ => rfl)) (pa_cons pe_int (pa_cons (pe_op op_sub (pv 0) pe_int) pa_nil)))))) (pw_or1 (pt_not (pt_val (C8.pe_c (c_is_within T) hr (by decide) (by rfl) (pa_cons (pe_ix ix_tup (pv 2) pe_int (fun _ _ => rfl)) (pa_cons pe_int (pa_cons (C8.pe_gc (by rfl) T.k_MOST_TIME) pa_nil))))))))) (pss_one (ps_ret pe_bl)) pss_nil)
      (pss_one (ps_ret (pe_and (pe_callB call_isi (by rfl) T.b_isinstance (by decide +kernel) (pa_cons (pe_ix ix_tup (pv 2) pe_int (fun _ _ => rfl)) (pa_cons (pe_bltn (v := .ty "tuple") (by rfl) T.b_tuple (by decide +kernel) rfl) pa_nil))) (pe_and (pe_cmpR op_eq (pe_callB call_len (by rfl) T.b_len (by decide +kernel) (pa_cons (pe_ix ix_tup (pv 2) pe_int (fun _ _ => rfl)) pa_nil)) (pv 1) (nomark _)) (pe_one (pe_callB (cr_all rfl) (by rfl) T.b_all (by decide +kernel) (pa_cons (pe_lc (own := [("pay", 3)]) (g := gName 3) (by rfl) sc_is_outcome.nd (pi_tup (pe_ix ix_tup (pv 2) pe_int (fun _ _ => rfl))) (blkOk_by (own := [("pay", 3)]) (N := N_is_outcome) (sc := defScope s_is_outcome) (by decide +kernel)) (fun _ _ _ _ _ => (pg_name (i := 3) sc_is_outcome.nd rfl (Or.inl rfl))) (fun _ _ _ _ _ => pts_nil) (fun _ _ _ _ _ => (C8.pe_c (c_is_pay T) hr (by decide) (by rfl) (pa_cons (pv 3) pa_nil)))) pa_nil))))))))), ?_⟩
  have S1 : SqT K H a [.int (o.odds : Int), .int (o.target : Int), .int (o.time : Int), .ref pa] := .inl (.inl e1)
  have S2 : SqT K H pa (o.pays.map V.int) := .inl (.inl e2)
  refine ⟨_, rfl, _, _, _, _, true, rfl, .ty _, .base (.tup e1), kit_ty (by decide +kernel), true, rfl, iteF ?_⟩
  refine ⟨_, rfl, _, 4, rfl, .inr ⟨_, S1, rfl⟩, rfl, false, rfl, iteF ?_⟩
  refine ⟨_, rfl, a, _, 0, _, rfl, rfl, S1, rfl, (o.odds : Int), 1, 1000, rfl, by omega, by omega, true, rfl, iteF ?_⟩
  refine ⟨_, rfl, a, _, 1, _, rfl, rfl, S1, rfl, _, rfl, _, _, rfl, rfl, (o.target : Int), 0, (n : Int) - 1, rfl, by omega, by omega, true, rfl, iteF ?_⟩
  refine ⟨_, rfl, a, _, 2, _, rfl, rfl, S1, rfl, (o.time : Int), 1, 1000, rfl, by omega, by omega, true, rfl, iteF ?_⟩
  refine ⟨_, rfl, a, _, 3, _, rfl, rfl, S1, rfl, _, _, _, _, true, rfl, .ty _, .base (.tup e2), kit_ty (by decide +kernel), true, rfl, iteT ?_⟩
  refine ⟨_, rfl, a, _, 3, _, rfl, rfl, S1, rfl, _, (o.pays.map V.int).length, rfl, .inr ⟨_, S2, rfl⟩, _, rfl, rfl, true, ?_, iteT ?_⟩
  · rw [List.length_map, p]; rfl
  refine ⟨_, rfl, a, _, 3, _, rfl, rfl, S1, rfl, pa, rfl, ⟨_, S2⟩, fun D hD => ?_⟩
  refine lcm walk_tup hD (by rw [List.length_map, p]; decide) (fun _ => true) (fun _ y _ => y = .bl true) (fun _ _ _ _ _ h => h) (fun _ s => same_seqT s S2) (fun i x H1 H' kN kY hi s y kn ky => ?_) (fun H' ys s e kp => ?_)
  · obtain ⟨rfl, hx⟩ := y
    rw [List.getElem?_map] at hx
    cases hp : o.pays[i]? with
    | none => rw [hp] at hx; cases hx
    | some z =>
      rw [hp] at hx
      cases hx
      have := p1 z (List.mem_of_getElem? hp)
      exact ⟨rfl, iteT (B := kN H') ⟨_, rfl, z, rfl, this.1, this.2, ky _ _ (Same.refl _) rfl rfl⟩⟩
  · obtain ⟨l1, l2⟩ := kp.all
    have e3 := map_bl_all (H := H') l1 l2
    refine ⟨D, List.replicate (o.pays.map V.int).length true, rfl, .inl (.inl (by rw [← e3]; exact e)), ?_⟩
    rw [all_true]
    exact k _ s
end
end Lc
set_option Elab.async false
set_option linter.all false
set_option maxRecDepth 100000
set_option maxHeartbeats 4000000
namespace Lc
open PySem PySem.Spec PyProof.Rows L2 LcR
theorem walk_zipT {K : PySem.W.Frag} {a b : Addr} {xs ys : List V} {n : Nat} (hn : n = min xs.length ys.length) : Walk (RZ.ItzT K a b) n (fun H => SqT K H a xs ∧ SqT K H b ys) (YPair (fun i => xs[i]?) (fun i => ys[i]?)) := by
  subst hn
  refine ⟨fun i _ hi q => ?_, fun _ q => ⟨xs, ys, q.1, q.2, by omega⟩, fun i H v H' _ q y => ?_⟩
  · have h1 : i < xs.length := by omega
    have h2 : i < ys.length := by omega
    exact ⟨xs, ys, xs[i], ys[i], q.1, q.2, by simp [h1], by simp [h2]⟩
  · obtain ⟨T, x, z, h1, h2, h3, h4, h5⟩ := y
    exact ⟨T, x, z, h1, h2, h3, h4 xs q.1, h5 ys q.2⟩
theorem sIx_1 (n : Nat) : HT.sIx n 0 (some 1) = min 1 n := by
  unfold HT.sIx
  simp
  try omega
theorem sIx_n (n : Nat) : HT.sIx n n none = n := by
  unfold HT.sIx
  simp
/-- t[1:] -/
theorem cut1 (xs : List V) : cutV xs (some 1) none = xs.drop 1 := by
  unfold cutV
  rw [sIx_1, sIx_n]
  cases xs with
  | nil => rfl
  | cons x r =>
    have : min 1 (x :: r).length = 1 := by simp; try omega
    rw [this]
    simp
section
variable {P : Program} {w : World} {K : PySem.W.Frag} {mg : Str → Option Value} {base : Heap}
def sp_is_act : Sp := fun vs H Q _ => ∃ (n : Nat) (v : V) (d : ActD), vs = [.int (n : Int), .int 1, v] ∧ ActV H v d ∧ OkAct n d ∧ ∀ H', Same H H' → Q (.bl true) H'
theorem c_is_act (T : Tx K mg) : C8.Cal P w K mg base 5 "is_act" sp_is_act [] := by
  obtain ⟨fd, F⟩ := T.f_is_act
  refine calD F T.g_is_act sc_is_act (fun _ _ _ _ _ _ us hl => match us, hl with | [_, _, _], _ => rfl) (fun vs H Q E h => ?_) (fun cdv A outer s H vs Q E hr h => ?_)
  · obtain ⟨_, _, _, rfl, _⟩ := h; rfl
  obtain ⟨n, v, d, rfl, ⟨a, q, us, rfl, e1, e2, e3⟩, ok, k⟩ := h
  obtain ⟨src, outs⟩ := d
  obtain ⟨o1, o2, o3, o4⟩ := ok
  have o1 : src < n := o1
  refine ⟨_, (pss_cons (ps_if (PW.pt (pw_or (pt_not (pt_val (pe_callB call_isi (by rfl) T.b_isinstance (by decide +kernel) (pa_cons (pv 2) (pa_cons (pe_bltn (v := .ty "tuple") (by rfl) T.b_tuple (by decide +kernel) rfl) pa_nil))))) (pw_or (pt_cmpR op_ne (pe_callB call_len (by rfl) T.b_len (by decide +kernel) (pa_cons (pv 2) pa_nil)) pe_int (nomark _)) (pw_or1 (pt_not (pt_val (C8.pe_c (c_is_within T) hr (by decide) (by rfl) (pa_cons (pe_ix ix_tup (pv 2) pe_int (fun _ _ => rfl)) (pa_cons pe_int (pa_cons (pe_op op_sub (pv 0) pe_int) pa_nil)))))))))) (pss_one (ps_ret pe_bl)) pss_nil)
      (pss_cons (ps_if (PW.pt (pw_or (pt_not (pt_val (pe_callB call_isi (by rfl) T.b_isinstance (by decide +kernel) (pa_cons (pe_ix ix_tup (pv 2) pe_int (fun _ _ => rfl)) (pa_cons (pe_bltn (v := .ty "tuple") (by rfl) T.b_tuple (by decide +kernel) rfl) pa_nil))))) (pw_or1 (pt_cmpR (op_eqNilT hr.units0) (pe_ix ix_tup (pv 2) pe_int (fun _ _ => rfl)) (pe_tup pa_nil) (nomark _))))) (pss_one (ps_ret pe_bl)) pss_nil)
      (pss_one (ps_ret (pe_callB (cr_all rfl) (by rfl) T.b_all (by decide +kernel) (pa_cons (pe_lc (own := [("outcome", 3)]) (g := gName 3) (by rfl) sc_is_act.nd (pi_tup (pe_ix ix_tup (pv 2) pe_int (fun _ _ => rfl))) (blkOk_by (own := [("outcome", 3)]) (N := N_is_act) (sc := defScope s_is_act) (by decide +kernel)) (fun _ _ _ _ _ => (pg_name (i := 3) sc_is_act.nd rfl (Or.inl rfl))) (fun _ _ _ _ _ => pts_nil) (fun _ _ _ _ _ => (C8.pe_c (c_is_outcome T) hr (by decide) (by rfl) (pa_cons (pv 0) (pa_cons (pv 1) (pa_cons (pv 3) pa_nil)))))) pa_nil)))))), ?_⟩
  have S1 : SqT K H a [.int (src : Int), .ref q] := .inl (.inl e1)
  have S2 : SqT K H q us := .inl (.inl e2)
  refine ⟨_, rfl, _, _, _, _, true, rfl, .ty _, .base (.tup e1), kit_ty (by decide +kernel), true, rfl, iteF ?_⟩
  refine ⟨_, rfl, _, 2, rfl, .inr ⟨_, S1, rfl⟩, rfl, false, rfl, iteF ?_⟩
  refine ⟨_, rfl, a, _, 0, _, rfl, rfl, S1, rfl, _, rfl, _, _, rfl, rfl, (src : Int), 0, (n : Int) - 1, rfl, by omega, by omega, true, rfl, iteF ?_⟩
  refine ⟨_, rfl, a, _, 1, _, rfl, rfl, S1, rfl, _, _, _, _, true, rfl, .ty _, .base (.tup e2), kit_ty (by decide +kernel), true, rfl, iteF ?_⟩
  refine ⟨_, rfl, a, _, 1, _, rfl, rfl, S1, rfl, (by decide), fun p hp => ?_⟩
  have s0 : Same H (upd H p (.tup [])) := same_upd hp
  have une : us.isEmpty = false := by
    cases us with
    | nil => exact absurd (List.length_eq_zero_iff.mp e3.1.symm) o2
    | cons _ _ => rfl
  refine ⟨q, p, us, rfl, rfl, same_seqT s0 S2, .inl (.inl upd_same), us.isEmpty, rfl, ?_⟩
  rw [une]
  refine iteF ?_
  refine ⟨_, rfl, a, _, 1, _, rfl, rfl, same_seqT s0 S1, rfl, q, rfl, ⟨_, same_seqT s0 S2⟩, fun D hD => ?_⟩
  have s1 : Same H _ := s0
  refine lcm walk_tup hD (by have := e3.1; have : us.length ≤ 5 := by omega
                             exact Nat.le_trans this (by decide)) (fun _ => true) (fun _ y _ => y = .bl true) (fun _ _ _ _ _ h => h) (fun H' s => same_seqT (s0.trans s) S2) (fun i x H1 H' kN kY hi s y kn ky => ?_) (fun H' ys s e kp => ?_)
  · obtain ⟨rfl, hx⟩ := y
    obtain ⟨o, ho, hov⟩ := e3.get' hx
    refine ⟨rfl, iteT (B := kN H') ⟨_, rfl, _, rfl, _, rfl, n, x, o, rfl, hov.n (same_n (s0.trans s)), o4 o (List.mem_of_getElem? ho), fun H2 s2 => ky _ _ s2 rfl rfl⟩⟩
  · obtain ⟨l1, l2⟩ := kp.all
    have e3 := map_bl_all (H := H') l1 l2
    refine ⟨D, List.replicate us.length true, rfl, .inl (.inl (by rw [← e3]; exact e)), ?_⟩
    rw [all_true]
    exact k _ (s0.trans s)
def sp_is_name : Sp := fun vs H Q _ => vs = [.str "x"] ∧ ∀ H', Same H H' → Q (.bl true) H'
theorem c_is_name (T : Tx K mg) : C8.Cal P w K mg base 1 "is_name" sp_is_name [] := by
  obtain ⟨fd, F⟩ := T.f_is_name
  refine calD F T.g_is_name sc_is_name (fun _ _ _ _ _ _ us hl => match us, hl with | [_], _ => rfl) (fun vs H Q E h => ?_) (fun cdv A outer s H vs Q E hr h => ?_)
  · obtain ⟨rfl, _⟩ := h; rfl
  obtain ⟨rfl, k⟩ := h
  refine ⟨_, (pss_cons (ps_if (PW.pt (pw_or (pt_not (pt_val (pe_callB call_isi (by rfl) T.b_isinstance (by decide +kernel) (pa_cons (pv 0) (pa_cons (pe_bltn (v := .ty "str") (by rfl) T.b_str (by decide +kernel) rfl) pa_nil))))) (pw_or1 (pt_not (pt_chain op_le op_le pe_int (pe_callB call_len (by rfl) T.b_len (by decide +kernel) (pa_cons (pv 0) pa_nil)) (C8.pe_gc (by rfl) T.k_MOST_LETTERS)))))) (pss_one (ps_ret pe_bl)) pss_nil)
      (pss_one (ps_ret (pe_callB (cr_all rfl) (by rfl) T.b_all (by decide +kernel) (pa_cons (pe_lc (own := [("letter", 1)]) (g := gName 1) (by rfl) sc_is_name.nd (pi_str (pv 0)) (blkOk_by (own := [("letter", 1)]) (N := N_is_name) (sc := defScope s_is_name) (by decide +kernel)) (fun _ _ _ _ _ => (pg_name (i := 1) sc_is_name.nd rfl (Or.inl rfl))) (fun _ _ _ _ _ => pts_nil) (fun _ _ _ _ _ => (pe_cmpR op_in_sign (pv 1) (C8.pe_gc (by rfl) T.k_LETTERS) (by rfl)))) pa_nil))))), ?_⟩
  refine ⟨_, rfl, _, _, _, _, true, rfl, .ty _, .base (.str _), kit_ty (by decide +kernel), true, rfl, iteF ?_⟩
  refine ⟨_, rfl, _, 1, rfl, ⟨by decide +kernel, by decide +kernel⟩, _, _, rfl, rfl, true, rfl, iteT ⟨_, _, rfl, rfl, true, rfl, iteF ?_⟩⟩
  refine ⟨_, rfl, _, rfl, fun D hD => ?_⟩
  refine lcm walk_str hD (by decide +kernel) (fun _ => true) (fun _ y _ => y = .bl true) (fun _ _ _ _ _ h => h) (fun H' s => trivial) (fun i x H1 H' kN kY hi s y kn ky => ?_) (fun H' ys s e kp => ?_)
  · obtain ⟨rfl, c, hc, rfl⟩ := y
    have hc2 : c = 120 := by
      have z : (("x" : Str).cps : Array Nat) = #[120] := by decide +kernel
      rw [z] at hc
      cases i with
      | zero => simpa using hc.symm
      | succ j => simp at hc
    subst hc2
    refine ⟨rfl, iteT (B := kN H') ⟨_, rfl, 120, _, rfl, rfl, ?_⟩⟩
    rw [show decide (120 ∈ ("abcdefghijklmnopqrstuvwxyz" : Str).cps.toList) = true from by decide +kernel]
    exact ky _ _ (Same.refl _) rfl rfl
  · obtain ⟨l1, l2⟩ := kp.all
    have e3 := map_bl_all (H := H') l1 l2
    refine ⟨D, List.replicate _ true, rfl, .inl (.inl (by rw [← e3]; exact e)), ?_⟩
    rw [all_true]
    exact k _ s
def sp_is_measures (K : PySem.W.Frag) : Sp := fun vs H Q _ => ∃ a, vs = [.ref a] ∧ H a = some (.tup [.str "x"]) ∧ ∀ H', Same H H' → Q (.bl true) H'
theorem c_is_measures (T : Tx K mg) : C8.Cal P w K mg base 2 "is_measures" (sp_is_measures K) [] := by
  obtain ⟨fd, F⟩ := T.f_is_measures
  refine calD F T.g_is_measures sc_is_measures (fun _ _ _ _ _ _ us hl => match us, hl with | [_], _ => rfl) (fun vs H Q E h => ?_) (fun cdv A outer s H vs Q E hr h => ?_)
  · obtain ⟨_, rfl, _⟩ := h; rfl
  obtain ⟨a, rfl, e1, k⟩ := h
  refine ⟨_, (pss_cons (ps_if (PW.pt (pw_or (pt_not (pt_val (pe_callB call_isi (by rfl) T.b_isinstance (by decide +kernel) (pa_cons (pv 0) (pa_cons (pe_bltn (v := .ty "tuple") (by rfl) T.b_tuple (by decide +kernel) rfl) pa_nil))))) (pw_or (pt_cmpR op_gt (pe_callB call_len (by rfl) T.b_len (by decide +kernel) (pa_cons (pv 0) pa_nil)) (C8.pe_gc (by rfl) T.k_MOST_MEASURES) (nomark _)) (pw_or1 (pt_not (pt_val (pe_callB (cr_all rfl) (by rfl) T.b_all (by decide +kernel) (pa_cons (pe_lc (own := [("name", 1)]) (g := gName 1) (by rfl) sc_is_measures.nd (pi_tup (pv 0)) (blkOk_by (own := [("name", 1)]) (N := N_is_measures) (sc := defScope s_is_measures) (by decide +kernel)) (fun _ _ _ _ _ => (pg_name (i := 1) sc_is_measures.nd rfl (Or.inl rfl))) (fun _ _ _ _ _ => pts_nil) (fun _ _ _ _ _ => (C8.pe_c (c_is_name T) hr (by decide) (by rfl) (pa_cons (pv 1) pa_nil)))) pa_nil)))))))) (pss_one (ps_ret pe_bl)) pss_nil)
      (pss_one (ps_ret (pe_callB (cr_all rfl) (by rfl) T.b_all (by decide +kernel) (pa_cons (pe_lc (own := [("name", 1), ("later", 2)]) (g := gTup K 2 (gCons (gName 1) (gCons (gName 2) (gNil)))) (by rfl) sc_is_measures.nd (RZ.pi_zipA (by rfl) T.b_zip (pa_cons (pv 0) (pa_cons (pe_slice sl_tupA (pv 0) (po_some pe_int) po_none) pa_nil))) (blkOk_by (own := [("name", 1), ("later", 2)]) (N := N_is_measures) (sc := defScope s_is_measures) (by decide +kernel)) (fun _ _ _ _ _ => (pg_tup rfl (pgs_cons (pg_name (i := 1) sc_is_measures.nd rfl (Or.inl rfl)) (pgs_cons (pg_name (i := 2) sc_is_measures.nd rfl (Or.inl rfl)) pgs_nil)))) (fun _ _ _ _ _ => pts_nil) (fun _ _ _ _ _ => (pe_cmpR op_lt (pv 1) (pv 2) (nomark _)))) pa_nil))))), ?_⟩
  have S1 : SqT K H a [.str "x"] := .inl (.inl e1)
  refine ⟨_, rfl, _, _, _, _, true, rfl, .ty _, .base (.tup e1), kit_ty (by decide +kernel), true, rfl, iteF ?_⟩
  refine ⟨_, rfl, _, 1, rfl, .inr ⟨_, S1, rfl⟩, _, _, rfl, rfl, false, rfl, iteF ?_⟩
  refine ⟨_, rfl, a, rfl, ⟨_, S1⟩, fun D hD => ?_⟩
  refine lcm walk_tup hD (by decide) (fun _ => true) (fun _ y _ => y = .bl true) (fun _ _ _ _ _ h => h) (fun H' s => same_seqT s S1) (fun i x H1 H' kN kY hi s y kn ky => ?_) (fun H1 ys s e kp => ?_)
  · obtain ⟨rfl, hx⟩ := y
    have hx2 : x = .str "x" := by
      cases i with
      | zero => simpa using hx.symm
      | succ j => simp at hx
    subst hx2
    exact ⟨rfl, iteT (B := kN H') ⟨_, rfl, rfl, fun H2 s2 => ky _ _ s2 rfl rfl⟩⟩
  obtain ⟨l1, l2⟩ := kp.all
  have e3 := map_bl_all (H := H1) l1 l2
  refine ⟨D, List.replicate _ true, rfl, .inl (.inl (by rw [← e3]; exact e)), true, ?_, iteF ?_⟩
  · rw [all_true]
  refine ⟨_, rfl, _, rfl, 1, rfl, a, [.str "x"], rfl, same_seqT s S1, fun z => absurd z.1 (by rw [sIx_1]; decide), fun _ p hp => ?_⟩
  rw [cut1]
  have s2 : Same H (upd H1 p (.tup (([V.str "x"] : List V).drop 1))) := s.trans (same_upd hp)
  refine ⟨a, p, _, _, rfl, .inr ⟨same_seqT s2 S1, .inl (.inl upd_same), fun D2 hD2 => ?_⟩⟩
  refine lcm (walk_zipT (xs := [V.str "x"]) (ys := ([V.str "x"] : List V).drop 1) (n := 0) rfl) hD2 (by decide) (fun _ => true) (fun _ y _ => y = .bl true) (fun _ _ _ _ _ h => h) (fun H' s => ⟨same_seqT (s2.trans s) S1, same_seqT s (.inl (.inl upd_same))⟩) (fun i x H1 H' kN kY hi s y kn ky => absurd hi (Nat.not_lt_zero _)) (fun H2 ys s3 e kp => ?_)
  obtain ⟨l1, l2⟩ := kp.all
  have e3 := map_bl_all (H := H2) l1 l2
  refine ⟨D2, List.replicate 0 true, rfl, .inl (.inl (by rw [← e3]; exact e)), ?_⟩
  exact k _ (s2.trans s3)
/-- a goal: an ascending tuple of states -/
def GoalV (K : PySem.W.Frag) (H : Hp) (v : V) (g : List Nat) : Prop := ∃ a, v = .ref a ∧ H a = some (.tup (g.map fun n : Nat => V.int (n : Int)))
def Asc (g : List Nat) : Prop := ∀ (i : Nat) x y, g[i]? = some x → g[i + 1]? = some y → x < y
def sp_is_lot (K : PySem.W.Frag) : Sp := fun vs H Q _ => ∃ v g, vs = [v] ∧ GoalV K H v g ∧ Asc g ∧ g.length ≤ 200 ∧ ∀ H', Same H H' → Q (.bl true) H'
theorem c_is_lot (T : Tx K mg) : C8.Cal P w K mg base 2 "is_lot" (sp_is_lot K) [] := by
  obtain ⟨fd, F⟩ := T.f_is_lot
  refine calD F T.g_is_lot sc_is_lot (fun _ _ _ _ _ _ us hl => match us, hl with | [_], _ => rfl) (fun vs H Q E h => ?_) (fun cdv A outer s H vs Q E hr h => ?_)
  · obtain ⟨_, _, rfl, _⟩ := h; rfl
  obtain ⟨v, g, rfl, ⟨a, rfl, e1⟩, asc, hl, k⟩ := h
  refine ⟨_, (pss_cons (ps_if (PW.pt (pw_or (pt_not (pt_val (pe_callB call_isi (by rfl) T.b_isinstance (by decide +kernel) (pa_cons (pv 0) (pa_cons (pe_bltn (v := .ty "tuple") (by rfl) T.b_tuple (by decide +kernel) rfl) pa_nil))))) (pw_or1 (pt_not (pt_val (pe_callB (cr_all rfl) (by rfl) T.b_all (by decide +kernel) (pa_cons (pe_lc (own := [("step", 1)]) (g := gName 1) (by rfl) sc_is_lot.nd (pi_tup (pv 0)) (blkOk_by (own := [("step", 1)]) (N := N_is_lot) (sc := defScope s_is_lot) (by decide +kernel)) (fun _ _ _ _ _ => (pg_name (i := 1) sc_is_lot.nd rfl (Or.inl rfl))) (fun _ _ _ _ _ => pts_nil) (fun _ _ _ _ _ => (pe_and (C8.pe_c (c_is_integer T) hr (by decide) (by rfl) (pa_cons (pv 1) pa_nil)) (pe_one (pe_cmpR op_ge (pv 1) pe_int (nomark _)))))) pa_nil))))))) (pss_one (ps_ret pe_bl)) pss_nil)
      (pss_one (ps_ret (pe_callB (cr_all rfl) (by rfl) T.b_all (by decide +kernel) (pa_cons (pe_lc (own := [("step", 1), ("later", 2)]) (g := gTup K 2 (gCons (gName 1) (gCons (gName 2) (gNil)))) (by rfl) sc_is_lot.nd (RZ.pi_zipA (by rfl) T.b_zip (pa_cons (pv 0) (pa_cons (pe_slice sl_tupA (pv 0) (po_some pe_int) po_none) pa_nil))) (blkOk_by (own := [("step", 1), ("later", 2)]) (N := N_is_lot) (sc := defScope s_is_lot) (by decide +kernel)) (fun _ _ _ _ _ => (pg_tup rfl (pgs_cons (pg_name (i := 1) sc_is_lot.nd rfl (Or.inl rfl)) (pgs_cons (pg_name (i := 2) sc_is_lot.nd rfl (Or.inl rfl)) pgs_nil)))) (fun _ _ _ _ _ => pts_nil) (fun _ _ _ _ _ => (pe_cmpR op_lt (pv 1) (pv 2) (nomark _)))) pa_nil))))), ?_⟩
  generalize hxs : (g.map fun n : Nat => V.int (n : Int)) = xs at *
  have hxl : xs.length = g.length := by rw [← hxs]; simp
  have hget : ∀ (i : Nat) x, xs[i]? = some x → ∃ n : Nat, g[i]? = some n ∧ x = .int (n : Int) := by
    intro i x hx
    rw [← hxs, List.getElem?_map] at hx
    cases hg : g[i]? with
    | none => rw [hg] at hx; cases hx
    | some n => rw [hg] at hx; cases hx; exact ⟨n, rfl, rfl⟩
  have hsz : ∀ m, m ≤ 200 → m ≤ sizeLine := fun m hm => Nat.le_trans hm (by decide)
  have S1 : SqT K H a xs := .inl (.inl e1)
  refine ⟨_, rfl, _, _, _, _, true, rfl, .ty _, .base (.tup e1), kit_ty (by decide +kernel), true, rfl, iteF ?_⟩
  refine ⟨_, rfl, a, rfl, ⟨_, S1⟩, fun D hD => ?_⟩
  refine lcm walk_tup hD (hsz _ (by omega)) (fun _ => true) (fun _ y _ => y = .bl true) (fun _ _ _ _ _ h => h) (fun H' s => same_seqT s S1) (fun i x H1 H' kN kY hi s y kn ky => ?_) (fun H1 ys s e kp => ?_)
  · obtain ⟨rfl, hx⟩ := y
    obtain ⟨n, _, rfl⟩ := hget i x hx
    refine ⟨rfl, iteT (B := kN H') ⟨_, rfl, _, rfl, true, rfl, iteT ⟨_, rfl, _, _, rfl, rfl, ?_⟩⟩⟩
    have : decide ((0 : Int) ≤ (n : Int)) = true := decide_eq_true (by omega)
    show kY (V.bl (decide ((0 : Int) ≤ (n : Int)))) _
    rw [this]
    exact ky _ _ (Same.refl _) rfl rfl
  obtain ⟨l1, l2⟩ := kp.all
  have e3 := map_bl_all (H := H1) l1 l2
  refine ⟨D, List.replicate _ true, rfl, .inl (.inl (by rw [← e3]; exact e)), true, ?_, iteF ?_⟩
  · rw [all_true]
  have fin : ∀ H2 b, Same H H2 → SqT K H2 b (xs.drop 1) → ∀ D2, H2 D2 = none → ∃ W : Nat → Nat → Hp → Prop, (∃ m, W 0 m (upd H2 D2 (.lst []))) ∧ ∀ i m H, W i m H → _ := fun H2 b s2 S2 D2 hD2 =>
    lcm (g := gTup K 2 (gCons (gName 1) (gCons (gName 2) gNil))) (σ := [some (V.ref a), none, none]) (vs := [1, 2]) (tt := tYes) (te := tOp (rI0 fun i j => .bl (decide (i < j))) (tVar 1) (tVar 2)) (Qd := fun H' => rAll K [V.ref D2] H' Q) (walk_zipT (a := a) (b := b) (xs := xs) (ys := xs.drop 1) (n := min xs.length (xs.drop 1).length) rfl) hD2 (hsz _ (by omega)) (fun _ => true) (fun _ y _ => y = .bl true) (fun _ _ _ _ _ h => h) (fun H' s => ⟨same_seqT (s2.trans s) S1, same_seqT s S2⟩) (fun i x H1 H' kN kY hi s y kn ky => by
      obtain ⟨Tp, x1, y1, rfl, hT, rfl, hx, hy⟩ := y
      obtain ⟨n1, g1, rfl⟩ := hget i _ hx
      have hy : (xs.drop 1)[i]? = some y1 := hy
      rw [List.getElem?_drop] at hy
      obtain ⟨n2, g2, rfl⟩ := hget _ _ hy
      have lt := asc i n1 n2 g1 (by rw [Nat.add_comm] at g2; exact g2)
      refine ⟨_, _, rfl, .inl (.inl upd_same), rfl, _, _, rfl, _, _, rfl, rfl, rfl, iteT (B := kN (upd H1 Tp (.tup [.int (n1 : Int), .int (n2 : Int)]))) ⟨_, rfl, _, rfl, _, _, rfl, rfl, ?_⟩⟩
      have : decide ((n1 : Int) < (n2 : Int)) = true := decide_eq_true (by omega)
      show kY (V.bl (decide ((n1 : Int) < (n2 : Int)))) _
      rw [this]
      exact ky _ _ (same_upd hT) rfl rfl) (fun H3 ys s3 e kp => by
      obtain ⟨l1, l2⟩ := kp.all
      have e3 := map_bl_all (H := H3) l1 l2
      refine ⟨D2, List.replicate _ true, rfl, .inl (.inl (by rw [← e3]; exact e)), ?_⟩
      rw [all_true]
      exact k _ (s2.trans s3))
  refine ⟨_, rfl, _, rfl, 1, rfl, a, xs, rfl, same_seqT s S1, fun z => ?_, fun _ p hp => ?_⟩
  · have z1 := z.1
    rw [sIx_1] at z1
    have : xs = [] := by
      cases xs with
      | nil => rfl
      | cons u r => simp at z1; try omega
    refine ⟨a, a, xs, xs, rfl, .inr ⟨same_seqT s S1, same_seqT s S1, fun D2 hD2 => ?_⟩⟩
    exact fin _ a s (by rw [this] at S1 ⊢; exact same_seqT s S1) D2 hD2
  · rw [cut1]
    have s2 : Same H (upd H1 p (.tup (xs.drop 1))) := s.trans (same_upd hp)
    refine ⟨a, p, xs, xs.drop 1, rfl, .inr ⟨same_seqT s2 S1, .inl (.inl upd_same), fun D2 hD2 => ?_⟩⟩
    exact fin _ p s2 (.inl (.inl upd_same)) D2 hD2
end
end Lc
set_option Elab.async false
set_option linter.all false
set_option maxRecDepth 100000
set_option maxHeartbeats 4000000
namespace Lc
open PySem PySem.Spec PyProof.Rows L2 LcR
/-! ### dict comprehensions over any walk -/
theorem dc_it {J : It} {n : Nat} {G : Hp → Prop} {Y : Nat → Hp → V → Hp → Prop} (w : Walk J n G Y) {g : TG} {tt : TT} {tk tv : TE} {vs : List Nat} {σ : L2.St} {H1 : Hp} {D : Addr} {Qd : Hp → Prop} (Pv : Nat → Hp → Prop) (h0 : Pv 0 (upd H1 D (.dK []))) (hG : ∀ i H, i ≤ n → Pv i H → G H)
    (hs : ∀ i x H H', i < n → Pv i H → Y i H x H' → g x (wipe σ vs) H' fun σ2 H2 => wipe σ2 vs = wipe σ vs ∧ tt σ2 H2 fun b H3 =>
      if b = true then tk σ2 H3 fun y H4 => tv σ2 H4 fun z H5 => ∃ kvs k, y = kV k ∧ H5 D = some (.dK kvs) ∧ kvs.length < sizeLine ∧ Pv (i + 1) (upd H5 D (.dK (putK kvs k z))) else Pv (i + 1) H3) (hd : ∀ H, Pv n H → Qd H) :
    ∃ W : Nat → Nat → Hp → Prop, (∃ m, W 0 m (upd H1 D (.dK []))) ∧ ∀ i m H, W i m H →
      (J.stop i H ∧ Qd H) ∨ (J.go i H ∧ ∃ Nx : Hp → Prop, (∀ H', Nx H' → ∃ m', m' < m ∧ W (i + 1) m' H') ∧ ∀ x H', J.yld i H x H' → g x (wipe σ vs) H' fun σ2 H2 => wipe σ2 vs = wipe σ vs ∧ tt σ2 H2 fun b H3 =>
        if b = true then tk σ2 H3 fun y H4 => tv σ2 H4 fun z H5 => ∃ kvs k, y = kV k ∧ H5 D = some (.dK kvs) ∧ kvs.length < sizeLine ∧ Nx (upd H5 D (.dK (putK kvs k z))) else Nx H3) := by
  refine ⟨fun i m H => m = n - i ∧ i ≤ n ∧ Pv i H, ⟨n, by simp, Nat.zero_le _, h0⟩, ?_⟩
  rintro i m H ⟨rfl, hi, p⟩
  have q := hG i H hi p
  by_cases hlt : i < n
  · exact .inr ⟨w.goes i H hlt q, Pv (i + 1), fun H' p' => ⟨n - (i + 1), by omega, rfl, hlt, p'⟩, fun x H' y => hs i x H H' hlt p (w.yields i H x H' hlt q y)⟩
  · have e : i = n := by omega
    subst e
    exact .inl ⟨w.stops H q, hd H p⟩
theorem keys_put {kvs : List (Key × V)} {k : Key} {v : V} (h : (kvs.map (·.1)).Nodup) : ((putK kvs k v).map (·.1)).Nodup := by
  cases e : valV kvs k with
  | none => exact nd_putK v h e
  | some u =>
    have e1 : (putK kvs k v).map (·.1) = kvs.map (·.1) := by
      unfold putK
      have hany : (kvs.any fun kv => decide (kv.1 = k)) = true := by rw [valV_any, e]; rfl
      rw [if_pos hany, List.map_map]
      refine List.map_congr_left fun p _ => ?_
      show (if p.1 = k then (p.1, v) else p).1 = p.1
      split <;> rfl
    rw [e1]
    exact h
theorem nodup_len {α : Type} : ∀ {l m : List α}, l.Nodup → (∀ x ∈ l, x ∈ m) → l.length ≤ m.length
  | [], m, _, _ => Nat.zero_le _
  | x :: r, m, hn, hs => by
    obtain ⟨a, b, rfl⟩ := List.append_of_mem (hs x List.mem_cons_self)
    rw [List.nodup_cons] at hn
    have := nodup_len (l := r) (m := a ++ b) hn.2 fun y hy => by
      have := hs y (List.mem_cons_of_mem _ hy)
      rw [List.mem_append, List.mem_cons] at this
      rw [List.mem_append]
      rcases this with h | h | h
      · exact .inl h
      · subst h; exact absurd hy hn.1
      · exact .inr h
    simp at this ⊢
    omega
theorem mem_keys {kvs : List (Key × V)} {k : Key} (h : (valV kvs k).isSome = true) : k ∈ kvs.map (·.1) := by
  cases e : valV kvs k with
  | none => rw [e] at h; cases h
  | some v => exact valV_in e
theorem yes {σ : L2.St} {H : Hp} {f g : Hp → Prop} (h : f H) : tYes σ H fun b H3 => if b = true then f H3 else g H3 := by
  show if true = true then f H else g H
  rw [if_pos rfl]
  exact h
section
variable {P : Program} {w : World} {K : PySem.W.Frag} {mg : Str → Option Value} {base : Heap}
/-- how many outcomes -/
def lens (l : List ActD) : List Int := l.map fun d => (d.2.length : Int)
theorem lens_sum (n : Nat) : ∀ (l : List ActD), (∀ d ∈ l, OkAct n d) → 0 ≤ (lens l).sum ∧ (lens l).sum ≤ 5 * (l.length : Int)
  | [], _ => ⟨by simp [lens], by simp [lens]⟩
  | d :: r, h => by
    have h1 := (h d List.mem_cons_self).len
    have h2 := lens_sum n r fun e he => h e (List.mem_cons_of_mem _ he)
    simp only [lens, List.map_cons, List.sum_cons, List.length_cons] at h2 ⊢
    omega
theorem map_lens {ys : List V} {l : List ActD} (h1 : ys.length = l.length) (h2 : ∀ (i : Nat) y, ys[i]? = some y → ∃ d, l[i]? = some d ∧ y = V.int (d.2.length : Int)) : ys = (lens l).map V.int := by
  apply List.ext_getElem?
  intro i
  unfold lens
  rw [List.map_map, List.getElem?_map]
  by_cases hi : i < ys.length
  · obtain ⟨d, hd, e⟩ := h2 i _ (List.getElem?_eq_getElem hi)
    rw [List.getElem?_eq_getElem hi, e, hd]
    rfl
  · rw [List.getElem?_eq_none (by omega), List.getElem?_eq_none (by omega)]
    rfl
def sp_need_parts (K : PySem.W.Frag) : Sp := fun vs H Q _ => ∃ (n : Nat) (m : Addr) (v : V) (l : List ActD), vs = [.int (n : Int), .int 0, .ref m, v] ∧ H m = some (.tup [.str "x"]) ∧ ActsV H v l ∧ OkActs n l ∧ ∀ H', Same H H' → Q .non H'
theorem c_need_parts (T : Tx K mg) : C8.Cal P w K mg base 6 "need_parts" (sp_need_parts K) [] := by
  obtain ⟨fd, F⟩ := T.f_need_parts
  refine calD F T.g_need_parts sc_need_parts (fun _ _ _ _ _ _ us hl => match us, hl with | [_, _, _, _], _ => rfl) (fun vs H Q E h => ?_) (fun cdv A outer s H vs Q E hr h => ?_)
  · obtain ⟨_, _, _, _, rfl, _⟩ := h; rfl
  obtain ⟨n, m, v, l, rfl, em, ⟨a, us, rfl, ea, al⟩, ok, k⟩ := h
  obtain ⟨n1, n2, len, acts, all⟩ := ok
  refine ⟨_, (pss_cons (ps_if (pt_not (pt_val (C8.pe_c (c_is_within T) hr (by decide) (by rfl) (pa_cons (pv 0) (pa_cons pe_int (pa_cons (C8.pe_gc (by rfl) T.k_MOST_STATES) pa_nil)))))) (pss_one ps_never) pss_nil)
      (pss_cons (ps_if (pt_not (pt_val (C8.pe_c (c_is_within T) hr (by decide) (by rfl) (pa_cons (pv 1) (pa_cons pe_int (pa_cons (pe_op op_sub (pv 0) pe_int) pa_nil)))))) (pss_one ps_never) pss_nil)
      (pss_cons (ps_if (pt_not (pt_val (C8.pe_c (c_is_measures T) hr (by decide) (by rfl) (pa_cons (pv 2) pa_nil)))) (pss_one ps_never) pss_nil)
      (pss_cons (ps_if (pt_not (pt_val (pe_callB call_isi (by rfl) T.b_isinstance (by decide +kernel) (pa_cons (pv 3) (pa_cons (pe_bltn (v := .ty "tuple") (by rfl) T.b_tuple (by decide +kernel) rfl) pa_nil))))) (pss_one ps_never) pss_nil)
      (pss_cons (ps_if (pt_cmpR op_gt (pe_callB call_len (by rfl) T.b_len (by decide +kernel) (pa_cons (pv 3) pa_nil)) (C8.pe_gc (by rfl) T.k_MOST_ACTS) (nomark _)) (pss_one ps_never) pss_nil)
      (pss_cons (ps_for PassesOwn.never rfl (LcE.pi_enumT (by rfl) T.b_enumerate (pa_cons (pv 3) pa_nil)) (pg_tup rfl (pgs_cons (pg_name (i := 4) sc_need_parts.nd rfl (Or.inl rfl)) (pgs_cons (pg_name (i := 5) sc_need_parts.nd rfl (Or.inl rfl)) pgs_nil)))
      (pss_one (ps_if (pt_not (pt_val (C8.pe_c (c_is_act T) hr (by decide) (by rfl) (pa_cons (pv 0) (pa_cons (pe_callB call_len (by rfl) T.b_len (by decide +kernel) (pa_cons (pv 2) pa_nil)) (pa_cons (pv 5) pa_nil)))))) (pss_one ps_never) pss_nil)))
      (pss_cons (ps_if (pt_cmpR op_lt (pe_callB call_lenD (by rfl) T.b_len (by decide +kernel) (pa_cons (pe_dc (own := [("source", 6), ("outcomes", 7)]) (g := gTup K 2 (gCons (gName 6) (gCons (gName 7) (gNil)))) (by rfl) sc_need_parts.nd (pi_tup (pv 3)) (blkOk_by (own := [("source", 6), ("outcomes", 7)]) (N := N_need_parts) (sc := defScope s_need_parts) (by decide +kernel)) (fun _ _ _ _ _ => (pg_tup rfl (pgs_cons (pg_name (i := 6) sc_need_parts.nd rfl (Or.inl rfl)) (pgs_cons (pg_name (i := 7) sc_need_parts.nd rfl (Or.inl rfl)) pgs_nil)))) (fun _ _ _ _ _ => pts_nil) (fun _ _ _ _ _ => (pv 6)) (fun _ _ _ _ _ => pe_bl)) pa_nil)) (pv 0) (nomark _)) (pss_one ps_never) pss_nil)
      (pss_one (ps_if (pt_cmpR op_gt (pe_callB (cr_sum rfl) (by rfl) T.b_sum (by decide +kernel) (pa_cons (pe_lc (own := [("source", 6), ("outcomes", 7)]) (g := gTup K 2 (gCons (gName 6) (gCons (gName 7) (gNil)))) (te := (tCB (rLen K) (tCons (tVar 7) tNil))) (by rfl) sc_need_parts.nd (pi_tup (pv 3)) (blkOk_by (own := [("source", 6), ("outcomes", 7)]) (N := N_need_parts) (sc := defScope s_need_parts) (by decide +kernel)) (fun _ _ _ _ _ => (pg_tup rfl (pgs_cons (pg_name (i := 6) sc_need_parts.nd rfl (Or.inl rfl)) (pgs_cons (pg_name (i := 7) sc_need_parts.nd rfl (Or.inl rfl)) pgs_nil)))) (fun _ _ _ _ _ => pts_nil) (fun _ _ _ _ _ => (pe_callB call_len (by rfl) T.b_len (by decide +kernel) (pa_cons (pv 7) pa_nil)))) pa_nil)) (C8.pe_gc (by rfl) T.k_MOST_STEPS) (nomark _)) (pss_one ps_never) pss_nil))))))))), ?_⟩
  have S1 : SqT K H a us := .inl (.inl ea)
  have S2 : SqT K H m [.str "x"] := .inl (.inl em)
  have ul : us.length = l.length := al.1
  have hsz : us.length ≤ sizeLine := Nat.le_trans (by omega : us.length ≤ 30) (by decide)
  refine ⟨_, rfl, (n : Int), 1, 200, rfl, by omega, by omega, true, rfl, iteF ?_⟩
  refine ⟨_, rfl, _, rfl, _, _, rfl, rfl, 0, 0, (n : Int) - 1, rfl, by omega, by omega, true, rfl, iteF ?_⟩
  refine ⟨_, rfl, m, rfl, em, fun H1 s1 => ⟨true, rfl, iteF ?_⟩⟩
  refine ⟨_, rfl, _, _, _, _, true, rfl, .ty _, .base (.tup (s1 _ _ ea)), kit_ty (by decide +kernel), true, rfl, iteF ?_⟩
  refine ⟨_, rfl, _, us.length, rfl, .inr ⟨_, same_seqT s1 S1, rfl⟩, _, _, rfl, rfl, decide ((600 : Int) < (us.length : Int)), rfl, ?_⟩
  rw [show decide ((600 : Int) < (us.length : Int)) = false from decide_eq_false (by omega)]
  refine iteF ?_
  refine ⟨_, rfl, a, us, rfl, same_seqT s1 S1, ?_⟩
  refine for_it LcE.walk_enumT (fun i σ H2 => (∃ x y, σ = [some (.int (n : Int)), some (.int 0), some (.ref m), some (.ref a), x, y, none, none]) ∧ Same H H2) ⟨⟨none, none, rfl⟩, s1⟩ (fun i σ H2 _ p => same_seqT p.2 S1) ?_ ?_
  · rintro i x σ H2 H3 hi ⟨⟨z1, z2, rfl⟩, s2⟩ ⟨Tp, x1, y1, rfl, hT, rfl, hx, hy⟩
    cases hx
    have s3 : Same H (upd H2 Tp (.tup [.int (i : Nat), y1])) := s2.trans (same_upd hT)
    obtain ⟨d, hd, hv⟩ := al.get' hy
    refine ⟨_, _, rfl, .inl (.inl upd_same), rfl, _, _, rfl, _, _, rfl, rfl, ?_⟩
    refine ⟨_, rfl, _, rfl, _, 1, rfl, .inr ⟨_, same_seqT s3 S2, rfl⟩, _, rfl, n, y1, d, rfl, hv.n (same_n s3), acts d (List.mem_of_getElem? hd), fun H4 s4 => ⟨true, rfl, iteF ?_⟩⟩
    exact ⟨⟨_, _, rfl⟩, s3.trans s4⟩
  rintro σ H2 ⟨⟨z1, z2, rfl⟩, s2⟩
  refine ⟨_, rfl, a, rfl, ⟨us, same_seqT s2 S1⟩, fun D hD => ?_⟩
  refine dc_it walk_tup (fun i H' => Same H2 H' ∧ ∃ kvs, H' D = some (.dK kvs) ∧ (kvs.map (·.1)).Nodup ∧ kvs.length ≤ i ∧ ∀ (j : Nat) d, j < i → l[j]? = some d → (valV kvs (.inl (d.1 : Int))).isSome = true)
    ⟨same_upd hD, [], upd_same, List.nodup_nil, Nat.zero_le _, fun j d hj => absurd hj (Nat.not_lt_zero _)⟩ (fun i H' _ p => same_seqT (s2.trans p.1) S1) ?_ ?_
  · rintro i x H3 H4 hi ⟨s3, kvs, ek, nd, kl, hk⟩ ⟨rfl, hx⟩
    obtain ⟨d, hd, p, q, ws, rfl, e1, e2, e3⟩ := al.get' hx
    refine ⟨p, _, rfl, .inl (.inl (same_n (s2.trans s3) _ _ e1 trivial)), rfl, _, _, rfl, _, _, rfl, rfl, rfl, yes ⟨_, rfl, kvs, .inl (d.1 : Int), rfl, ek, by show kvs.length < 16777216; omega, ?_⟩⟩
    refine ⟨fun b o hb => ?_, _, upd_same, keys_put nd, Nat.le_trans (length_putK _ _ _) (by omega), fun j d' hj hd' => ?_⟩
    · rw [upd_ne (ne_of_none hb hD)]
      exact s3 _ _ hb
    · rw [valV_put]
      by_cases hji : j = i
      · subst hji
        rw [hd] at hd'
        cases hd'
        rw [if_pos rfl]
        rfl
      · split
        · rfl
        · exact hk j d' (by omega) hd'
  rintro H3 ⟨s3, kvs, ek, nd, kl, hk⟩
  have hn : n ≤ kvs.length := by
    have h1 := nodup_len (l := (List.range n).map fun i : Nat => (Sum.inl (i : Int) : Key)) (m := kvs.map (·.1)) (by
      exact List.Pairwise.map _ (fun a b (h : a ≠ b) e => h (by have := Sum.inl.inj e; omega)) List.nodup_range) fun x hx => by
      obtain ⟨i, hi, rfl⟩ := List.mem_map.mp hx
      obtain ⟨d, hd, e⟩ := all i (List.mem_range.mp hi)
      obtain ⟨j, hj, e2⟩ := List.getElem_of_mem hd
      rw [← e]
      exact mem_keys (hk j d (by omega) (by rw [← e2]; exact List.getElem?_eq_getElem hj))
    simpa using h1
  have s4 := s2.trans s3
  refine ⟨D, kvs, rfl, ek, _, rfl, _, _, rfl, rfl, decide ((kvs.length : Int) < (n : Int)), rfl, ?_⟩
  rw [show decide ((kvs.length : Int) < (n : Int)) = false from decide_eq_false (by omega)]
  refine iteF ?_
  refine ⟨_, rfl, a, rfl, ⟨us, same_seqT s4 S1⟩, fun D2 hD2 => ?_⟩
  refine lcm walk_tup hD2 hsz (fun _ => true) (fun i y _ => ∃ d, l[i]? = some d ∧ y = V.int (d.2.length : Int)) (fun _ _ _ _ _ h => h) (fun H' s => same_seqT (s4.trans s) S1) (fun i x H5 H' kN kY hi s y kn ky => ?_) (fun H' ys s e kp => ?_)
  · obtain ⟨rfl, hx⟩ := y
    obtain ⟨d, hd, p, q, ws, rfl, e1, e2, e3⟩ := al.get' hx
    have s5 := same_n (s4.trans s)
    refine ⟨p, _, rfl, .inl (.inl (s5 _ _ e1 trivial)), rfl, _, _, rfl, _, _, rfl, rfl, rfl, yes ⟨_, rfl, _, ws.length, rfl, .inr ⟨ws, .inl (.inl (s5 _ _ e2 trivial)), rfl⟩, ?_⟩⟩
    exact ky _ _ (Same.refl _) rfl ⟨d, hd, by rw [e3.1]⟩
  · obtain ⟨l1, l2⟩ := kp.all
    have e3 := map_lens (l1.trans ul) l2
    have hs := lens_sum n l acts
    refine ⟨D2, lens l, rfl, .inl (.inl (by rw [← e3]; exact e)), _, _, rfl, rfl, decide ((1200 : Int) < (lens l).sum), rfl, ?_⟩
    rw [show decide ((1200 : Int) < (lens l).sum) = false from decide_eq_false (by omega)]
    refine iteF ?_
    exact k _ (s4.trans s)
end
end Lc
set_option Elab.async false
set_option linter.all false
set_option maxRecDepth 100000
set_option maxHeartbeats 4000000
namespace Lc
open PySem PySem.Spec PyProof.Rows L2 LcR
/-! ### steps -/
def flS (a s t o u : Nat) (pv : V) : List (Str × V) := [("act", .int (a : Int)), ("source", .int (s : Int)), ("target", .int (t : Int)), ("odds", .int (o : Int)), ("time", .int (u : Int)), ("pays", pv)]
def StepV (K : PySem.W.Frag) (H : Hp) (v : V) (z : Nat × Nat × OutD) : Prop := ∃ x dx pv, v = .ref x ∧ H x = some (.ins (CStep K) dx (flS z.1 z.2.1 z.2.2.target z.2.2.odds z.2.2.time pv))
theorem StepV.n {K : PySem.W.Frag} {H H' : Hp} {v : V} {z : Nat × Nat × OutD} (h : StepV K H v z) (s : SameN H H') : StepV K H' v z := by
  obtain ⟨x, dx, pv, rfl, e⟩ := h
  exact ⟨x, dx, pv, rfl, s _ _ e trivial⟩
/-- the steps of acts, numbered from k -/
def flat : Nat → List ActD → List (Nat × Nat × OutD)
  | _, [] => []
  | k, d :: r => d.2.map (fun o => (k, d.1, o)) ++ flat (k + 1) r
theorem flat_snoc (d : ActD) : ∀ (k : Nat) (l : List ActD), flat k (l ++ [d]) = flat k l ++ d.2.map (fun o => (k + l.length, d.1, o))
  | k, [] => by simp [flat]
  | k, e :: r => by
    simp only [List.cons_append, flat, flat_snoc d (k + 1) r, List.append_assoc, List.length_cons]
    congr 2
    refine congrArg (fun j => d.2.map (fun o => (j, d.1, o))) ?_
    omega
/-- how many steps stand ahead of the i-th act -/
def off (l : List ActD) (i : Nat) : Nat := ((l.take i).map fun d => d.2.length).sum
theorem flat_len : ∀ (k : Nat) (l : List ActD), (flat k l).length = (l.map fun d => d.2.length).sum
  | _, [] => rfl
  | k, d :: r => by simp [flat, flat_len (k + 1) r]
theorem flat_app (l m : List ActD) : ∀ k, flat k (l ++ m) = flat k l ++ flat (k + l.length) m := by
  induction l with
  | nil => intro k; rfl
  | cons d r ih => intro k; simp only [List.cons_append, flat, ih, List.append_assoc, List.length_cons]; rw [show k + 1 + r.length = k + (r.length + 1) by omega]
theorem flat_get {l : List ActD} {i j : Nat} {d : ActD} {o : OutD} (hd : l[i]? = some d) (ho : d.2[j]? = some o) : (flat 0 l)[off l i + j]? = some (i, d.1, o) := by
  have hi : i < l.length := (List.getElem?_eq_some_iff.mp hd).1
  have e1 : l = l.take i ++ (d :: l.drop (i + 1)) := by
    conv => lhs; rw [← List.take_append_drop i l]
    rw [List.drop_eq_getElem_cons hi]
    congr 2
    exact (List.getElem?_eq_some_iff.mp hd).2
  have hl : (flat 0 (l.take i)).length = off l i := flat_len 0 _
  conv => lhs; arg 1; rw [e1, flat_app]
  rw [List.getElem?_append_right (by omega), hl, Nat.add_sub_cancel_left]
  have ti : (l.take i).length = i := by rw [List.length_take]; omega
  show (d.2.map (fun o => (0 + (l.take i).length, d.1, o)) ++ _)[j]? = _
  have hj : j < d.2.length := (List.getElem?_eq_some_iff.mp ho).1
  rw [List.getElem?_append_left (by simpa using hj), List.getElem?_map, ho, ti, Nat.zero_add]
  rfl
theorem off_succ {l : List ActD} {i : Nat} {d : ActD} (h : l[i]? = some d) : off l (i + 1) = off l i + d.2.length := by
  unfold off
  rw [List.take_add_one, h]
  simp
theorem off_le (n : Nat) : ∀ (l : List ActD), (∀ d ∈ l, OkAct n d) → ∀ i, off l i ≤ 5 * l.length
  | [], _, i => by simp [off]
  | d :: r, h, 0 => by simp [off]
  | d :: r, h, i + 1 => by
    have h1 := (h d List.mem_cons_self).len
    have h2 := off_le n r (fun e he => h e (List.mem_cons_of_mem _ he)) i
    simp only [off, List.take_succ_cons, List.map_cons, List.sum_cons, List.length_cons] at h2 ⊢
    omega
theorem k_ne : (("act" : Str) ≠ "source") ∧ (("act" : Str) ≠ "target") ∧ (("act" : Str) ≠ "odds") ∧ (("act" : Str) ≠ "time") ∧ (("act" : Str) ≠ "pays") := by decide +kernel
section
variable {P : Program} {w : World} {K : PySem.W.Frag} {mg : Str → Option Value} {base : Heap}
def sp_Step_init (K : PySem.W.Frag) : Sp := fun vs H Q _ => ∃ x dx a s t o u pv, vs = [.ref x, a, s, t, o, u, pv] ∧ H x = some (.ins (CStep K) dx []) ∧
  Q .non (upd H x (.ins (CStep K) dx [("act", a), ("source", s), ("target", t), ("odds", o), ("time", u), ("pays", pv)]))
theorem ok_Step_init (T : Tx K mg) {f : Addr} {fd : FuncData} (F : FunD K "__init__" "Step.__init__" (defArgs s_Step_init) (defBody s_Step_init) (defScope s_Step_init) [] [] f fd) : FnOk P w K mg base CX0 1 f fd P_Step_init (sp_Step_init K) := by
  refine fnD F sc_Step_init (fun vs H Q E h => ?_) (fun cdv A outer s H vs Q E hr h => ?_)
  · obtain ⟨_, _, _, _, _, _, _, _, rfl, _⟩ := h; rfl
  obtain ⟨x, dx, a, sv, t, o, u, pw, rfl, hx, k⟩ := h
  refine ⟨_, (pss_cons (ps_fld (pv 0) (pv 1) rfl)
      (pss_cons (ps_fld (pv 0) (pv 2) rfl)
      (pss_cons (ps_fld (pv 0) (pv 3) rfl)
      (pss_cons (ps_fld (pv 0) (pv 4) rfl)
      (pss_cons (ps_fld (pv 0) (pv 5) rfl)
      (pss_one (ps_fld (pv 0) (pv 6) rfl))))))), ?_⟩
  refine ⟨_, rfl, _, rfl, x, _, dx, _, rfl, hx, T.cl_Step, T.na_Step_act, by decide, ?_⟩
  refine ⟨_, rfl, _, rfl, x, _, dx, _, rfl, upd_same, T.cl_Step, T.na_Step_source, by show 1 < 1000; decide, ?_⟩
  refine ⟨_, rfl, _, rfl, x, _, dx, _, rfl, upd_same, T.cl_Step, T.na_Step_target, by show 2 < 1000; decide, ?_⟩
  refine ⟨_, rfl, _, rfl, x, _, dx, _, rfl, upd_same, T.cl_Step, T.na_Step_odds, by show 3 < 1000; decide, ?_⟩
  refine ⟨_, rfl, _, rfl, x, _, dx, _, rfl, upd_same, T.cl_Step, T.na_Step_time, by show 4 < 1000; decide, ?_⟩
  refine ⟨_, rfl, _, rfl, x, _, dx, _, rfl, upd_same, T.cl_Step, T.na_Step_pays, by show 5 < 1000; decide, ?_⟩
  simp only [upd_upd]
  exact k
theorem c_Step (T : Tx K mg) : C8.Mak P w K mg base 1 "Step" (CStep K) (sp_Step_init K) [] := by
  obtain ⟨fd, F⟩ := T.f_Step_init
  exact ⟨_, fd, P_Step_init, [], T.mk_Step, ok_Step_init T F, T.g_Step, F.bindsN (fun _ _ _ _ _ _ us hl => match us, hl with | [_, _, _, _, _, _, _], _ => rfl), .nil⟩
def StepsV (K : PySem.W.Frag) (H : Hp) (v : V) (l : List ActD) : Prop := ∃ p vs, v = .ref p ∧ H p = some (.tup vs) ∧ All2 (StepV K H) vs (flat 0 l)
theorem StepsV.n {H H' : Hp} {v : V} {l : List ActD} (h : StepsV K H v l) (s : SameN H H') : StepsV K H' v l := by
  obtain ⟨p, vs, rfl, e1, e3⟩ := h
  exact ⟨p, vs, rfl, s _ _ e1 trivial, e3.imp fun x y z => z.n s⟩
def sp_steps_from (K : PySem.W.Frag) : Sp := fun vs H Q _ => ∃ (n : Nat) (v : V) (l : List ActD), vs = [v] ∧ ActsV H v l ∧ OkActs n l ∧ ∀ H' v', Same H H' → StepsV K H' v' l → Q v' H'
theorem all2_append {α β : Type} {R : α → β → Prop} {xs ys : List α} {us ws : List β} (h : All2 R xs us) (k : All2 R ys ws) : All2 R (xs ++ ys) (us ++ ws) := by
  refine ⟨by simp [h.1, k.1], fun i a b ha hb => ?_⟩
  by_cases hi : i < xs.length
  · rw [List.getElem?_append_left hi] at ha
    rw [List.getElem?_append_left (by rw [← h.1]; exact hi)] at hb
    exact h.2 i a b ha hb
  · rw [List.getElem?_append_right (by omega)] at ha
    rw [List.getElem?_append_right (by rw [← h.1]; omega), ← h.1] at hb
    exact k.2 _ a b ha hb
theorem c_steps_from (T : Tx K mg) : C8.Cal P w K mg base 3 "steps_from" (sp_steps_from K) [] := by
  obtain ⟨fd, F⟩ := T.f_steps_from
  refine calD F T.g_steps_from sc_steps_from (fun _ _ _ _ _ _ us hl => match us, hl with | [_], _ => rfl) (fun vs H Q E h => ?_) (fun cdv A outer s H vs Q E hr h => ?_)
  · obtain ⟨_, _, _, rfl, _⟩ := h; rfl
  obtain ⟨n, v, l, rfl, ⟨a, us, rfl, ea, al⟩, ok, k⟩ := h
  obtain ⟨n1, n2, len, acts, all⟩ := ok
  refine ⟨_, (pss_cons (ps_set (i := 1) sc_steps_from.nd rfl (Or.inl rfl) (pe_lst pa_nil))
      (pss_cons (ps_for PassesOwn.never rfl (LcE.pi_enumT (by rfl) T.b_enumerate (pa_cons (pv 0) pa_nil)) (pg_tup rfl (pgs_cons (pg_name (i := 2) sc_steps_from.nd rfl (Or.inr rfl)) (pgs_cons (pg_tup rfl (pgs_cons (pg_name (i := 3) sc_steps_from.nd rfl (Or.inr rfl)) (pgs_cons (pg_name (i := 4) sc_steps_from.nd rfl (Or.inl rfl)) pgs_nil))) pgs_nil)))
      (pss_one (ps_expr (pe_bm PySem.F.plainAttrs_list PySem.F.slot_list_extend PySem.F.type_list_extend mt_extend (pv 1) (pa_cons (pe_lc (own := [("odds", 5), ("target", 6), ("time", 7), ("pays", 8)]) (g := gTup K 4 (gCons (gName 5) (gCons (gName 6) (gCons (gName 7) (gCons (gName 8) (gNil)))))) (te := (tMake (CStep K) (sp_Step_init K) [] C8.E0 (tCons (tVar 2) (tCons (tVar 3) (tCons (tVar 6) (tCons (tVar 5) (tCons (tVar 7) (tCons (tVar 8) tNil)))))))) (by rfl) sc_steps_from.nd (pi_tup (pv 4)) (blkOk_by (own := [("odds", 5), ("target", 6), ("time", 7), ("pays", 8)]) (N := N_steps_from) (sc := defScope s_steps_from) (by decide +kernel)) (fun _ _ _ _ _ => (pg_tup rfl (pgs_cons (pg_name (i := 5) sc_steps_from.nd rfl (Or.inl rfl)) (pgs_cons (pg_name (i := 6) sc_steps_from.nd rfl (Or.inl rfl)) (pgs_cons (pg_name (i := 7) sc_steps_from.nd rfl (Or.inl rfl)) (pgs_cons (pg_name (i := 8) sc_steps_from.nd rfl (Or.inl rfl)) pgs_nil)))))) (fun _ _ _ _ _ => pts_nil) (fun _ _ _ _ _ => (C8.pe_mk (c_Step T) hr (by decide) (by rfl) (pa_cons (pv 2) (pa_cons (pv 3) (pa_cons (pv 6) (pa_cons (pv 5) (pa_cons (pv 7) (pa_cons (pv 8) pa_nil))))))))) pa_nil)))))
      (pss_one (ps_ret (pe_callTy call_tuple_of (by rfl) T.b_tuple (by decide +kernel) (pa_cons (pv 1) pa_nil)))))), ?_⟩
  have S1 : SqT K H a us := .inl (.inl ea)
  have ul : us.length = l.length := al.1
  refine ⟨Nat.zero_le _, fun L hL => ?_⟩
  have s0 : Same H (upd H L (.lst [])) := same_upd hL
  refine ⟨_, rfl, a, us, rfl, same_seqT s0 S1, ?_⟩
  refine for_it LcE.walk_enumT (fun i σ H2 => (∃ x y z, σ = [some (.ref a), some (.ref L), x, y, z, none, none, none, none]) ∧ Same H H2 ∧ ∃ ss, H2 L = some (.lst ss) ∧ All2 (StepV K H2) ss (flat 0 (l.take i)))
    ⟨⟨none, none, none, rfl⟩, s0, [], upd_same, All2.nil⟩ (fun i σ H2 _ p => same_seqT p.2.1 S1) ?_ ?_
  · rintro i x σ H2 H3 hi ⟨⟨z1, z2, z3, rfl⟩, s2, ss, eL, aS⟩ ⟨Tp, x1, y1, rfl, hT, rfl, hx, hy⟩
    cases hx
    obtain ⟨d, hd, p, q, ws, rfl, e1, e2, e3⟩ := al.get' hy
    have t2 := same_upd (o := .tup [V.int (i : Nat), V.ref p]) hT
    have s3 := s2.trans t2
    refine ⟨_, _, rfl, .inl (.inl upd_same), rfl, _, _, rfl, _, _, rfl, ⟨p, _, rfl, .inl (.inl (s3 _ _ e1)), rfl, _, _, rfl, _, _, rfl, rfl, rfl, ?_⟩⟩
    have S3 : ∀ H', Same H H' → SqT K H' q ws := fun H' s => .inl (.inl (s _ _ e2))
    have okd := acts d (List.mem_of_getElem? hd)
    refine ⟨_, rfl, .inl ⟨rfl, ss, .inl (.inl (t2 _ _ eL))⟩, _, rfl, q, rfl, ⟨ws, S3 _ s3⟩, fun D hD => ?_⟩
    refine lcm walk_tup hD (Nat.le_trans (by rw [e3.1]; exact okd.len) (by decide)) (fun _ => true) (fun j y H' => ∃ o, d.2[j]? = some o ∧ StepV K H' y (i, d.1, o)) (fun j y H5 H6 s h => ?_) (fun H' s => S3 _ (s3.trans s)) (fun j x H5 H' kN kY hj s y kn ky => ?_) (fun H' ys s e kp => ?_)
    · obtain ⟨o, ho, hv⟩ := h
      exact ⟨o, ho, hv.n s⟩
    · obtain ⟨rfl, hx⟩ := y
      obtain ⟨o, ho, ov⟩ := e3.get' hx
      obtain ⟨ao, pa, rfl, f1, f2⟩ := ov
      have s5 := s3.trans s
      refine ⟨ao, _, rfl, .inl (.inl (s5 _ _ f1)), rfl, _, _, rfl, _, _, rfl, _, _, rfl, _, _, rfl, rfl, rfl, yes ⟨_, rfl, _, rfl, _, rfl, _, rfl, _, rfl, _, rfl, fun x dx hx2 hdx ne => ?_⟩⟩
      refine ⟨x, dx, _, _, _, _, _, _, rfl, upd_same, rfl, ?_⟩
      rw [upd_upd]
      exact ky _ _ (same_made hx2 hdx) rfl ⟨o, ho, x, dx, _, rfl, upd_same⟩
    · obtain ⟨l1, l2⟩ := kp.all
      have hl : (flat 0 (l.take i)).length ≤ 150 := by
        have := off_le n l acts i
        rw [flat_len]
        show off l i ≤ 150
        omega
      have hls : ss.length ≤ 150 := by rw [aS.1]; exact hl
      have h4 := okd.len
      have h5 := e3.1
      refine ⟨L, D, ss, ys, rfl, rfl, s _ _ (t2 _ _ eL), e, by show ss.length + ys.length ≤ 16777216; omega, ⟨_, _, _, rfl⟩, fun b o hb => ?_, ss ++ ys, upd_same, ?_⟩
      · rw [upd_ne (ne_of_none hb hL)]
        exact s _ _ (s3 _ _ hb)
      · have sN : SameN H' (upd H' L (.lst (ss ++ ys))) := sameN_upd (s _ _ (t2 _ _ eL)) (fun z => z)
        rw [List.take_add_one, hd]
        show All2 _ _ (flat 0 (l.take i ++ [d]))
        rw [flat_snoc]
        refine all2_append (aS.imp fun x y z => (z.n (same_n (t2.trans s))).n sN) ⟨by rw [List.length_map, l1, h5], fun j x y hx hy => ?_⟩
        obtain ⟨o, ho, sv⟩ := l2 j x hx
        rw [List.getElem?_map, ho] at hy
        cases hy
        have ti : (l.take i).length = i := by rw [List.length_take]; omega
        rw [ti, Nat.zero_add]
        exact sv.n sN
  · rintro σ H2 ⟨⟨z1, z2, z3, rfl⟩, s2, ss, eL, aS⟩
    refine ⟨_, rfl, L, ss, rfl, .inl ⟨.inl (.inl eL), fun p hp => ?_⟩⟩
    refine k _ _ (s2.trans (same_upd hp)) ⟨p, ss, rfl, upd_same, ?_⟩
    rw [ul, List.take_length] at aS
    exact aS.imp fun x y z => z.n (sameN_new hp)
end
end Lc
set_option Elab.async false
set_option linter.all false
set_option maxRecDepth 100000
set_option maxHeartbeats 4000000
namespace Lc
open PySem PySem.Spec PyProof.Rows L2 LcR
theorem hu1 {A : Around} {k : Nat} (hr : Room k A) : A.units + 1 < cLine := by have := hr.units; omega
theorem pt_nope {X : Cx} {e : Expr} : PT X e (fun _ _ _ => False) := ⟨fun _ _ _ _ _ _ h => h.elim⟩
theorem pe_nope {X : Cx} {e : Expr} : PE X e (fun _ _ _ => False) := ⟨fun _ _ _ _ _ _ h => h.elim⟩
def LotsV (H : Hp) (v : V) (l : List ActD) : Prop := ∃ p us, v = .ref p ∧ H p = some (.tup us) ∧ us.length = l.length ∧ ∀ (i : Nat) u d, us[i]? = some u → l[i]? = some d → ∃ q, u = .ref q ∧ H q = some (.tup (rgV (off l i : Int) ((off l i : Int) + (d.2.length : Int))))
theorem LotsV.n {H H' : Hp} {v : V} {l : List ActD} (h : LotsV H v l) (s : SameN H H') : LotsV H' v l := by
  obtain ⟨p, us, rfl, e1, e2, e3⟩ := h
  refine ⟨p, us, rfl, s _ _ e1 trivial, e2, fun i u d hu hd => ?_⟩
  obtain ⟨q, rfl, eq⟩ := e3 i u d hu hd
  exact ⟨q, rfl, s _ _ eq trivial⟩
section
variable {P : Program} {w : World} {K : PySem.W.Frag} {mg : Str → Option Value} {base : Heap}
def sp_lots_of_acts : Sp := fun vs H Q _ => ∃ (n : Nat) (v : V) (l : List ActD), vs = [v] ∧ ActsV H v l ∧ OkActs n l ∧ ∀ H' v', Same H H' → LotsV H' v' l → Q v' H'
theorem c_lots_of_acts (T : Tx K mg) : C8.Cal P w K mg base 3 "lots_of_acts" sp_lots_of_acts [] := by
  obtain ⟨fd, F⟩ := T.f_lots_of_acts
  refine calD F T.g_lots_of_acts sc_lots_of_acts (fun _ _ _ _ _ _ us hl => match us, hl with | [_], _ => rfl) (fun vs H Q E h => ?_) (fun cdv A outer s H vs Q E hr h => ?_)
  · obtain ⟨_, _, _, rfl, _⟩ := h; rfl
  obtain ⟨n, v, l, rfl, ⟨a, us, rfl, ea, al⟩, ok, k⟩ := h
  obtain ⟨n1, n2, len, acts, all⟩ := ok
  refine ⟨_, (pss_cons (ps_par (i := 1) (j := 2) (by rfl) sc_lots_of_acts.nd rfl rfl (by decide) rfl rfl (pa_cons (pe_lst pa_nil) (pa_cons pe_int pa_nil)) (by rfl))
      (pss_cons (ps_for PassesOwn.never rfl (pi_tup (pv 0)) (pg_tup rfl (pgs_cons (pg_name (i := 3) sc_lots_of_acts.nd rfl (Or.inl rfl)) (pgs_cons (pg_name (i := 4) sc_lots_of_acts.nd rfl (Or.inl rfl)) pgs_nil)))
      (pss_cons (ps_expr (pe_bm PySem.F.plainAttrs_list PySem.F.slot_list_append PySem.F.type_list_append mt_append (pv 1) (pa_cons (pe_tupRg rfl (by rfl) T.b_tuple (prg_2 (by rfl) T.b_range (pv 2) (pe_op op_add (pv 2) (pe_callB call_len (by rfl) T.b_len (by decide +kernel) (pa_cons (pv 4) pa_nil))))) pa_nil)))
      (pss_one (ps_set (i := 2) sc_lots_of_acts.nd rfl (Or.inl rfl) (pe_op op_add (pv 2) (pe_callB call_len (by rfl) T.b_len (by decide +kernel) (pa_cons (pv 4) pa_nil)))))))
      (pss_one (ps_ret (pe_callTy call_tuple_of (by rfl) T.b_tuple (by decide +kernel) (pa_cons (pv 1) pa_nil)))))), ?_⟩
  have S1 : SqT K H a us := .inl (.inl ea)
  have ul : us.length = l.length := al.1
  refine ⟨Nat.zero_le _, fun L hL => ?_⟩
  have s0 : Same H (upd H L (.lst [])) := same_upd hL
  refine ⟨_, _, rfl, ?_⟩
  refine ⟨_, rfl, a, rfl, ⟨us, same_seqT s0 S1⟩, ?_⟩
  refine for_it walk_tup (fun i σ H2 => (∃ x y, σ = [some (.ref a), some (.ref L), some (.int (off l i : Nat)), x, y]) ∧ Same H H2 ∧ ∃ ss, H2 L = some (.lst ss) ∧ ss.length = i ∧ ∀ (j : Nat) u d, ss[j]? = some u → l[j]? = some d → ∃ q, u = .ref q ∧ H2 q = some (.tup (rgV (off l j : Int) ((off l j : Int) + (d.2.length : Int)))))
    ⟨⟨none, none, rfl⟩, s0, [], upd_same, rfl, fun j u d h _ => by simp at h⟩ (fun i σ H2 _ p => same_seqT p.2.1 S1) ?_ ?_
  · rintro i x σ H2 H3 hi ⟨⟨z1, z2, rfl⟩, s2, ss, eL, el, aS⟩ ⟨rfl, hx⟩
    obtain ⟨d, hd, p, q, ws, rfl, e1, e2, e3⟩ := al.get' hx
    have okd := (acts d (List.mem_of_getElem? hd)).len
    have ho := off_le n l acts i
    have wl := e3.1
    have S3 : SqT K H3 q ws := .inl (.inl (s2 _ _ e2))
    refine ⟨p, _, rfl, .inl (.inl (s2 _ _ e1)), rfl, _, _, rfl, _, _, rfl, rfl, ?_⟩
    refine ⟨_, rfl, .inl ⟨rfl, ss, .inl (.inl eL)⟩, _, rfl, _, rfl, _, rfl, _, ws.length, rfl, .inr ⟨ws, S3, rfl⟩, _, _, rfl, rfl, ?_⟩
    refine ⟨_, _, rfl, rfl, RgOk.of_le (by omega) (by omega) (by omega) (by omega), fun q2 hq2 => ?_⟩
    refine ⟨L, ss, _, rfl, rfl, same_upd hq2 _ _ eL, Nat.lt_of_le_of_lt (by omega : ss.length ≤ 30) (by decide), ?_⟩
    have s4 := s2.trans (same_upd (o := .tup (rgV (off l i : Nat) ((off l i : Nat) + (ws.length : Int)))) hq2)
    have s5 : Same H (upd (upd H3 q2 (.tup (rgV (off l i : Nat) ((off l i : Nat) + (ws.length : Int))))) L (.lst (ss ++ [.ref q2]))) := fun b o hb => by rw [upd_ne (ne_of_none hb hL)]; exact s4 _ _ hb
    have sN : SameN (upd H3 q2 (.tup (rgV (off l i : Nat) ((off l i : Nat) + (ws.length : Int))))) (upd (upd H3 q2 (.tup (rgV (off l i : Nat) ((off l i : Nat) + (ws.length : Int))))) L (.lst (ss ++ [.ref q2]))) := sameN_upd (same_upd hq2 _ _ eL) (fun z => z)
    refine ⟨_, rfl, _, rfl, _, ws.length, rfl, .inr ⟨ws, .inl (.inl (s5 _ _ e2)), rfl⟩, _, _, rfl, rfl, ?_⟩
    refine ⟨⟨_, _, by rw [off_succ hd, ← wl]; rfl⟩, s5, _, upd_same, by rw [List.length_append, el]; rfl, fun j u d' hu hd' => ?_⟩
    by_cases hj : j < ss.length
    · rw [List.getElem?_append_left hj] at hu
      obtain ⟨p2, rfl, ep⟩ := aS j u d' hu hd'
      exact ⟨p2, rfl, sN _ _ (same_upd hq2 _ _ ep) trivial⟩
    · have hj2 : j = ss.length := by
        have := (List.getElem?_eq_some_iff.mp hu).1
        simp at this
        omega
      subst hj2
      rw [List.getElem?_append_right (Nat.le_refl _), Nat.sub_self] at hu
      cases hu
      rw [el, hd] at hd'
      cases hd'
      refine ⟨q2, rfl, sN _ _ ?_ trivial⟩
      rw [upd_same, el, wl]
  · rintro σ H2 ⟨⟨z1, z2, rfl⟩, s2, ss, eL, el, aS⟩
    refine ⟨_, rfl, L, ss, rfl, .inl ⟨.inl (.inl eL), fun p hp => ?_⟩⟩
    refine k _ _ (s2.trans (same_upd hp)) ⟨p, ss, rfl, upd_same, by rw [el, ul], fun j u d hu hd => ?_⟩
    obtain ⟨q, rfl, eq⟩ := aS j u d hu hd
    exact ⟨q, rfl, same_upd hp _ _ eq⟩
end
end Lc
set_option Elab.async false
set_option linter.all false
set_option maxRecDepth 100000
set_option maxHeartbeats 4000000
namespace Lc
open PySem PySem.Spec PyProof.Rows L2 LcR
def flH (n : Nat) (m va vs lk vo : V) : List (Str × V) := [("states", .int (n : Int)), ("start", .int 0), ("measures", m), ("acts", va), ("steps", vs), ("lots", lk), ("lots_of", vo)]
def HouseV (K : PySem.W.Frag) (H : Hp) (v : V) (n : Nat) (l : List ActD) : Prop := ∃ x dx m va vs lk vo, v = .ref x ∧ H x = some (.ins (CHouse K) dx (flH n m va vs lk vo)) ∧ ActsV H va l ∧ StepsV K H vs l ∧ LotsV H vo l
/-- .. with what == asks -/
def HouseE (K : PySem.W.Frag) (H : Hp) (v : V) (n : Nat) (l : List ActD) : Prop := ∃ x dx ma va vs la vo, v = .ref x ∧ H x = some (.ins (CHouse K) dx (flH n (.ref ma) va vs (.ref la) vo)) ∧ H ma = some (.tup [.str "x"]) ∧ ActsV H va l ∧ H la = some (.dK [])
theorem HouseV.n {K : PySem.W.Frag} {H H' : Hp} {v : V} {n : Nat} {l : List ActD} (h : HouseV K H v n l) (s : SameN H H') : HouseV K H' v n l := by
  obtain ⟨x, dx, m, va, vs, lk, vo, rfl, e, h1, h2, h3⟩ := h
  exact ⟨x, dx, m, va, vs, lk, vo, rfl, s _ _ e trivial, h1.n s, h2.n s, h3.n s⟩
section
variable {P : Program} {w : World} {K : PySem.W.Frag} {mg : Str → Option Value} {base : Heap}
def sp_House_init (K : PySem.W.Frag) : Sp := fun vs H Q _ => ∃ (n : Nat) (x : Addr) (dx : Addr) (m : Addr) (v : V) (l : List ActD), vs = [.ref x, .int (n : Int), .int 0, .ref m, v, .non] ∧ H x = some (.ins (CHouse K) dx []) ∧ H m = some (.tup [.str "x"]) ∧ ActsV H v l ∧ OkActs n l ∧
  ∀ H', (∀ b o, b ≠ x → H b = some o → H' b = some o) → HouseV K H' (.ref x) n l → HouseE K H' (.ref x) n l → Q .non H'
/-- what stands but at one place -/
def SameX (x : Addr) (H H' : Hp) : Prop := ∀ b o, b ≠ x → H b = some o → H' b = some o
theorem SameX.refl {x : Addr} {H : Hp} : SameX x H H := fun _ _ _ h => h
theorem SameX.trans {x : Addr} {H H1 H2 : Hp} (a : SameX x H H1) (b : SameX x H1 H2) : SameX x H H2 := fun c o n h => b c o n (a c o n h)
theorem SameX.of {x : Addr} {H H' : Hp} (s : Same H H') : SameX x H H' := fun b o _ h => s b o h
theorem SameX.at_ {x : Addr} {H : Hp} {o : HO} : SameX x H (upd H x o) := fun b o n h => by rw [upd_ne n]; exact h
theorem ActsV.x {x : Addr} {H H' : Hp} {v : V} {l : List ActD} {C dx : Addr} {fs : List (Str × V)} (h : ActsV H v l) (s : SameX x H H') (e : H x = some (.ins C dx fs)) : ActsV H' v l := by
  have key : ∀ b ys, H b = some (.tup ys) → H' b = some (.tup ys) := fun b ys hb => s _ _ (fun z => by subst z; rw [hb] at e; cases e) hb
  obtain ⟨a, us, rfl, ea, al⟩ := h
  refine ⟨a, us, rfl, key _ _ ea, al.imp fun u d hv => ?_⟩
  obtain ⟨p, q, ws, rfl, e1, e2, e3⟩ := hv
  refine ⟨p, q, ws, rfl, key _ _ e1, key _ _ e2, e3.imp fun y o ov => ?_⟩
  obtain ⟨ao, pa, rfl, f1, f2⟩ := ov
  exact ⟨ao, pa, rfl, key _ _ f1, key _ _ f2⟩
theorem StepsV.x {x : Addr} {H H' : Hp} {v : V} {l : List ActD} {C dx : Addr} {fs : List (Str × V)} (h : StepsV K H v l) (s : SameX x H H') (e : H x = some (.ins C dx fs)) (hf : fs.length ≠ 6) : StepsV K H' v l := by
  obtain ⟨p, us, rfl, e1, e3⟩ := h
  refine ⟨p, us, rfl, s _ _ (fun z => by subst z; rw [e1] at e; cases e) e1, e3.imp fun u z hz => ?_⟩
  obtain ⟨y, dy, pw, rfl, ey⟩ := hz
  exact ⟨y, dy, pw, rfl, s _ _ (fun z => by subst z; rw [ey] at e; cases e; exact hf rfl) ey⟩
theorem LotsV.x {x : Addr} {H H' : Hp} {v : V} {l : List ActD} {C dx : Addr} {fs : List (Str × V)} (h : LotsV H v l) (s : SameX x H H') (e : H x = some (.ins C dx fs)) : LotsV H' v l := by
  have key : ∀ b ys, H b = some (.tup ys) → H' b = some (.tup ys) := fun b ys hb => s _ _ (fun z => by subst z; rw [hb] at e; cases e) hb
  obtain ⟨p, us, rfl, e1, e2, e3⟩ := h
  refine ⟨p, us, rfl, key _ _ e1, e2, fun i u d hu hd => ?_⟩
  obtain ⟨q, rfl, eq⟩ := e3 i u d hu hd
  exact ⟨q, rfl, key _ _ eq⟩
theorem ok_House_init (T : Tx K mg) {f : Addr} {fd : FuncData} (F : FunD K "__init__" "House.__init__" (defArgs s_House_init) (defBody s_House_init) (defScope s_House_init) [.non] [] f fd) : FnOk P w K mg base CX0 7 f fd P_House_init (sp_House_init K) := by
  refine fnD F sc_House_init (fun vs H Q E h => ?_) (fun cdv A outer s H vs Q E hr h => ?_)
  · obtain ⟨_, _, _, _, _, _, rfl, _⟩ := h; rfl
  obtain ⟨n, x, dx, m, v, l, rfl, hx, em, hv, ok, k⟩ := h
  refine ⟨_, (pss_cons (ps_expr (C8.pe_c (c_need_parts T) hr (by decide) (by rfl) (pa_cons (pv 1) (pa_cons (pv 2) (pa_cons (pv 3) (pa_cons (pv 4) pa_nil))))))
      (pss_cons (ps_set (i := 6) sc_House_init.nd rfl (Or.inl rfl) (pe_callB (cr_sum rfl) (by rfl) T.b_sum (by decide +kernel) (pa_cons (pe_lc (own := [("source", 8), ("outcomes", 9)]) (g := gTup K 2 (gCons (gName 8) (gCons (gName 9) (gNil)))) (te := (tCB (rLen K) (tCons (tVar 9) tNil))) (by rfl) sc_House_init.nd (pi_tup (pv 4)) (blkOk_by (own := [("source", 8), ("outcomes", 9)]) (N := N_House_init) (sc := defScope s_House_init) (by decide +kernel)) (fun _ _ _ _ _ => (pg_tup rfl (pgs_cons (pg_name (i := 8) sc_House_init.nd rfl (Or.inl rfl)) (pgs_cons (pg_name (i := 9) sc_House_init.nd rfl (Or.inl rfl)) pgs_nil)))) (fun _ _ _ _ _ => pts_nil) (fun _ _ _ _ _ => (pe_callB call_len (by rfl) T.b_len (by decide +kernel) (pa_cons (pv 9) pa_nil)))) pa_nil)))
      (pss_cons (ps_if (PW.pt (pw_and (pt_cmp (pc_notN (pv 5))) (pw_and1 (pt_not pt_nope)))) (pss_one ps_never) pss_nil)
      (pss_cons (ps_set (i := 7) sc_House_init.nd rfl (Or.inr rfl) (pe_ifExp (pt_cmp (pc_isN (pv 5))) pe_dnewK (pv 5)))
      (pss_cons (ps_if (pt_cmpR op_gt (pe_callB call_lenD (by rfl) T.b_len (by decide +kernel) (pa_cons (pv 7) pa_nil)) (C8.pe_gc (by rfl) T.k_MOST_EVENTS) (nomark _)) (pss_one ps_never) pss_nil)
      (pss_cons (ps_fld (pv 0) (pv 1) rfl)
      (pss_cons (ps_fld (pv 0) (pv 2) rfl)
      (pss_cons (ps_fld (pv 0) (pv 3) rfl)
      (pss_cons (ps_fld (pv 0) (pv 4) rfl)
      (pss_cons (ps_fld (pv 0) (C8.pe_c (c_steps_from T) hr (by decide) (by rfl) (pa_cons (pv 4) pa_nil)) rfl)
      (pss_cons (ps_fld (pv 0) (pe_dc (own := [("word", 10)]) (g := gName 10) (by rfl) sc_House_init.nd (pi_list (pe_callB cr_sortedI (by rfl) T.b_sorted (by decide +kernel) (pa_cons (pe_callTy (call_list_dK rfl) (by rfl) T.b_list (by decide +kernel) (pa_cons (pv 7) pa_nil)) pa_nil))) (blkOk_by (own := [("word", 10)]) (N := N_House_init) (sc := defScope s_House_init) (by decide +kernel)) (fun _ _ _ _ _ => (pg_name (i := 10) sc_House_init.nd rfl (Or.inl rfl))) (fun _ _ _ _ _ => pts_nil) (fun _ _ _ _ _ => (pv 10)) (fun _ _ _ _ _ => (pe_dget (hu1 hr) (pv 7) (pv 10) (fun _ _ => rfl)))) rfl)
      (pss_one (ps_fld (pv 0) (C8.pe_c (c_lots_of_acts T) hr (by decide) (by rfl) (pa_cons (pv 4) pa_nil)) rfl))))))))))))), ?_⟩
  refine ⟨_, rfl, _, rfl, _, rfl, _, rfl, n, m, v, l, rfl, em, hv, ok, fun H1 s1 => ?_⟩
  obtain ⟨a, us, rfl, ea, al⟩ := id hv
  obtain ⟨n1, n2, len, acts, all⟩ := ok
  have ul : us.length = l.length := al.1
  have S1 : SqT K H a us := .inl (.inl ea)
  refine ⟨_, rfl, a, rfl, ⟨us, same_seqT s1 S1⟩, fun D2 hD2 => ?_⟩
  refine lcm walk_tup hD2 (Nat.le_trans (by omega : us.length ≤ 30) (by decide)) (fun _ => true) (fun i y _ => ∃ d, l[i]? = some d ∧ y = V.int (d.2.length : Int)) (fun _ _ _ _ _ h => h) (fun H' s => same_seqT (s1.trans s) S1) (fun i x H5 H' kN kY hi s y kn ky => ?_) (fun H' ys s e kp => ?_)
  · obtain ⟨rfl, hx⟩ := y
    obtain ⟨d, hd, p, q, ws, rfl, e1, e2, e3⟩ := al.get' hx
    have s5 := same_n (s1.trans s)
    refine ⟨p, _, rfl, .inl (.inl (s5 _ _ e1 trivial)), rfl, _, _, rfl, _, _, rfl, rfl, rfl, yes ⟨_, rfl, _, ws.length, rfl, .inr ⟨ws, .inl (.inl (s5 _ _ e2 trivial)), rfl⟩, ?_⟩⟩
    exact ky _ _ (Same.refl _) rfl ⟨d, hd, by rw [e3.1]⟩
  obtain ⟨l1, l2⟩ := kp.all
  have e3 := map_lens (l1.trans ul) l2
  refine ⟨D2, lens l, rfl, .inl (.inl (by rw [← e3]; exact e)), ?_⟩
  have s2 := s1.trans s
  refine ⟨_, rfl, false, rfl, iteF (iteF ?_)⟩
  refine ⟨_, rfl, true, rfl, iteT fun L hL => ?_⟩
  have s3 := s2.trans (same_upd (o := .dK []) hL)
  refine ⟨_, rfl, L, [], rfl, upd_same, _, _, rfl, rfl, false, by rfl, iteF ?_⟩
  refine ⟨_, rfl, _, rfl, x, _, dx, _, rfl, s3 _ _ hx, T.cl_House, T.na_House_states, by decide, ?_⟩
  refine ⟨_, rfl, _, rfl, x, _, dx, _, rfl, upd_same, T.cl_House, T.na_House_start, by show 1 < 1000; decide, ?_⟩
  refine ⟨_, rfl, _, rfl, x, _, dx, _, rfl, upd_same, T.cl_House, T.na_House_measures, by show 2 < 1000; decide, ?_⟩
  refine ⟨_, rfl, _, rfl, x, _, dx, _, rfl, upd_same, T.cl_House, T.na_House_acts, by show 3 < 1000; decide, ?_⟩
  simp only [upd_upd]
  have hxL : L ≠ x := fun z => by subst z; rw [s2 _ _ hx] at hL; cases hL
  generalize hG : upd (upd H' L (.dK [])) x _ = H4
  have s4 : SameX x H H4 := hG ▸ (SameX.of s3).trans SameX.at_
  have e4 : H4 x = some (.ins (CHouse K) dx [("states", .int (n : Int)), ("start", .int 0), ("measures", .ref m), ("acts", .ref a)]) := hG ▸ upd_same
  have v4 : ActsV H4 (.ref a) l := hv.x s4 hx
  have d4 : H4 L = some (.dK []) := by rw [← hG, upd_ne hxL, upd_same]
  refine ⟨_, rfl, n, .ref a, l, rfl, v4, ⟨n1, n2, len, acts, all⟩, fun H5 sv s5 hsv => ?_⟩
  refine ⟨_, rfl, x, _, dx, _, rfl, s5 _ _ e4, T.cl_House, T.na_House_steps, by show 4 < 1000; decide, ?_⟩
  generalize hG6 : upd H5 x _ = H6
  have s6 : SameX x H4 H6 := hG6 ▸ (SameX.of s5).trans SameX.at_
  have d6 : H6 L = some (.dK []) := s6 _ _ hxL d4
  refine ⟨_, rfl, L, [], rfl, d6, fun p hp => ?_⟩
  refine ⟨p, [], rfl, .inl (.inl upd_same), fun ns q perm pw hq => ?_⟩
  obtain rfl : ns = [] := perm.eq_nil
  generalize hG7 : upd (upd H6 p _) q _ = H7
  have s7 : Same H6 H7 := hG7 ▸ (same_upd hp).trans (same_upd hq)
  have e7 : H7 q = some (.lst []) := hG7 ▸ upd_same
  refine ⟨q, rfl, ⟨[], .inl (.inl e7)⟩, fun D hD => ?_⟩
  refine dc_it walk_list (fun i H' => Same H7 H' ∧ H' D = some (.dK [])) ⟨same_upd hD, upd_same⟩ (fun i H' _ p => .inl (.inl (p.1 _ _ e7))) (fun i x H3 H4 hi => absurd hi (Nat.not_lt_zero _)) (fun H8 s8 => ?_)
  obtain ⟨s8, e8⟩ := s8
  have s8' := s7.trans s8
  have e6 : H6 x = some (.ins (CHouse K) dx [("states", .int (n : Int)), ("start", .int 0), ("measures", .ref m), ("acts", .ref a), ("steps", sv)]) := hG6 ▸ upd_same
  refine ⟨_, rfl, x, _, dx, _, rfl, s8' _ _ e6, T.cl_House, T.na_House_lots, by show 5 < 1000; decide, ?_⟩
  generalize hG9 : upd H8 x _ = H9
  have s9 : SameX x H6 H9 := hG9 ▸ (SameX.of s8').trans SameX.at_
  have e9 : H9 x = some (.ins (CHouse K) dx [("states", .int (n : Int)), ("start", .int 0), ("measures", .ref m), ("acts", .ref a), ("steps", sv), ("lots", .ref D)]) := hG9 ▸ upd_same
  have t9 := s4.trans (s6.trans s9)
  refine ⟨_, rfl, n, .ref a, l, rfl, hv.x t9 hx, ⟨n1, n2, len, acts, all⟩, fun H10 so s10 hso => ?_⟩
  refine ⟨_, rfl, x, _, dx, _, rfl, s10 _ _ e9, T.cl_House, T.na_House_lots_of, by show 6 < 1000; decide, ?_⟩
  have z1 : SameX x H9 (upd H10 x (.ins (CHouse K) dx (putF "lots_of" so [("states", .int (n : Int)), ("start", .int 0), ("measures", .ref m), ("acts", .ref a), ("steps", sv), ("lots", .ref D)]))) := (SameX.of s10).trans SameX.at_
  have z4 := t9.trans z1
  have z5 : SameX x H5 H6 := hG6 ▸ SameX.at_
  have mx : m ≠ x := fun z => by subst z; rw [em] at hx; cases hx
  have Dx : D ≠ x := fun z => by subst z; rw [s7 _ _ e6] at hD; cases hD
  refine k _ ((SameX.of s3).trans ?_) ⟨x, dx, .ref m, .ref a, sv, .ref D, so, rfl, upd_same, hv.x z4 hx, ?_, ?_⟩ ⟨x, dx, m, .ref a, sv, D, so, rfl, upd_same, z4 _ _ mx em, hv.x z4 hx, ?_⟩
  · exact SameX.trans (H1 := H4) (hG ▸ SameX.at_) (s6.trans (s9.trans z1))
  · exact hsv.x (z5.trans (s9.trans z1)) (s5 _ _ e4) (by show 4 ≠ 6; decide)
  · exact hso.x SameX.at_ (s10 _ _ e9)
  · refine z1 _ _ Dx ?_
    rw [← hG9, upd_ne Dx]
    exact e8
theorem c_House_4 (T : Tx K mg) : C8.Mak P w K mg base 7 "House" (CHouse K) (sp_House_init K) [.non] := by
  obtain ⟨fd, F⟩ := T.f_House_init
  obtain ⟨ds, v, b⟩ := F.binds1 (ps := P_House_init) 5 0 (by simp) rfl (fun _ _ _ _ _ _ _ us its h1 h2 => match us, h1, its, h2 with | [_, _, _, _, _], _, [_], _ => ⟨_, rfl, rfl⟩)
  exact ⟨_, fd, P_House_init, ds, T.mk_House, ok_House_init T F, T.g_House, b, v⟩
/-! ### asking a house -/
theorem ty_H {H : Hp} {v : V} {n : Nat} {l : List ActD} (T : Tx K mg) (h : HouseV K H v n l) : True := trivial
def sp_need_house (K : PySem.W.Frag) : Sp := fun vs H Q _ => ∃ v n l, vs = [v] ∧ HouseV K H v n l ∧ Q .non H
theorem c_need_house (T : Tx K mg) : C8.Cal P w K mg base 1 "need_house" (sp_need_house K) [] := by
  obtain ⟨fd, F⟩ := T.f_need_house
  refine calD F T.g_need_house sc_need_house (fun _ _ _ _ _ _ us hl => match us, hl with | [_], _ => rfl) (fun vs H Q E h => ?_) (fun cdv A outer s H vs Q E hr h => ?_)
  · obtain ⟨_, _, _, rfl, _⟩ := h; rfl
  obtain ⟨v, n, l, rfl, ⟨x, dx, m, va, vs, lk, vo, rfl, e, h1, h2, h3⟩, k⟩ := h
  refine ⟨_, (pss_one (ps_if (pt_not (pt_val (pe_callB call_isi (by rfl) T.b_isinstance (by decide +kernel) (pa_cons (pv 0) (pa_cons (pe_glob (v := .ref (CHouse K)) (by rfl) T.g_House rfl) pa_nil))))) (pss_one ps_never) pss_nil)), ?_⟩
  exact ⟨_, rfl, _, _, _, _, true, rfl, .own _, .base (.ins e T.cl_House T.ha_House T.hn T.htk T.hm_House), T.ki_House, true, rfl, iteF k⟩
def sp_need_state (K : PySem.W.Frag) : Sp := fun vs H Q _ => ∃ v n l s, vs = [v, .int s] ∧ HouseV K H v n l ∧ 0 ≤ s ∧ s < (n : Int) ∧ Q .non H
theorem c_need_state (T : Tx K mg) : C8.Cal P w K mg base 3 "need_state" (sp_need_state K) [] := by
  obtain ⟨fd, F⟩ := T.f_need_state
  refine calD F T.g_need_state sc_need_state (fun _ _ _ _ _ _ us hl => match us, hl with | [_, _], _ => rfl) (fun vs H Q E h => ?_) (fun cdv A outer s H vs Q E hr h => ?_)
  · obtain ⟨_, _, _, _, rfl, _⟩ := h; rfl
  obtain ⟨v, n, l, st, rfl, ⟨x, dx, m, va, vs, lk, vo, rfl, e, h1, h2, h3⟩, l1, l2, k⟩ := h
  refine ⟨_, (pss_one (ps_if (pt_not (pt_val (C8.pe_c (c_is_within T) hr (by decide) (by rfl) (pa_cons (pv 1) (pa_cons pe_int (pa_cons (pe_op op_sub (pe_fld (pv 0) rfl) pe_int) pa_nil)))))) (pss_one ps_never) pss_nil)), ?_⟩
  refine ⟨_, rfl, _, rfl, x, _, dx, _, _, rfl, e, T.cl_House, T.na_House_states, rfl, _, _, rfl, rfl, st, 0, (n : Int) - 1, rfl, l1, by omega, true, rfl, iteF k⟩
def actsAt (l : List ActD) (s : Nat) : List Nat := (List.range l.length).filter fun i => decide ((l[i]?.map (·.1)) = some s)
theorem kept_ints {keep : Nat → Bool} {n : Nat} {ys : List V} {H : Hp} (h : Kept keep (fun j y _ => y = .int (j : Nat)) n ys H) : ys = ((List.range n).filter keep).map fun j : Nat => V.int (j : Int) := by
  obtain ⟨h1, h2⟩ := h
  apply List.ext_getElem?
  intro i
  rw [List.getElem?_map]
  by_cases hi : i < ys.length
  · rw [List.getElem?_eq_getElem hi, List.getElem?_eq_getElem (by omega : i < ((List.range n).filter keep).length)]
    exact congrArg some (h2 i _ _ (List.getElem?_eq_getElem (by omega)) (List.getElem?_eq_getElem hi))
  · rw [List.getElem?_eq_none (by omega), List.getElem?_eq_none (by omega)]
    rfl
def sp_acts_at (K : PySem.W.Frag) : Sp := fun vs H Q _ => ∃ (v : V) (n : Nat) (l : List ActD) (s : Nat), vs = [v, .int (s : Int)] ∧ HouseV K H v n l ∧ OkActs n l ∧ s < n ∧ ∀ H' p, Same H H' → H' p = some (.tup ((actsAt l s).map fun j : Nat => V.int (j : Int))) → Q (.ref p) H'
theorem ok_acts_at (T : Tx K mg) {f : Addr} {fd : FuncData} (F : FunD K "acts_at" "House.acts_at" (defArgs s_House_acts_at) (defBody s_House_acts_at) (defScope s_House_acts_at) [] [] f fd) : FnOk P w K mg base CX0 4 f fd P_House_acts_at (sp_acts_at K) := by
  refine fnD F sc_House_acts_at (fun vs H Q E h => ?_) (fun cdv A outer s H vs Q E hr h => ?_)
  · obtain ⟨_, _, _, _, rfl, _⟩ := h; rfl
  obtain ⟨v, n, l, st, rfl, hv, ok, hs, k⟩ := h
  refine ⟨_, (pss_cons (ps_expr (C8.pe_c (c_need_state T) hr (by decide) (by rfl) (pa_cons (pv 0) (pa_cons (pv 1) pa_nil))))
      (pss_one (ps_ret (pe_callTy call_tuple_of (by rfl) T.b_tuple (by decide +kernel) (pa_cons (pe_lc (own := [("at", 2), ("act", 3)]) (g := gTup K 2 (gCons (gName 2) (gCons (gName 3) (gNil)))) (tt := (tB (tOp rEq (tOp (rIxT K) (tVar 3) (tC (.int 0))) (tVar 1)))) (by rfl) sc_House_acts_at.nd (LcE.pi_enumT (by rfl) T.b_enumerate (pa_cons (pe_fld (pv 0) rfl) pa_nil)) (blkOk_by (own := [("at", 2), ("act", 3)]) (N := N_House_acts_at) (sc := defScope s_House_acts_at) (by decide +kernel)) (fun _ _ _ _ _ => (pg_tup rfl (pgs_cons (pg_name (i := 2) sc_House_acts_at.nd rfl (Or.inl rfl)) (pgs_cons (pg_name (i := 3) sc_House_acts_at.nd rfl (Or.inl rfl)) pgs_nil)))) (fun _ _ _ _ _ => (pts_one (pt_cmpR op_eq (pe_ix ix_tup (pv 3) pe_int (fun _ _ => rfl)) (pv 1) (nomark _)))) (fun _ _ _ _ _ => (pv 2))) pa_nil))))), ?_⟩
  refine ⟨_, rfl, _, rfl, v, n, l, st, rfl, hv, by omega, by omega, ?_⟩
  obtain ⟨x, dx, m, va, vs, lk, vo, rfl, e, ⟨a, us, rfl, ea, al⟩, h2, h3⟩ := hv
  have S1 : SqT K H a us := .inl (.inl ea)
  have ul : us.length = l.length := al.1
  have len := ok.len
  refine ⟨_, rfl, x, _, dx, _, _, rfl, e, T.cl_House, T.na_House_acts, rfl, a, us, rfl, S1, fun D hD => ?_⟩
  refine lcm LcE.walk_enumT hD (Nat.le_trans (by omega : us.length ≤ 30) (by decide)) (fun i => decide ((l[i]?.map (·.1)) = some st)) (fun j y _ => y = .int (j : Nat)) (fun _ _ _ _ _ h => h) (fun H' s => same_seqT s S1) (fun i z H5 H' kN kY hi s y kn ky => ?_) (fun H' ys s e kp => ?_)
  · obtain ⟨Tp, x1, y1, rfl, hT, rfl, hx, hy⟩ := y
    cases hx
    obtain ⟨d, hd, p, q, ws, rfl, e1, e2, e3⟩ := al.get' hy
    have s6 := s.trans (same_upd (o := .tup [V.int (i : Nat), V.ref p]) hT)
    refine ⟨_, _, rfl, .inl (.inl upd_same), rfl, _, _, rfl, _, _, rfl, rfl, rfl, ?_⟩
    refine ⟨_, rfl, p, _, 0, _, rfl, rfl, .inl (.inl (s6 _ _ e1)), rfl, _, rfl, rfl, decide (d.1 = st), ?_, ite2 (fun h0 => ?_) (fun h0 => ?_)⟩
    · rw [dec_int]
      exact congrArg V.bl (by rw [Bool.eq_iff_iff]; simp; omega)
    · exact ⟨_, rfl, ky _ _ (same_upd hT) (by simp [hd, of_decide_eq_true h0]) rfl⟩
    · exact kn _ (same_upd hT) (by simp [hd]; exact fun z => h0 (decide_eq_true z))
  · have e9 := kept_ints kp
    refine ⟨D, _, rfl, .inl ⟨.inl (.inl e), fun p hp => ?_⟩⟩
    refine k _ p (s.trans (same_upd hp)) ?_
    rw [upd_same, e9, ul]
    rfl
theorem m_acts_at (T : Tx K mg) : C8.Met P w K mg base 4 (CHouse K) "acts_at" (sp_acts_at K) [] := by
  obtain ⟨fd, F⟩ := T.f_House_acts_at
  exact ⟨_, fd, P_House_acts_at, [], T.cl_House, T.me_House_acts_at, ok_acts_at T F, F.bindsN (fun _ _ _ _ _ _ us hl => match us, hl with | [_, _], _ => rfl), .nil⟩
def sp_steps_of (K : PySem.W.Frag) : Sp := fun vs H Q _ => ∃ (v : V) (n : Nat) (l : List ActD) (i : Nat) (d : ActD), vs = [v, .int (i : Int)] ∧ HouseV K H v n l ∧ l[i]? = some d ∧ ∀ p, H p = some (.tup (rgV (off l i : Int) ((off l i : Int) + (d.2.length : Int)))) → Q (.ref p) H
theorem ok_steps_of (T : Tx K mg) {f : Addr} {fd : FuncData} (F : FunD K "steps_of" "House.steps_of" (defArgs s_House_steps_of) (defBody s_House_steps_of) (defScope s_House_steps_of) [] [] f fd) : FnOk P w K mg base CX0 4 f fd P_House_steps_of (sp_steps_of K) := by
  refine fnD F sc_House_steps_of (fun vs H Q E h => ?_) (fun cdv A outer s H vs Q E hr h => ?_)
  · obtain ⟨_, _, _, _, _, rfl, _⟩ := h; rfl
  obtain ⟨v, n, l, i, d, rfl, hv, hd, k⟩ := h
  refine ⟨_, (pss_cons (ps_if (pt_not (pt_val (C8.pe_c (c_is_within T) hr (by decide) (by rfl) (pa_cons (pv 1) (pa_cons pe_int (pa_cons (pe_op op_sub (pe_callB call_len (by rfl) T.b_len (by decide +kernel) (pa_cons (pe_fld (pv 0) rfl) pa_nil)) pe_int) pa_nil)))))) (pss_one ps_never) pss_nil)
      (pss_one (ps_ret (pe_ix ix_tup (pe_fld (pv 0) rfl) (pv 1) (fun _ _ => rfl))))), ?_⟩
  obtain ⟨x, dx, m, va, vs, lk, vo, rfl, e, ⟨a, us, rfl, ea, al⟩, h2, ⟨p, us2, rfl, e1, e2, e3⟩⟩ := hv
  have S1 : SqT K H a us := .inl (.inl ea)
  have ul : us.length = l.length := al.1
  have hi : i < l.length := (List.getElem?_eq_some_iff.mp hd).1
  refine ⟨_, rfl, _, rfl, x, _, dx, _, _, rfl, e, T.cl_House, T.na_House_acts, rfl, _, us.length, rfl, .inr ⟨us, S1, rfl⟩, _, _, rfl, rfl, (i : Int), 0, (us.length : Int) - 1, rfl, by omega, by omega, true, rfl, iteF ?_⟩
  obtain ⟨q, hq, eq⟩ := e3 i us2[i] d (List.getElem?_eq_getElem (by omega)) hd
  refine ⟨_, rfl, x, _, dx, _, _, rfl, e, T.cl_House, T.na_House_lots_of, rfl, _, rfl, p, us2, (i : Int), .ref q, rfl, rfl, .inl (.inl e1), ?_, k q eq⟩
  exact atI_nat (by rw [List.getElem?_eq_getElem (by omega), hq])
theorem m_steps_of (T : Tx K mg) : C8.Met P w K mg base 4 (CHouse K) "steps_of" (sp_steps_of K) [] := by
  obtain ⟨fd, F⟩ := T.f_House_steps_of
  exact ⟨_, fd, P_House_steps_of, [], T.cl_House, T.me_House_steps_of, ok_steps_of T F, F.bindsN (fun _ _ _ _ _ _ us hl => match us, hl with | [_, _], _ => rfl), .nil⟩
end
end Lc
set_option linter.all false
namespace LC
/-! ### outcomes: pairs (target, odds) -/
abbrev Outs := List (Nat × Nat)
def wsum : Outs → Nat
  | [] => 0
  | p :: r => p.2 + wsum r
def psum (v : Nat → Rat) : Outs → Rat
  | [] => 0
  | p :: r => v p.1 * (p.2 : Rat) + psum v r
def mean (v : Nat → Rat) (o : Outs) : Rat := psum v o / (wsum o : Rat)
/-- an act's outcomes as a house has them -/
def OutsOk (n : Nat) (o : Outs) : Prop := o ≠ [] ∧ ∀ p ∈ o, p.1 < n ∧ 1 ≤ p.2
theorem wsum_append (a b : Outs) : wsum (a ++ b) = wsum a + wsum b := by
  induction a with
  | nil => simp [wsum]
  | cons p r ih => simp [wsum, ih, Nat.add_assoc]
theorem psum_append (v : Nat → Rat) (a b : Outs) : psum v (a ++ b) = psum v a + psum v b := by
  induction a with
  | nil => simp [psum, Rat.zero_add]
  | cons p r ih => simp only [List.cons_append, psum, ih]; grind
theorem wsum_pos {n : Nat} {o : Outs} (h : OutsOk n o) : 0 < wsum o := by
  obtain ⟨h1, h2⟩ := h
  cases o with
  | nil => exact absurd rfl h1
  | cons p r => have := (h2 p (List.mem_cons_self)).2; simp only [wsum]; omega
theorem natCast_nn (n : Nat) : (0 : Rat) ≤ (n : Rat) := by
  have : ((0 : Nat) : Rat) ≤ (n : Rat) := Rat.natCast_le_natCast.mpr (Nat.zero_le n)
  simpa using this
theorem natCast_pos {n : Nat} (h : 0 < n) : (0 : Rat) < (n : Rat) := by
  have : ((0 : Nat) : Rat) < (n : Rat) := Rat.natCast_lt_natCast.mpr h
  simpa using this
theorem wsumQ_pos {n : Nat} {o : Outs} (h : OutsOk n o) : (0 : Rat) < (wsum o : Rat) := natCast_pos (wsum_pos h)
theorem psum_congr {u v : Nat → Rat} {o : Outs} (h : ∀ p ∈ o, u p.1 = v p.1) : psum u o = psum v o := by
  induction o with
  | nil => rfl
  | cons p r ih => simp only [psum]; rw [h p List.mem_cons_self, ih fun q hq => h q (List.mem_cons_of_mem _ hq)]
theorem mean_congr {u v : Nat → Rat} {o : Outs} (h : ∀ p ∈ o, u p.1 = v p.1) : mean u o = mean v o := by unfold mean; rw [psum_congr h]
theorem psum_mono {u v : Nat → Rat} {o : Outs} (h : ∀ p ∈ o, u p.1 ≤ v p.1) : psum u o ≤ psum v o := by
  induction o with
  | nil => exact Rat.le_refl
  | cons p r ih =>
    simp only [psum]
    have h1 := Rat.mul_le_mul_of_nonneg_right (h p List.mem_cons_self) (natCast_nn p.2)
    have h2 := ih fun q hq => h q (List.mem_cons_of_mem _ hq)
    grind
theorem psum_const (c : Rat) (o : Outs) : psum (fun _ => c) o = c * (wsum o : Rat) := by
  induction o with
  | nil => simp [psum, wsum, Rat.mul_zero]
  | cons p r ih => simp only [psum, wsum, ih, Rat.natCast_add]; grind
theorem psum_sub (u v : Nat → Rat) (o : Outs) : psum (fun s => u s - v s) o = psum u o - psum v o := by
  induction o with
  | nil => simp only [psum]; grind
  | cons p r ih => simp only [psum, ih]; grind
theorem psum_add (u v : Nat → Rat) (o : Outs) : psum (fun s => u s + v s) o = psum u o + psum v o := by
  induction o with
  | nil => simp only [psum]; grind
  | cons p r ih => simp only [psum, ih]; grind
theorem mean_mul {n : Nat} {v : Nat → Rat} {o : Outs} (h : OutsOk n o) : mean v o * (wsum o : Rat) = psum v o := by
  have := wsumQ_pos h
  unfold mean
  exact Rat.div_mul_cancel (by grind)
theorem mean_le_iff {n : Nat} {v : Nat → Rat} {o : Outs} (h : OutsOk n o) (c : Rat) : mean v o ≤ c ↔ psum v o ≤ c * (wsum o : Rat) := by
  have hw := wsumQ_pos h
  rw [← mean_mul h]
  constructor
  · intro z; exact Rat.mul_le_mul_of_nonneg_right z (by grind)
  · intro z; exact Rat.le_of_mul_le_mul_right z hw
theorem mean_mono {n : Nat} {u v : Nat → Rat} {o : Outs} (ok : OutsOk n o) (h : ∀ p ∈ o, u p.1 ≤ v p.1) : mean u o ≤ mean v o := by
  rw [mean_le_iff ok, mean_mul ok]; exact psum_mono h
theorem mean_const {n : Nat} (c : Rat) {o : Outs} (ok : OutsOk n o) : mean (fun _ => c) o = c := by
  unfold mean
  rw [psum_const]
  have := wsumQ_pos ok
  exact Rat.mul_div_cancel (by grind)
theorem mean_sub (u v : Nat → Rat) (o : Outs) : mean (fun s => u s - v s) o = mean u o - mean v o := by
  unfold mean; rw [psum_sub]; rw [Rat.div_def, Rat.div_def, Rat.div_def]; grind
theorem psum_lt {u v : Nat → Rat} {o : Outs} (ok : ∀ p ∈ o, 1 ≤ p.2) (h : ∀ p ∈ o, u p.1 ≤ v p.1) (hx : ∃ p ∈ o, u p.1 < v p.1) : psum u o < psum v o := by
  induction o with
  | nil => obtain ⟨p, hp, _⟩ := hx; cases hp
  | cons p r ih =>
    simp only [psum]
    have ho : (0 : Rat) < (p.2 : Rat) := natCast_pos (ok p List.mem_cons_self)
    by_cases hp : u p.1 < v p.1
    · have h1 := Rat.mul_lt_mul_of_pos_right hp ho
      have h2 := psum_mono (u := u) (v := v) fun q hq => h q (List.mem_cons_of_mem p hq)
      grind
    · have h1 := Rat.mul_le_mul_of_nonneg_right (h p List.mem_cons_self) (natCast_nn p.2)
      have h2 := ih (fun q hq => ok q (List.mem_cons_of_mem _ hq)) (fun q hq => h q (List.mem_cons_of_mem _ hq)) (by
        obtain ⟨q, hq, e⟩ := hx
        rcases List.mem_cons.mp hq with rfl | hq
        · exact absurd e hp
        · exact ⟨q, hq, e⟩)
      grind
/-- the mean of numbers of at most m is m only if each is -/
theorem mean_max {n : Nat} {u : Nat → Rat} {m : Rat} {o : Outs} (ok : OutsOk n o) (h : ∀ p ∈ o, u p.1 ≤ m) (hm : m ≤ mean u o) : ∀ p ∈ o, u p.1 = m := by
  intro p hp
  apply Classical.byContradiction
  intro hne
  have h1 : psum u o < psum (fun _ => m) o := psum_lt (fun q hq => (ok.2 q hq).2) h ⟨p, hp, by have := h p hp; grind⟩
  rw [psum_const] at h1
  have h2 : m * (wsum o : Rat) ≤ mean u o * (wsum o : Rat) := Rat.mul_le_mul_of_nonneg_right hm (natCast_nn _)
  rw [mean_mul ok] at h2
  grind

/-! ### houses and what picks have -/
structure Hs where
  n : Nat
  acts : List (Nat × Outs)
structure Hs.Ok (h : Hs) : Prop where
  outs : ∀ (a s : Nat) (o : Outs), h.acts[a]? = some (s, o) → OutsOk h.n o ∧ s < h.n
  has : ∀ s, s < h.n → ∃ (a : Nat) (o : Outs), h.acts[a]? = some (s, o)
/-- a is an act of the state s -/
def Hs.At (h : Hs) (s a : Nat) : Prop := ∃ o, h.acts[a]? = some (s, o)
def Hs.out (h : Hs) (a : Nat) : Outs := ((h.acts[a]?).getD (0, [])).2
theorem Hs.At.ok {h : Hs} (k : h.Ok) {s a : Nat} (x : h.At s a) : OutsOk h.n (h.out a) ∧ s < h.n := by
  obtain ⟨o, e⟩ := x
  have := k.outs a s o e
  unfold Hs.out
  rw [e]
  exact this
abbrev Pk := Nat → Option Nat
structure Pk.Ok (h : Hs) (g : List Nat) (p : Pk) : Prop where
  at_ : ∀ s a, p s = some a → h.At s a
  gn : ∀ s ∈ g, p s = none
/-- what had_by tells of picks -/
structure Had (h : Hs) (g : List Nat) (p : Pk) (v : Nat → Rat) (far : Nat → Option Nat) : Prop where
  far0 : ∀ s, far s = some 0 ↔ s ∈ g
  farS : ∀ s k, far s = some (k + 1) → ∃ a, p s = some a ∧ ∃ t ∈ h.out a, far t.1 = some k
  farC : ∀ s a, p s = some a → (∃ t ∈ h.out a, far t.1 ≠ none) → far s ≠ none
  v0 : ∀ s, far s = some 0 → v s = 1
  vS : ∀ s k a, far s = some (k + 1) → p s = some a → v s = mean v (h.out a)
  vN : ∀ s, far s = none → v s = 0
section
variable {h : Hs} {g : List Nat} {p p' : Pk} {v v' : Nat → Rat} {far far' : Nat → Option Nat}
theorem Had.pick (H : Had h g p v far) (hp : p.Ok h g) {s a : Nat} (e : p s = some a) : v s = mean v (h.out a) := by
  cases q : far s with
  | none =>
    rw [H.vN s q]
    have : ∀ t ∈ h.out a, v t.1 = (fun _ => (0 : Rat)) t.1 := fun t ht => by
      apply H.vN
      cases q' : far t.1 with
      | none => rfl
      | some k => exact absurd q (H.farC s a e ⟨t, ht, by rw [q']; simp⟩)
    rw [mean_congr (u := v) (v := fun _ => (0 : Rat)) this]
    unfold mean
    rw [psum_const, Rat.zero_mul, Rat.div_def, Rat.zero_mul]
  | some k =>
    cases k with
    | zero => rw [hp.gn s ((H.far0 s).mp q)] at e; cases e
    | succ k => exact H.vS s k a q e
theorem Had.goal (H : Had h g p v far) {s : Nat} (e : s ∈ g) : v s = 1 := H.v0 s ((H.far0 s).mpr e)
theorem Had.none_ (H : Had h g p v far) {s : Nat} (e : p s = none) (hs : s ∉ g) : v s = 0 := by
  apply H.vN
  cases q : far s with
  | none => rfl
  | some k =>
    cases k with
    | zero => exact absurd ((H.far0 s).mp q) hs
    | succ k => obtain ⟨a, ea, _⟩ := H.farS s k q; rw [e] at ea; cases ea
/-- a lot of states that is not left by the picks and has no goal is not far -/
theorem Had.closed (H : Had h g p v far) {D : Nat → Prop} (hg : ∀ s, D s → s ∉ g) (hc : ∀ s a, D s → p s = some a → ∀ t ∈ h.out a, D t.1) : ∀ s, D s → far s = none := by
  have key : ∀ k s, D s → far s ≠ some k := by
    intro k
    induction k with
    | zero => intro s hs e; exact hg s hs ((H.far0 s).mp e)
    | succ k ih =>
      intro s hs e
      obtain ⟨a, ea, t, ht, et⟩ := H.farS s k e
      exact ih t.1 (hc s a hs ea t ht) et
  intro s hs
  cases q : far s with
  | none => rfl
  | some k => exact absurd q (key k s hs)
/-- the greatest of finitely many numbers -/
theorem max_of (f : Nat → Rat) : ∀ n : Nat, 0 < n → ∃ s, s < n ∧ ∀ t, t < n → f t ≤ f s
  | 0, h => absurd h (Nat.lt_irrefl 0)
  | 1, _ => ⟨0, Nat.one_pos, fun t ht => by have : t = 0 := by omega
                                            subst this; exact Rat.le_refl⟩
  | n + 2, _ => by
    obtain ⟨s, hs, hm⟩ := max_of f (n + 1) (Nat.succ_pos n)
    by_cases c : f s ≤ f (n + 1)
    · refine ⟨n + 1, by omega, fun t ht => ?_⟩
      by_cases e : t = n + 1
      · subst e; exact Rat.le_refl
      · exact Rat.le_trans (hm t (by omega)) c
    · refine ⟨s, by omega, fun t ht => ?_⟩
      by_cases e : t = n + 1
      · subst e; grind
      · exact hm t (by omega)
/-- u is no more than v where u is had by picks, v falls in the mean there -/
theorem had_le (ok : h.Ok) (hp : p.Ok h g) (H : Had h g p v far) {u : Nat → Rat} (u0 : ∀ s, s < h.n → 0 ≤ u s) (ug : ∀ s ∈ g, 1 ≤ u s)
    (um : ∀ s a, p s = some a → mean u (h.out a) ≤ u s) : ∀ s, s < h.n → v s ≤ u s := by
  intro s0 hs0
  apply Classical.byContradiction
  intro hc
  obtain ⟨m, hm, hmax⟩ := max_of (fun s => v s - u s) h.n (by omega)
  have hpos : 0 < v m - u m := by have := hmax s0 hs0; grind
  have cl : ∀ s, (s < h.n ∧ v s - u s = v m - u m) → far s = none := by
    refine H.closed (D := fun s => s < h.n ∧ v s - u s = v m - u m) (fun s hs hg => ?_) fun s a hs ea t ht => ?_
    · have := H.goal hg; have := ug s hg; grind
    · have at_ := hp.at_ s a ea
      obtain ⟨oko, _⟩ := at_.ok ok
      have e1 := H.pick hp ea
      have e2 := um s a ea
      have := mean_max (u := fun s => v s - u s) (m := v m - u m) oko (fun q hq => hmax q.1 (oko.2 q hq).1) (by rw [mean_sub]; grind) t ht
      exact ⟨(oko.2 t ht).1, this⟩
  have := H.vN m (cl m ⟨hm, rfl⟩)
  have := u0 m hm
  grind
theorem Had.nonneg (ok : h.Ok) (hp : p.Ok h g) (H : Had h g p v far) : ∀ s, s < h.n → 0 ≤ v s := by
  intro s0 hs0
  apply Classical.byContradiction
  intro hc
  obtain ⟨m, hm, hmax⟩ := max_of (fun s => - v s) h.n (by omega)
  have hpos : 0 < - v m := by have := hmax s0 hs0; grind
  have cl : ∀ s, (s < h.n ∧ v s = v m) → far s = none := by
    refine H.closed (D := fun s => s < h.n ∧ v s = v m) (fun s hs hg => ?_) fun s a hs ea t ht => ?_
    · have := H.goal hg; grind
    · have at_ := hp.at_ s a ea
      obtain ⟨oko, _⟩ := at_.ok ok
      have e1 := H.pick hp ea
      have e3 : mean (fun s => - v s) (h.out a) = - mean v (h.out a) := by
        have : ∀ q ∈ h.out a, (fun s => - v s) q.1 = (fun s => (fun _ => (0 : Rat)) s - v s) q.1 := fun q _ => by grind
        rw [mean_congr (u := fun s => - v s) (v := fun s => (fun _ => (0 : Rat)) s - v s) this, mean_sub, mean_const 0 oko]; grind
      have := mean_max (u := fun s => - v s) (m := - v m) oko (fun q hq => hmax q.1 (oko.2 q hq).1) (by rw [e3]; grind) t ht
      exact ⟨(oko.2 t ht).1, by grind⟩
  have := H.vN m (cl m ⟨hm, rfl⟩)
  grind
theorem Had.le_one (ok : h.Ok) (hp : p.Ok h g) (H : Had h g p v far) : ∀ s, s < h.n → v s ≤ 1 := by
  refine had_le ok hp H (u := fun _ => 1) (fun _ _ => by grind) (fun _ _ => Rat.le_refl) fun s a e => ?_
  obtain ⟨oko, _⟩ := (hp.at_ s a e).ok ok
  rw [mean_const 1 oko]
  exact Rat.le_refl
/-- picks that are no worse in the mean -/
theorem improve (ok : h.Ok) (hp : p.Ok h g) (hp' : p'.Ok h g) (H : Had h g p v far) (H' : Had h g p' v' far')
    (st : ∀ s, s < h.n → p' s = p s ∨ ∃ a, p' s = some a ∧ v s < mean v (h.out a)) : ∀ s, s < h.n → v s ≤ v' s := by
  intro s0 hs0
  apply Classical.byContradiction
  intro hc
  obtain ⟨m, hm, hmax⟩ := max_of (fun s => v s - v' s) h.n (by omega)
  have hpos : 0 < v m - v' m := by have := hmax s0 hs0; grind
  have n' := H'.nonneg ok hp'
  have D : ∀ s, s < h.n → v s - v' s = v m - v' m → (s ∉ g ∧ ∃ a, p' s = some a ∧ p s = some a ∧ ∀ t ∈ h.out a, t.1 < h.n ∧ v t.1 - v' t.1 = v m - v' m) := by
    intro s hs e
    have hg : s ∉ g := fun hg => by have := H.goal hg; have := H'.goal hg; grind
    refine ⟨hg, ?_⟩
    cases q : p' s with
    | none =>
      have e1 := H'.none_ q hg
      rcases st s hs with z | ⟨a, z, _⟩
      · have e2 := H.none_ (z.symm.trans q) hg; grind
      · rw [q] at z; cases z
    | some a =>
      obtain ⟨oko, _⟩ := (hp'.at_ s a q).ok ok
      have e1 := H'.pick hp' q
      have le : v s ≤ mean v (h.out a) := by
        rcases st s hs with z | ⟨b, z, l⟩
        · have := H.pick hp (z.symm.trans q); grind
        · rw [q] at z; cases z; grind
      have all := mean_max (u := fun s => v s - v' s) (m := v m - v' m) oko (fun q hq => hmax q.1 (oko.2 q hq).1) (by rw [mean_sub]; grind)
      have eq : mean (fun s => v s - v' s) (h.out a) = v m - v' m := by
        have : ∀ q ∈ h.out a, (fun s => v s - v' s) q.1 = (fun _ => v m - v' m) q.1 := fun q hq => all q hq
        rw [mean_congr (u := fun s => v s - v' s) (v := fun _ => v m - v' m) this, mean_const _ oko]
      rw [mean_sub] at eq
      have ps : p s = some a := by
        rcases st s hs with z | ⟨b, z, l⟩
        · exact z.symm.trans q
        · rw [q] at z; cases z; grind
      exact ⟨a, rfl, ps, fun t ht => ⟨(oko.2 t ht).1, all t ht⟩⟩
  have cl := H.closed (D := fun s => s < h.n ∧ v s - v' s = v m - v' m) (fun s hs => (D s hs.1 hs.2).1) (fun s a hs ea t ht => by
    obtain ⟨_, b, _, eb, all⟩ := D s hs.1 hs.2
    rw [ea] at eb; cases eb
    exact all t ht) m ⟨hm, rfl⟩
  have := H.vN m cl
  have := n' m hm
  grind
/-- .. and better somewhere if another act is picked -/
theorem improve_lt (ok : h.Ok) (hp : p.Ok h g) (hp' : p'.Ok h g) (H : Had h g p v far) (H' : Had h g p' v' far')
    (st : ∀ s, s < h.n → p' s = p s ∨ ∃ a, p' s = some a ∧ v s < mean v (h.out a)) {s : Nat} (hs : s < h.n) (ne : p' s ≠ p s) : v s < v' s := by
  have le := improve ok hp hp' H H' st
  rcases st s hs with z | ⟨a, z, l⟩
  · exact absurd z ne
  · obtain ⟨oko, _⟩ := (hp'.at_ s a z).ok ok
    have e1 := H'.pick hp' z
    have e2 := mean_mono (u := v) (v := v') oko fun q hq => le q.1 (oko.2 q hq).1
    grind
theorem had_unique (ok : h.Ok) (hp : p.Ok h g) (H : Had h g p v far) (H' : Had h g p v' far') : ∀ s, s < h.n → v s = v' s := by
  intro s hs
  have a := improve ok hp hp H H' (fun _ _ => .inl rfl) s hs
  have b := improve ok hp hp H' H (fun _ _ => .inl rfl) s hs
  grind
end
end LC
set_option Elab.async false
set_option linter.all false
set_option maxRecDepth 100000
set_option maxHeartbeats 4000000
namespace Lc
open PySem PySem.Spec PyProof.Rows L2 LcR
open LC (Sz psum wsum mean)
/-! ### targets and means -/
def prs (d : ActD) : LC.Outs := d.2.map fun o => (o.target, o.odds)
def PairV (H : Hp) (u : V) (z : Nat × Nat) : Prop := ∃ a, u = .ref a ∧ H a = some (.tup [.int (z.1 : Int), .int (z.2 : Int)])
theorem PairV.n {H H' : Hp} {u : V} {z : Nat × Nat} (h : PairV H u z) (s : SameN H H') : PairV H' u z := by
  obtain ⟨a, rfl, e⟩ := h
  exact ⟨a, rfl, s _ _ e trivial⟩
def NumsL (K : PySem.W.Frag) (H : Hp) (v : V) (q : List Rat) : Prop := ∃ a us, v = .ref a ∧ H a = some (.lst us) ∧ All2 (IsR K H) us q
theorem NumsL.s {K : PySem.W.Frag} {H H' : Hp} {v : V} {q : List Rat} (h : NumsL K H v q) (s : Same H H') : NumsL K H' v q := by
  obtain ⟨a, us, rfl, e, al⟩ := h
  exact ⟨a, us, rfl, s _ _ e, al.imp fun x y z => z.n (same_n s)⟩
/-- numbers in a list or a tuple -/
def NumsS (K : PySem.W.Frag) (H : Hp) (v : V) (q : List Rat) : Prop := ∃ a us, v = .ref a ∧ (H a = some (.lst us) ∨ H a = some (.tup us)) ∧ All2 (IsR K H) us q
theorem NumsS.s {K : PySem.W.Frag} {H H' : Hp} {v : V} {q : List Rat} (h : NumsS K H v q) (s : Same H H') : NumsS K H' v q := by
  obtain ⟨a, us, rfl, e, al⟩ := h
  exact ⟨a, us, rfl, e.imp (s _ _) (s _ _), al.imp fun x y z => z.n (same_n s)⟩
theorem NumsL.toS {K : PySem.W.Frag} {H : Hp} {v : V} {q : List Rat} (h : NumsL K H v q) : NumsS K H v q := by
  obtain ⟨a, us, rfl, e, al⟩ := h
  exact ⟨a, us, rfl, .inl e, al⟩
theorem mR1 {K : PySem.W.Frag} {H : Hp} {R : V → Hp → Prop} {E : XK} {i : Int} {x dx : Addr} (hx : H x = none) (hdx : H dx = none) (ne : dx ≠ x) (k : ∀ H', Same H H' → IsR K H' (.ref x) (i : Rat) → R .non H') :
    sp_Ratio_init K (.ref x :: ([.int i] ++ [.int 1])) (upd (upd H dx (.own x)) x (.ins (CRatio K) dx [])) R E := by
  refine ⟨x, dx, i, 1, 0, rfl, by decide, by decide, by decide, upd_same, fun q hq => ?_⟩
  rw [upd_upd]
  refine k _ (same_made hx hdx) ⟨x, dx, rfl, ?_⟩
  rw [upd_same, hq]
  have e : Rat.divInt i 1 = (i : Rat) := by
    rw [Rat.divInt_eq_div, show ((1 : Int) : Rat) = 1 from rfl]; grind
  rw [e]
section
variable {P : Program} {w : World} {K : PySem.W.Frag} {mg : Str → Option Value} {base : Heap}
def sp_need_goal (K : PySem.W.Frag) : Sp := fun vs H Q _ => ∃ v n l u g, vs = [v, u] ∧ HouseV K H v n l ∧ GoalV K H u g ∧ Asc g ∧ g.length ≤ 200 ∧ (∀ s ∈ g, s < n) ∧ ∀ H', Same H H' → Q .non H'
theorem c_need_goal (T : Tx K mg) : C8.Cal P w K mg base 3 "need_goal" (sp_need_goal K) [] := by
  obtain ⟨fd, F⟩ := T.f_need_goal
  refine calD F T.g_need_goal sc_need_goal (fun _ _ _ _ _ _ us hl => match us, hl with | [_, _], _ => rfl) (fun vs H Q E h => ?_) (fun cdv A outer s H vs Q E hr h => ?_)
  · obtain ⟨_, _, _, _, _, rfl, _⟩ := h; rfl
  obtain ⟨v, n, l, u, g, rfl, hv, hg, asc, gl, gn, k⟩ := h
  refine ⟨_, (pss_cons (ps_expr (C8.pe_c (c_need_house T) hr (by decide) (by rfl) (pa_cons (pv 0) pa_nil)))
      (pss_one (ps_if (PW.pt (pw_or (pt_not (pt_val (C8.pe_c (c_is_lot T) hr (by decide) (by rfl) (pa_cons (pv 1) pa_nil)))) (pw_or1 (pt_not (pt_val (pe_callB (cr_all rfl) (by rfl) T.b_all (by decide +kernel) (pa_cons (pe_lc (own := [("state", 2)]) (g := gName 2) (te := (tOp (rI0 fun i j => .bl (decide (i < j))) (tVar 2) (tFld K (tVar 0) "states"))) (by rfl) sc_need_goal.nd (pi_tup (pv 1)) (blkOk_by (own := [("state", 2)]) (N := N_need_goal) (sc := defScope s_need_goal) (by decide +kernel)) (fun _ _ _ _ _ => (pg_name (i := 2) sc_need_goal.nd rfl (Or.inl rfl))) (fun _ _ _ _ _ => pts_nil) (fun _ _ _ _ _ => (pe_cmpR op_lt (pv 2) (pe_fld (pv 0) rfl) (nomark _)))) pa_nil))))))) (pss_one ps_never) pss_nil))), ?_⟩
  refine ⟨_, rfl, v, n, l, rfl, hv, ?_⟩
  refine ⟨_, rfl, u, g, rfl, hg, asc, gl, fun H1 s1 => ⟨true, rfl, iteF ?_⟩⟩
  obtain ⟨x, dx, m, va, vs, lk, vo, rfl, e, h1, h2, h3⟩ := hv
  obtain ⟨a, rfl, eg⟩ := hg
  have S1 : SqT K H a (g.map fun n : Nat => V.int (n : Int)) := .inl (.inl eg)
  have gl2 : (g.map fun n : Nat => V.int (n : Int)).length = g.length := List.length_map _
  refine ⟨_, rfl, a, rfl, ⟨_, same_seqT s1 S1⟩, fun D hD => ?_⟩
  refine lcm walk_tup hD (Nat.le_trans (by omega : (g.map fun n : Nat => V.int (n : Int)).length ≤ 200) (by decide)) (fun _ => true) (fun _ y _ => y = V.bl true) (fun _ _ _ _ _ h => h) (fun H' s => same_seqT (s1.trans s) S1) (fun i z H5 H' kN kY hi s y kn ky => ?_) (fun H' ys s e kp => ?_)
  · obtain ⟨rfl, hx⟩ := y
    rw [List.getElem?_map] at hx
    obtain ⟨t, ht, rfl⟩ := Option.map_eq_some_iff.mp hx
    refine ⟨rfl, yes ⟨_, rfl, _, rfl, x, _, dx, _, _, rfl, (s1.trans s) _ _ e, T.cl_House, T.na_House_states, rfl, _, _, rfl, rfl, ?_⟩⟩
    show kY (.bl (decide ((t : Int) < (n : Int)))) _
    have := gn t (List.mem_of_getElem? ht)
    rw [decide_eq_true (by omega : (t : Int) < (n : Int))]
    exact ky _ _ (Same.refl _) rfl rfl
  · obtain ⟨l1, l2⟩ := kp.all
    have e3 := map_bl_all (H := H') l1 l2
    refine ⟨D, List.replicate _ true, rfl, .inl (.inl (by rw [← e3]; exact e)), ?_⟩
    rw [all_true]
    exact ⟨true, rfl, iteF (k _ (s1.trans s))⟩
def sp_targets_of (K : PySem.W.Frag) : Sp := fun vs H Q _ => ∃ (v : V) (n : Nat) (l : List ActD) (i : Nat) (d : ActD), vs = [v, .int (i : Int)] ∧ HouseV K H v n l ∧ OkActs n l ∧ l[i]? = some d ∧
  ∀ H' p us, Same H H' → H' p = some (.lst us) → All2 (PairV H') us (prs d) → Q (.ref p) H'
theorem c_targets_of (T : Tx K mg) : C8.Cal P w K mg base 5 "targets_of" (sp_targets_of K) [] := by
  obtain ⟨fd, F⟩ := T.f_targets_of
  refine calD F T.g_targets_of sc_targets_of (fun _ _ _ _ _ _ us hl => match us, hl with | [_, _], _ => rfl) (fun vs H Q E h => ?_) (fun cdv A outer s H vs Q E hr h => ?_)
  · obtain ⟨_, _, _, _, _, rfl, _⟩ := h; rfl
  obtain ⟨v, n, l, i, d, rfl, hv, ok, hd, k⟩ := h
  refine ⟨_, (pss_one (ps_ret (pe_lc (own := [("at", 2)]) (g := gName 2) (te := (tTup (tCons (tFld K (tOp (rIxT K) (tFld K (tVar 0) "steps") (tVar 2)) "target") (tCons (tFld K (tOp (rIxT K) (tFld K (tVar 0) "steps") (tVar 2)) "odds") tNil)))) (by rfl) sc_targets_of.nd (pi_tup (C8.pe_mt (m_steps_of T) hr (by decide) (pv 0) (pa_cons (pv 1) pa_nil))) (blkOk_by (own := [("at", 2)]) (N := N_targets_of) (sc := defScope s_targets_of) (by decide +kernel)) (fun _ _ _ _ _ => (pg_name (i := 2) sc_targets_of.nd rfl (Or.inl rfl))) (fun _ _ _ _ _ => pts_nil) (fun _ _ _ _ _ => (pe_tup (pa_cons (pe_fld (pe_ix ix_tup (pe_fld (pv 0) rfl) (pv 2) (fun _ _ => rfl)) rfl) (pa_cons (pe_fld (pe_ix ix_tup (pe_fld (pv 0) rfl) (pv 2) (fun _ _ => rfl)) rfl) pa_nil))))))), ?_⟩
  obtain ⟨x, dx, m, va, vs, lk, vo, rfl, e, h1, ⟨a, us, rfl, ea, al⟩, h3⟩ := id hv
  have okd := ok.acts d (List.mem_of_getElem? hd)
  refine ⟨_, rfl, x, dx, _, rfl, e, rfl, _, rfl, _, n, l, i, d, rfl, hv, hd, fun p hp => ?_⟩
  have S1 : SqT K H p (rgV (off l i) (off l i + d.2.length)) := .inl (.inl hp)
  have hl : (rgV (off l i : Int) ((off l i : Int) + (d.2.length : Int))).length = d.2.length := by rw [rgV_length]; omega
  have dl := okd.len
  refine ⟨p, rfl, ⟨_, S1⟩, fun D hD => ?_⟩
  refine lcm walk_tup hD (Nat.le_trans (by omega : (rgV (off l i : Int) ((off l i : Int) + (d.2.length : Int))).length ≤ 5) (by decide)) (fun _ => true) (fun j y H' => ∃ o, d.2[j]? = some o ∧ PairV H' y (o.target, o.odds)) (fun j y H5 H6 s h => ?_) (fun H' s => same_seqT s S1) (fun j z H5 H' kN kY hj s y kn ky => ?_) (fun H' ys s e kp => ?_)
  · obtain ⟨o, ho, hp⟩ := h
    exact ⟨o, ho, hp.n s⟩
  · obtain ⟨rfl, hx⟩ := y
    have hj2 : j < d.2.length := by omega
    have ez : z = V.int ((off l i + j : Nat) : Int) := by
      unfold rgV at hx
      rw [List.getElem?_map, List.getElem?_range (by omega)] at hx
      cases hx
      simp
    subst ez
    have ho := List.getElem?_eq_getElem hj2
    obtain ⟨u, hu, y, dy, pw, rfl, ey⟩ := al.get (flat_get hd ho)
    have ix : atI us ((off l i + j : Nat) : Int) = some (V.ref y) := atI_nat hu
    refine ⟨rfl, yes ?_⟩
    refine ⟨_, rfl, x, _, dx, _, _, rfl, s _ _ e, T.cl_House, T.na_House_steps, rfl, _, rfl, a, us, _, _, rfl, rfl, .inl (.inl (s _ _ ea)), ix, ?_⟩
    refine ⟨y, _, dy, _, _, rfl, s _ _ ey, T.cl_Step, T.na_Step_target, rfl, ?_⟩
    refine ⟨_, rfl, x, _, dx, _, _, rfl, s _ _ e, T.cl_House, T.na_House_steps, rfl, _, rfl, a, us, _, _, rfl, rfl, .inl (.inl (s _ _ ea)), ix, ?_⟩
    refine ⟨y, _, dy, _, _, rfl, s _ _ ey, T.cl_Step, T.na_Step_odds, rfl, by show 2 ≤ sizeLine; decide, fun q hq => ?_⟩
    exact ky _ _ (same_upd hq) rfl ⟨_, ho, q, rfl, upd_same⟩
  · obtain ⟨l1, l2⟩ := kp.all
    refine k H' D ys s e ⟨by rw [l1, hl]; simp [prs], fun j y z hy hz => ?_⟩
    obtain ⟨o, ho, hp⟩ := l2 j y hy
    unfold prs at hz
    rw [List.getElem?_map, ho] at hz
    cases hz
    exact hp
/-- what the sums of a mean ask -/
structure MeanOk (v : Nat → Rat) (o : LC.Outs) : Prop where
  st : ∀ (i : Nat) p, o[i]? = some p → ∃ t b t' b', Sz t b (psum v (o.take i)) ∧ Sz t' b' (v p.1) ∧ t + b + t' + b' ≤ 30000 ∧ b + b' < 8990
  fin : ∃ t b, Sz t b (psum v o) ∧ t + b ≤ 30000 ∧ b < 8980
def numN (q : List Rat) (i : Nat) : Rat := (q[i]?).getD 0
theorem psum_snoc (v : Nat → Rat) (o : LC.Outs) (p : Nat × Nat) : psum v (o ++ [p]) = psum v o + v p.1 * (p.2 : Rat) := by
  rw [LC.psum_append]
  simp only [psum, Rat.add_zero]
theorem wsum_snoc (o : LC.Outs) (p : Nat × Nat) : wsum (o ++ [p]) = wsum o + p.2 := by
  rw [LC.wsum_append]
  simp only [wsum, Nat.add_zero]
def sp_mean_at (K : PySem.W.Frag) : Sp := fun vs H Q _ => ∃ (v : V) (n : Nat) (l : List ActD) (i : Nat) (d : ActD) (u : V) (q : List Rat), vs = [v, .int (i : Int), u] ∧ HouseV K H v n l ∧ OkActs n l ∧ l[i]? = some d ∧ NumsS K H u q ∧ q.length = n ∧ MeanOk (numN q) (prs d) ∧
  ∀ H' y, Same H H' → IsR K H' y (mean (numN q) (prs d)) → Q y H'
theorem wsum_le {n : Nat} {d : ActD} (h : OkAct n d) : ∀ i, wsum ((prs d).take i) ≤ 900 * i := by
  intro i
  induction i with
  | zero => simp [wsum]
  | succ i ih =>
    by_cases hi : i < (prs d).length
    · rw [List.take_add_one, List.getElem?_eq_getElem hi]
      show wsum (List.take i (prs d) ++ [(prs d)[i]]) ≤ _
      rw [wsum_snoc]
      have hm : (prs d)[i] ∈ prs d := List.getElem_mem hi
      obtain ⟨o, ho, e⟩ := List.mem_map.mp hm
      have := (h.outs o ho).o2
      have e2 : (prs d)[i].2 = o.odds := by rw [← e]
      omega
    · rw [List.take_of_length_le (by omega)] at ih ⊢
      omega
theorem c_mean_at (T : Tx K mg) : C8.Cal P w K mg base 6 "mean_at" (sp_mean_at K) [] := by
  obtain ⟨fd, F⟩ := T.f_mean_at
  refine calD F T.g_mean_at sc_mean_at (fun _ _ _ _ _ _ us hl => match us, hl with | [_, _, _], _ => rfl) (fun vs H Q E h => ?_) (fun cdv A outer s H vs Q E hr h => ?_)
  · obtain ⟨_, _, _, _, _, _, _, rfl, _⟩ := h; rfl
  obtain ⟨v, n, l, i, d, u, q, rfl, hv, ok, hd, hu, ql, mo, k⟩ := h
  have okd := ok.acts d (List.mem_of_getElem? hd)
  refine ⟨_, (pss_cons (ps_par (i := 3) (j := 4) (by rfl) sc_mean_at.nd rfl rfl (by decide) rfl rfl (pa_cons (C8.pe_mk (c_Ratio_1 T) hr (by decide) (by rfl) (pa_cons pe_int pa_nil)) (pa_cons pe_int pa_nil)) (by rfl))
      (pss_cons (ps_for PassesOwn.never rfl (pi_list (C8.pe_c (c_targets_of T) hr (by decide) (by rfl) (pa_cons (pv 0) (pa_cons (pv 1) pa_nil)))) (pg_tup rfl (pgs_cons (pg_name (i := 5) sc_mean_at.nd rfl (Or.inl rfl)) (pgs_cons (pg_name (i := 6) sc_mean_at.nd rfl (Or.inl rfl)) pgs_nil)))
      (pss_cons (ps_set (i := 3) sc_mean_at.nd rfl (Or.inl rfl) (pe_op (op_Radd T hr (by decide)) (pv 3) (pe_op (op_Rmul T hr (by decide)) (pe_ix ix_seq (pv 2) (pv 5) (fun _ _ => rfl)) (pv 6))))
      (pss_one (ps_set (i := 4) sc_mean_at.nd rfl (Or.inl rfl) (pe_op op_add (pv 4) (pv 6))))))
      (pss_one (ps_ret (C8.pe_mt (m_over T) hr (by decide) (pv 3) (pa_cons (pv 4) pa_nil)))))), ?_⟩
  refine fun x dx hx hdx ne => mR1 hx hdx ne fun H1 s1 hz => ⟨rfl, ?_⟩
  have hz0 : IsR K H1 (.ref x) 0 := hz
  refine ⟨_, _, rfl, ?_⟩
  refine ⟨_, rfl, _, rfl, _, n, l, i, d, rfl, hv.n (same_n s1), ok, hd, fun H2 p us s2 ep ap => ?_⟩
  have pl : (prs d).length = d.2.length := List.length_map _
  have S2 : SqL K H2 p us := .inl (.inl ep)
  refine ⟨p, rfl, ⟨us, S2⟩, ?_⟩
  have s12 := s1.trans s2
  refine for_it walk_list (fun j σ H3 => (∃ f x y, σ = [some v, some (.int (i : Nat)), some u, some f, some (.int (wsum ((prs d).take j) : Nat)), x, y] ∧ IsR K H3 f (psum (numN q) ((prs d).take j))) ∧ Same H2 H3)
    ⟨⟨.ref x, none, none, rfl, hz0.n (same_n s2)⟩, Same.refl _⟩ (fun j σ H3 _ p => .inl (.inl (p.2 _ _ ep))) ?_ ?_
  · rintro j x σ H3 H4 hj ⟨⟨f, z1, z2, rfl, hf⟩, s3⟩ ⟨rfl, hx⟩
    obtain ⟨⟨t, od⟩, hp, a, rfl, ea⟩ := ap.get' hx
    have s4 := s12.trans s3
    obtain ⟨b, vs, rfl, eb, ab⟩ := hu.s s4
    have okt : t < n ∧ od ≤ 900 := by
      obtain ⟨o, ho, e⟩ := List.mem_map.mp (List.mem_of_getElem? hp)
      have := okd.outs o ho
      cases e
      exact ⟨this.t, this.o2⟩
    obtain ⟨q1, hq1⟩ : ∃ q1, q[t]? = some q1 := ⟨_, List.getElem?_eq_getElem (by omega)⟩
    obtain ⟨y, hy, ry⟩ := ab.get hq1
    have eq1 : numN q t = q1 := by unfold numN; rw [hq1]; rfl
    obtain ⟨T1, B1, T2, B2, h1, h2, h3, h4⟩ := mo.st j _ hp
    rw [show (t, od).fst = t from rfl, eq1] at h2
    refine ⟨a, _, rfl, .inl (.inl (s3 _ _ ea)), rfl, _, _, rfl, _, _, rfl, rfl, ?_⟩
    have tail : ∀ (Q' : VK), Q' y H4 → rIx K (.ref b) (.int ((t : Nat) : Int)) H4 Q' := fun Q' hQ => by
      rcases eb with eb | eb
      · exact .inl ⟨b, vs, _, y, rfl, rfl, .inl (.inl eb), atI_nat hy, hQ⟩
      · exact .inr (.inl ⟨b, vs, _, y, rfl, rfl, .inl (.inl eb), atI_nat hy, hQ⟩)
    refine ⟨_, rfl, _, rfl, _, rfl, tail _ ⟨_, rfl, ?_⟩⟩
    have od4 : Sz 10 0 ((od : Int) : Rat) := LC.sz_int (by show od ≤ 2 ^ 10; omega)
    refine ⟨q1, (od : Int), T2, B2, 10, 0, ry, .inr ⟨_, rfl, rfl⟩, h2, od4, by omega, by omega, fun H5 m s5 hm => ?_⟩
    refine ⟨_, _, T1, B1, T2 + 10, B2 + 0, hf.n (same_n s5), .inl hm, h1, h2.mul od4, by omega, by omega, fun H6 f' s6 hf' => ?_⟩
    refine ⟨_, rfl, _, rfl, _, _, rfl, rfl, ?_⟩
    have tk : (prs d).take (j + 1) = (prs d).take j ++ [(t, od)] := by rw [List.take_add_one, hp]; rfl
    refine ⟨⟨f', some (.int (t : Int)), some (.int (od : Int)), ?_, ?_⟩, s3.trans (s5.trans s6)⟩
    · rw [tk, wsum_snoc, Int.natCast_add]
      rfl
    · rw [tk, psum_snoc, show (t, od).fst = t from rfl, eq1]
      exact hf'
  · rintro σ H3 ⟨⟨f, z1, z2, rfl, hf⟩, s3⟩
    rw [ap.1, List.take_length] at *
    obtain ⟨T1, B1, h1, h2, h3⟩ := mo.fin
    have wl := wsum_le okd (prs d).length
    rw [List.take_length] at wl
    have dl := okd.len
    have wp : 0 < wsum (prs d) := by
      refine LC.wsum_pos (n := n) ⟨fun e => okd.ne (List.map_eq_nil_iff.mp e), fun p hp => ?_⟩
      obtain ⟨o, ho, e⟩ := List.mem_map.mp hp
      have := okd.outs o ho
      cases e
      exact ⟨this.t, this.o1⟩
    obtain ⟨x1, dx1, rfl, ex1⟩ := id hf
    refine ⟨_, rfl, x1, dx1, _, rfl, ex1, rfl, _, rfl, _, _, _, ((wsum (prs d) : Nat) : Int), T1, B1, 13, 0, rfl, hf, .inr ⟨_, rfl, rfl⟩, h1, LC.sz_int (by show wsum (prs d) ≤ 2 ^ 13; omega), by omega, by omega, ?_, fun H4 y s4 hy => ?_⟩
    · intro e
      have e2 : ((wsum (prs d) : Nat) : Int) = 0 := by exact_mod_cast e
      omega
    · exact k H4 y (s12.trans (s3.trans s4)) hy
end
end Lc
set_option Elab.async false
set_option linter.all false
set_option maxRecDepth 100000
set_option maxHeartbeats 4000000
namespace LcD
open PySem PySem.Spec PyProof.Rows L2 LcR
section
variable {X : Cx}
/-- sorted(d), a dict whose keys are ints -/
def rSortedDK : List V → Hp → VK → Prop := fun vs H Q => ∃ (a : Addr) (kvs : List (L2.Key × V)) (ns : List Int), vs = [V.ref a] ∧ Rd H a (.dK kvs) ∧ (kvs.map fun kv => kV kv.1) = ns.map V.int ∧
  ∀ (ns' : List Int) (p : Addr), ns'.Perm ns → ns'.Pairwise (· ≤ ·) → H p = none → Q (.ref p) (upd H p (.lst (ns'.map V.int)))
/-- collect, told with where the items were gathered -/
theorem collect_new {prog : Program} {w : World} {A : Around} {E : Value → Shared → Prop} {s : Shared} {T : String} {r d : Addr} {n : Nat} {P : Nat → Value → Prop} {OK : Heap → Prop} {R : List Value → Shared → Prop} (Ks : PySem.W.KdlSrc prog w T r d n P OK) (hh : A.handled = none) (hok : OK s.heap) (hn : n ≤ sizeLine)
    (h : ∀ (h' : Heap) (tk : Nat) (acc : Array Value), s.heap.objs.size < h'.objs.size → (∀ b o, s.heap.get? b = some o → h'.get? b = some o) → ItemsOf P acc n → R acc.toList { s with heap := h', toks := tk }) :
    wpAny (model prog w) A (collect (.ref r)) R E s := by
  have big := Ks.there _ hok
  have fresh : (s.heap.push { cls := .type "list", data := .seq ([] : List Value).toArray }).get? s.heap.objs.size = some { cls := .type "list", data := .seq #[] } := Heap.get?_push_size _ rfl
  let G : Result → Shared → Prop := fun q s' => ∃ (h' : Heap) (tk : Nat) (acc : Array Value) (c : Nat), q = .ok (.ret (.ref s.heap.objs.size)) ∧ s' = { s with heap := h', toks := tk } ∧
    (∀ b o, s.heap.get? b = some o → h'.get? b = some o) ∧ h'.get? s.heap.objs.size = some { cls := .type "list", dict := none, data := .seq acc c, slots := #[] } ∧ ItemsOf P acc n
  have grow := PySem.W.kdl_extend (A := A) (s := { s with heap := s.heap.push { cls := .type "list", data := .seq ([] : List Value).toArray } }) (R := G)
    Ks hh (Ks.keep _ _ hok fun b _ o e => Heap.get?_push_of_some _ e) s.heap.objs.size (Nat.ne_of_gt big.1) (Nat.ne_of_gt big.2) (.ref s.heap.objs.size) 0 fresh
    (fun h' tk acc c hk hS hI => ⟨h', tk, acc, c, rfl, rfl, fun b o e => hk b o (Nat.ne_of_lt (Heap.lt_size e)) (Heap.get?_push_of_some _ e), hS, hI⟩) hn
  unfold collect
  refine wpAny_bind (wpAny_runValue (codeAny_builtin entry_proto_collect' ?_))
  rw [Around.under_plainId PySem.F.plain_proto_collect _]
  show wpAny _ A.in1 (newList [] >>= fun l => again (.builtin "list.__iadd__" ⟨[l, .ref r], []⟩)) _ _ s
  refine wpAny_bind (wpAny_newObj_type (wpAny_pure ⟨plainId_quiet PySem.F.plain_list_iadd _, codeAny_builtin entry_list_iadd' ?_⟩))
  rw [Around.under_plainId PySem.F.plain_list_iadd _]
  refine wpAny_mono grow (fun fin s' x => ?_) fun e s' ⟨_, _, _, _, z, _⟩ => nomatch z
  cases fin with
  | done f =>
    obtain ⟨h', tk, acc, c, z, rfl, hk, hS, hI⟩ := x
    cases z
    show wpAny _ A (load s.heap.objs.size >>= _) _ _ _
    exact wpAny_bind (wpAny_load hS (wpAny_pure (h h' tk acc (Heap.lt_size hS) hk hI)))
  | again c₁ =>
    refine ⟨x.1, codeAny_mono x.2 fun q s₂ y => ?_⟩
    obtain ⟨h', tk, acc, c, rfl, rfl, hk, hS, hI⟩ := y
    show wpAny _ A (load s.heap.objs.size >>= _) _ _ _
    exact wpAny_bind (wpAny_load hS (wpAny_pure (h h' tk acc (Heap.lt_size hS) hk hI)))
theorem cr_sortedDK (hc : X.calm = true) : CallR X (.builtin "sorted") rSortedDK := by
  intro pins s σ H vs us Q I r h
  obtain ⟨a, kvs, ns, rfl, hrd, hns, q⟩ := h
  rw [Vals.ref1 r]
  obtain ⟨z, lo, ps, rk, hd⟩ := (show ObjOk X.prog X.w H s.heap a (.dK kvs) from hrd.ok I.hok)
  obtain ⟨ep, hat⟩ := hd.dictAt
  have hl : kvs.length = ps.length := Paired.length rk
  refine Calls.call_function_entry kind_sorted plain_sorted entry_sorted (args_sorted1 _) ?_
  unfold Builtin.«sorted»
  refine wpAny_bind (m := checkCount "sorted" 1 1 _) (wpAny_pure ?_)
  refine wpAny_bind (collect_new (A := X.A.in1) (PySem.W.kdl_dict (knd := mixKind X.prog X.w) (kvs := ps) (ep := ep) lo) (I.ok.hd hc) hat (by rw [← hl]; exact z) fun h' tk acc hgt hk hacc => ?_)
  have hal : acc.toList.length = ps.length := by rw [Array.length_toList]; exact hacc.1
  have hvals : Vals (ns.map V.int) acc.toList := by
    rw [← hns]
    refine vals_of_at (by rw [List.length_map, hal, hl]) fun j x w h1 h2 => ?_
    obtain ⟨k, y, hky, hi⟩ := hacc.2 j w (by rw [← Array.getElem?_toList]; exact h2)
    have e1 : (kvs.map (·.1))[j]? = some k := by
      rw [KV.keys rk, List.getElem?_map, hky] <;> rfl
    have e2 : (kvs.map fun kv => kV kv.1)[j]? = some (kV k) := by
      have e3 : (kvs.map fun kv => kV kv.1) = (kvs.map (·.1)).map kV := by rw [List.map_map] <;> rfl
      rw [e3, List.getElem?_map, e1] <;> rfl
    rw [e2] at h1
    cases h1
    exact keyIs_rel hi
  have hz : acc.toList.length ≤ sizeLine := by rw [hal, ← hl]; exact z
  refine wpAny_bind (wpAny_newList ?_ hz)
  have hoL : (h'.push (seqObj "list" acc.toList.toArray 0)).get? h'.objs.size = some (seqObj "list" acc.toList.toArray 0) := Heap.get?_push_size _ rfl
  have hi := hvals.ints
  refine wpAny_bind (wpAny_holding (wpAny_call_entry slot_list_sort ⟨_, hoL, rfl⟩ entry_list_sort (SrtO.list_sort_ord SrtO.swo_int hoL hz (fun h2 => SrtO.ints_sortable hi h2) fun out h1 h2 => ⟨_, rfl, ?_⟩) (args_list_sort _)))
  obtain ⟨k1, k2, k3⟩ := SrtO.ints_out hi h1 h2
  obtain ⟨c, hc2⟩ := sortedHeap_at (vs := acc.toList) (out := out.toArray) hoL
  have hle : s.heap.objs.size ≤ h'.objs.size := Nat.le_of_lt hgt
  refine wpAny_pure ⟨_, rfl, .ref h'.objs.size, upd H h'.objs.size (.lst ((out.map SrtO.iv).map V.int)), I.laid (t' := tk) (fun b u e => ?_) hle ⟨?_, out, c, vals_of_ints k1, hc2⟩, rfl, q _ _ k2 k3 (I.hok.fresh hle)⟩
  · have q := hk b u e
    have hlt := Heap.lt_size q
    show (sortedHeap (h'.push (seqObj "list" acc.toList.toArray 0)) h'.objs.size acc.toList out.toArray).get? b = some u
    rw [sortedHeap_old (Nat.ne_of_lt hlt) (by rw [size_push']; exact Nat.lt_succ_of_lt hlt)]
    exact Heap.get?_push_of_some _ q
  · rw [List.length_map, k2.length_eq]
    rw [hvals.length.symm.trans (by rw [List.length_map])] at hz
    exact hz
/-- dict(zip(xs, ys)) of two lists, the keys ints or texts -/
def tDictZip (K : PySem.W.Frag) (ta : TA) : TE := fun σ H Q => ta σ H fun vs H1 => ∃ (a b : Addr) (kvs : List (L2.Key × V)), vs = [.ref a, .ref b] ∧ SqL K H1 a (kvs.map fun kv => kV kv.1) ∧ SqL K H1 b (kvs.map (·.2)) ∧ ∀ p, H1 p = none → Q (.ref p) (upd H1 p (.dK (mergeK [] kvs)))
theorem zipKV {X : Cx} : ∀ {kvs : List (L2.Key × V)} {us ws : List Value}, Vals (kvs.map fun kv => kV kv.1) us → Vals (kvs.map (·.2)) ws → ∃ prs : List (L2.Key × Value), KV kvs prs ∧ prs.length = us.length ∧ us.length = ws.length ∧ ∀ (i : Nat) k v, us[i]? = some k → ws[i]? = some v → ∃ key, prs[i]? = some (key, v) ∧ (mixKind X.prog X.w).is key k = true
  | [], [], [], _, _ => ⟨[], .nil, rfl, rfl, fun i k v h _ => by simp at h⟩
  | kv :: kvs, _ :: _, _ :: _, .cons r1 t1, .cons r2 t2 => by
    obtain ⟨prs, h1, h2, h3, h4⟩ := zipKV (X := X) t1 t2
    refine ⟨(kv.1, _) :: prs, .cons ⟨rfl, r2⟩ h1, by rw [List.length_cons, List.length_cons, h2], by rw [List.length_cons, List.length_cons, h3], fun i k v hk hv => ?_⟩
    cases i with
    | zero =>
      cases hk
      cases hv
      exact ⟨kv.1, rfl, kV_is r1⟩
    | succ j => exact h4 j k v (by simpa using hk) (by simpa using hv)
variable {e e2 : Expr} {ta : TA} {p p2 pos pos2 : Pos}
theorem pe_dictZip (hc : X.calm = true) (hgd : Gl X "dict") (hmd : X.mg "dict" = none) (hgz : Gl X "zip") (hmz : X.mg "zip" = none) (ha : PA X [e, e2] ta)
    (hs : starEach [e, e2] X.env = (false, eval e X.env) :: starEach [e2] X.env := by rfl) (hpl : (backTo pos2 (starEach [e2] X.env)).any (·.1) = false := by rfl)
    (na : starEach [Expr.Call (.Name "zip" p2) [e, e2] [] pos2] X.env = (false, eval (.Call (.Name "zip" p2) [e, e2] [] pos2) X.env) :: starEach [] X.env := by rfl) :
    PE X (.Call (.Name "dict" p) [.Call (.Name "zip" p2) [e, e2] [] pos2] [] pos) (tDictZip X.K ta) := by
  refine ⟨fun pins s σ H Q I h => ?_⟩
  refine Call_ (ld_blt I hgd hmd PyProof.Rows.boot_dict (PyProof.Rows.callWith_type1 (args_cons ?_ na) na))
  refine Call_ (ld_blt I hgz hmz PyProof.Rows.boot_zip (PyProof.Rows.callWith_type1 (thn (ha.run pos2 pins s σ H _ I h) fun us s1 ⟨vs, H1, I1, r1, q1⟩ => ?_) hs hpl))
  obtain ⟨a, b, kvs, ex, hqx, hqy, q⟩ := q1
  subst ex
  cases r1 with
  | cons r rr =>
    cases rr with
    | cons r' rr =>
      cases rr
      cases r
      cases r'
      obtain ⟨its, rv, p1, hz1⟩ := I1.list hqx
      obtain ⟨its2, rv2, p2, hz2⟩ := I1.list hqy
      obtain ⟨prs, k1, k2, k3, k4⟩ := zipKV (X := X) rv rv2
      have hsz : min its.toArray.size its2.toArray.size = prs.length := by rw [List.size_toArray, List.size_toArray, k2, k3, Nat.min_self]
      have hz : prs.length ≤ sizeLine := by rw [k2, ← rv.length]; exact hz1
      refine call_zip_2 p1.isList p2.isList fun h' hz' hTI hTO h1 h2 hs5 hk => args_nil ?_
      have la : a < s1.heap.objs.size := p1.lt
      have lb : b < s1.heap.objs.size := p2.lt
      refine PySem.call_dict_pairs (knd := mixKind X.prog X.w) (kvs := prs) (PairArg.zip _ _ _ _ _ a b (PySem.W.ktu_apart s1.heap.objs.size a b la lb) its.toArray its2.toArray) (I1.ok.hd hc)
        ⟨hz', hTI, ⟨_, _, hTO⟩, h1, h2, p1.isList.at fun o e => hk _ _ e, p2.isList.at fun o e => hk _ _ e⟩ ⟨hsz.symm, fun i k v hi => k4 i k v (by simpa using hi.1) (by simpa using hi.2)⟩ (by rw [hsz]; exact hz) fun h'' tk hd hk2 => ?_
      have hlen : (mergeK [] kvs).length ≤ sizeLine := by
        refine Nat.le_trans (length_mergeK kvs []) ?_
        rw [List.length_nil, Nat.zero_add, k1.length]
        exact hz
      have hle : s1.heap.objs.size ≤ h'.objs.size := by omega
      have hm : (h'.objs.size == sysModules) = false := beq_eq_false_iff_ne.mpr (Nat.ne_of_gt (Nat.lt_of_lt_of_le I1.big hle))
      refine ⟨.ref h'.objs.size, upd H1 h'.objs.size (.dK (mergeK [] kvs)), I1.laid (t' := tk) (fun c o e => ?_) hle (show ObjOk X.prog X.w _ _ _ (.dK (mergeK [] kvs)) from ⟨hlen, hm, merged [] prs, KV.merge k1 .nil, hd⟩), rfl, q _ (I1.hok.fresh hle)⟩
      have hlt := Heap.lt_size e
      refine hk2 c o (fun hc => ?_) (hk _ _ e)
      simp only [List.mem_cons, List.not_mem_nil, or_false] at hc
      rcases hc with z | z | z | z <;> (rw [z] at hlt; exact absurd hlt (Nat.not_lt_of_le (by first | exact Nat.le_add_right _ _ | exact Nat.le_refl _)))
/-- x = {k: v for ..}: the name is stored while the block's frame stands -/
theorem sw_trueD {kx vx : Expr} {gs : List Comprehension} {scope : Scope} {pos py : Pos} {y : Str} {l : Nat} {env : Env} (hk : env.scope.kind = .function) (hy : env.scope.names.lookup y = some .local) (hl : (py.line == pos.line) = true)
    (ha : (scope.names.any fun (n, k) => n == y && (k == .local || k == .cell)) = false) : swapsWith (.DictComp kx vx gs scope pos) (some (.Name y py)) l env = pure true := by
  have ky : env.kindOf y = some .local := hy
  have hb : env.blockKind = .function := by unfold Env.blockKind; rw [hk]; rfl
  unfold swapsWith
  simp only [hb, ky, ha, Expr.pos, hl]
  rfl
theorem ps_setDc {i : Nat} {y : Str} {py : Pos} {kx vx tg iter : Expr} {ifs : List Expr} {scope : Scope} {own : List (Str × Nat)} {pos spos : Pos} {wi : TI} {g : TG} {tt : TT} {tk tv : TE} (hc : X.calm = true) (hN : X.N.Nodup) (hy : X.N[i]? = some y) (hyl : X.env.scope.names.lookup y = some .local)
    (hsw : swapsWith (.DictComp kx vx [⟨tg, iter, ifs, 0⟩] scope pos) (some (.Name y py)) spos.line X.env = pure true) (hi : PI X tg iter wi) (ok : BlkOk X.N X.env.scope scope own)
    (hg : ∀ (s : Shared) (H : Hp) (C : Addr) (cl : List (Str × Addr)) (fp : List Addr), PG (X.blk s H scope (compEnvC scope cl C X.env) fp) tg g) (ht : ∀ (s : Shared) (H : Hp) (C : Addr) (cl : List (Str × Addr)) (fp : List Addr), PTs (X.blk s H scope (compEnvC scope cl C X.env) fp) ifs tt)
    (hk : ∀ (s : Shared) (H : Hp) (C : Addr) (cl : List (Str × Addr)) (fp : List Addr), PE (X.blk s H scope (compEnvC scope cl C X.env) fp) kx tk)
    (he : ∀ (s : Shared) (H : Hp) (C : Addr) (cl : List (Str × Addr)) (fp : List Addr), PE (X.blk s H scope (compEnvC scope cl C X.env) fp) vx tv) (hs : ∀ x, foldedSetIterable iter X.env x = pure x := by intro _; rfl) :
    PS X (.Assign [.Name y py] (.DictComp kx vx [⟨tg, iter, ifs, 0⟩] scope pos) spos) (tAsg (tDc wi g tt tk tv (own.map (·.2))) (gName i)) := by
  refine ⟨fun pins s σ H D I h => ?_⟩
  rw [exec_Assign_Name_used _ _ _ _ hsw]
  refine wpAny_bind (wpAny_standAt (wpAny_bind ?_))
  show wpAny _ X.A (do let _ ← comprehension (.DictComp kx vx [⟨tg, iter, ifs, 0⟩] scope pos) scope X.env (firstIterPos [⟨tg, iter, ifs, 0⟩] pos) newDict false (eval iter X.env) (some (assign (.Name y py) X.env))) _ _ s
  have h : tDc wi g tt tk tv (own.map (·.2)) σ H (fun x H1 => gName i x σ H1 D.nx) := h
  refine wpAny_bind (thn (dc_core (Qf := fun _ s' => SP X pins D .next s') hc hN I hi ok hg ht hk he hs h fun L C s' m H' I' q hn f => ?_) fun _ s' hq => wpAny_pure (wpAny_pure hq))
  show wpAny _ _ (assign (.Name y py) X.env (.ref L)) _ _ _
  refine wpAny_assign_Name (store_ok2 (v := V.ref L) I' hN hy (.inl hyl) rfl (fun s2 I2 ⟨a, sb, ha⟩ => ?_) (.inr hyl))
  obtain ⟨f0, f1, f2, f3, f4, f5⟩ := f
  refine ⟨m, hn.sameBut sb (by
    rcases ha with z | z
    · rw [z]; exact f1
    · exact fun e => f4 y a z e.symm), fun h3 sb3 => ?_⟩
  exact ⟨_, H', I2.turned (t' := s2.toks) (fun b o hb e => (sb3.2 b hb).trans e) f0 f1 f3 f4 f5, q⟩
end
end LcD
set_option linter.all false
namespace LC
/-! ### rows of numbers, read against a place's number -/
abbrev Row := List Rat
def dot : Row → Nat → (Nat → Rat) → Rat
  | [], _, _ => 0
  | a :: r, k, x => a * x k + dot r (k + 1) x
def ent (rs : List Row) (i j : Nat) : Rat := ((rs[i]?).bind (·[j]?)).getD 0
theorem dot_zero {x : Nat → Rat} : ∀ {r : Row} {k : Nat}, (∀ j a, r[j]? = some a → a * x (k + j) = 0) → dot r k x = 0
  | [], _, _ => rfl
  | a :: r, k, h => by
    have h1 := h 0 a rfl
    have h2 := dot_zero (x := x) (r := r) (k := k + 1) fun j b e => by
      have := h (j + 1) b e
      rw [show k + 1 + j = k + (j + 1) by omega]; exact this
    simp only [dot, h2]
    rw [Nat.add_zero] at h1
    rw [h1, Rat.add_zero]
theorem dot_pick {x : Nat → Rat} : ∀ {r : Row} {k i : Nat} {a : Rat}, r[i]? = some a → (∀ j b, j ≠ i → r[j]? = some b → b * x (k + j) = 0) → dot r k x = a * x (k + i)
  | [], _, i, _, h, _ => by simp at h
  | b :: r, k, 0, a, h, hz => by
    have e : b = a := by simpa using h
    have h2 := dot_zero (x := x) (r := r) (k := k + 1) fun j c e => by
      have := hz (j + 1) c (by omega) e
      rw [show k + 1 + j = k + (j + 1) by omega]; exact this
    simp only [dot, h2, e, Nat.add_zero, Rat.add_zero]
  | b :: r, k, i + 1, a, h, hz => by
    have h1 := hz 0 b (by omega) rfl
    have h2 := dot_pick (x := x) (r := r) (k := k + 1) (i := i) (a := a) (by simpa using h) fun j c hj e => by
      have := hz (j + 1) c (by omega) e
      rw [show k + 1 + j = k + (j + 1) by omega]; exact this
    simp only [dot, h2]
    rw [Nat.add_zero] at h1
    rw [h1, show k + 1 + i = k + (i + 1) by omega, Rat.zero_add]
theorem dot_add (x y : Nat → Rat) : ∀ (r : Row) (k : Nat), dot r k (fun j => x j + y j) = dot r k x + dot r k y
  | [], _ => by simp only [dot]; grind
  | a :: r, k => by simp only [dot, dot_add x y r (k + 1)]; grind
theorem dot_div (x : Nat → Rat) (p : Rat) : ∀ (r : Row) (k : Nat), dot (r.map (· / p)) k x = dot r k x / p
  | [], _ => by simp only [List.map_nil, dot]; rw [Rat.div_def, Rat.zero_mul]
  | a :: r, k => by simp only [List.map_cons, dot, dot_div x p r (k + 1)]; rw [Rat.div_def, Rat.div_def, Rat.div_def]; grind
theorem dot_clear (x : Nat → Rat) (c : Rat) : ∀ (r o : Row) (k : Nat), r.length = o.length → dot (List.zipWith (fun e d => e - d * c) r o) k x = dot r k x - dot o k x * c
  | [], [], _, _ => by simp only [List.zipWith_nil_left, dot]; grind
  | [], _ :: _, _, h => by simp at h
  | _ :: _, [], _, h => by simp at h
  | a :: r, b :: o, k, h => by simp only [List.zipWith_cons_cons, dot, dot_clear x c r o (k + 1) (by simpa using h)]; grind
/-! ### one step -/
def upTo (rs : List Row) (k s : Nat) : List Row := rs.take k ++ (rs[s]?).toList ++ (rs.take s).drop k ++ rs.drop (s + 1)
def normed (rs : List Row) (k : Nat) : List Row := rs.set k (((rs[k]?).getD []).map (· / ent rs k k))
def clear1 (rs : List Row) (k i : Nat) (r : Row) : Row := if i = k ∨ (r[k]?).getD 0 = 0 then r else List.zipWith (fun e d => e - d * (r[k]?).getD 0) r ((rs[k]?).getD [])
def cleared (rs : List Row) (k : Nat) : List Row := rs.mapIdx (clear1 rs k)
def elim1 (rs : List Row) (k s : Nat) : List Row := cleared (normed (upTo rs k s) k) k
/-- N rows of N + 1 numbers -/
def Shape (N : Nat) (rs : List Row) : Prop := rs.length = N ∧ ∀ r ∈ rs, r.length = N + 1
def Sol (rs : List Row) (x : Nat → Rat) : Prop := ∀ r ∈ rs, dot r 0 x = 0
/-- the first k places are cleared -/
def Unit (k : Nat) (rs : List Row) : Prop := ∀ i j, i < rs.length → j < k → ent rs i j = if i = j then 1 else 0
theorem upTo_perm {rs : List Row} {k s : Nat} (hk : k ≤ s) (hs : s < rs.length) : (upTo rs k s).Perm rs := by
  have e1 : rs = rs.take k ++ ((rs.take s).drop k ++ (rs[s] :: rs.drop (s + 1))) := by
    have e2 : rs = rs.take s ++ (rs[s] :: rs.drop (s + 1)) := by
      conv => lhs; rw [← List.take_append_drop s rs]
      rw [List.drop_eq_getElem_cons hs]
    have e3 : rs.take s = rs.take k ++ (rs.take s).drop k := by
      conv => lhs; rw [← List.take_append_drop k (rs.take s)]
      rw [List.take_take, Nat.min_eq_left hk]
    conv => lhs; rw [e2, e3]
    rw [List.append_assoc]
  unfold upTo
  rw [List.getElem?_eq_getElem hs]
  conv => rhs; rw [e1]
  rw [Option.toList_some, List.append_assoc, List.append_assoc]
  refine List.Perm.append_left _ ?_
  rw [List.singleton_append]
  exact List.perm_middle.symm
theorem upTo_get {rs : List Row} {k s : Nat} (hk : k ≤ s) (hs : s < rs.length) :
    (∀ i, i < k → (upTo rs k s)[i]? = rs[i]?) ∧ (upTo rs k s)[k]? = rs[s]? := by
  have lk : (rs.take k).length = k := by rw [List.length_take]; omega
  unfold upTo
  rw [List.getElem?_eq_getElem hs, Option.toList_some]
  constructor
  · intro i hi
    rw [List.append_assoc, List.append_assoc, List.getElem?_append_left (by omega), List.getElem?_take_of_lt hi]
  · rw [List.append_assoc, List.append_assoc, List.getElem?_append_right (by omega), lk, Nat.sub_self]
    rfl
theorem shape_upTo {N : Nat} {rs : List Row} {k s : Nat} (h : Shape N rs) (hk : k ≤ s) (hs : s < N) : Shape N (upTo rs k s) := by
  obtain ⟨h1, h2⟩ := h
  have p := upTo_perm hk (by omega : s < rs.length)
  exact ⟨p.length_eq.trans h1, fun r hr => h2 r (p.mem_iff.mp hr)⟩
theorem shape_normed {N : Nat} {rs : List Row} {k : Nat} (h : Shape N rs) (hk : k < N) : Shape N (normed rs k) := by
  obtain ⟨h1, h2⟩ := h
  refine ⟨by unfold normed; rw [List.length_set, h1], fun r hr => ?_⟩
  rcases List.mem_or_eq_of_mem_set hr with z | z
  · exact h2 r z
  · have hk2 : k < rs.length := by omega
    rw [List.getElem?_eq_getElem hk2] at z
    rw [z]
    simp [h2 _ (List.getElem_mem hk2)]
theorem shape_cleared {N : Nat} {rs : List Row} {k : Nat} (h : Shape N rs) (hk : k < N) : Shape N (cleared rs k) := by
  obtain ⟨h1, h2⟩ := h
  refine ⟨by unfold cleared; rw [List.length_mapIdx, h1], fun r hr => ?_⟩
  obtain ⟨i, hi, e⟩ := List.mem_mapIdx.mp hr
  have hr1 := h2 _ (List.getElem_mem hi)
  have hk2 : k < rs.length := by omega
  rw [← e]
  unfold clear1
  split
  · exact hr1
  · rw [List.getElem?_eq_getElem hk2]
    simp [hr1, h2 _ (List.getElem_mem hk2)]
theorem sol_cleared {N : Nat} {rs : List Row} {k : Nat} {x : Nat → Rat} (h : Shape N rs) (hk : k < N) (S : Sol (cleared rs k) x) : Sol rs x := by
  obtain ⟨h1, h2⟩ := h
  have hk2 : k < rs.length := by omega
  have one : dot rs[k] 0 x = 0 := S _ (by
    refine List.mem_mapIdx.mpr ⟨k, hk2, ?_⟩
    unfold clear1
    rw [if_pos (.inl rfl)])
  intro r hr
  obtain ⟨i, hi, rfl⟩ := List.getElem_of_mem hr
  have z := S (clear1 rs k i rs[i]) (List.mem_mapIdx.mpr ⟨i, hi, rfl⟩)
  unfold clear1 at z
  split at z
  · exact z
  · rw [List.getElem?_eq_getElem hk2] at z
    simp only [Option.getD_some] at z
    rw [dot_clear x _ _ _ 0 (by rw [h2 _ (List.getElem_mem hi), h2 _ (List.getElem_mem hk2)]), one] at z
    grind
theorem sol_normed {N : Nat} {rs : List Row} {k : Nat} {x : Nat → Rat} (h : Shape N rs) (hk : k < N) (hp : ent rs k k ≠ 0) (S : Sol (normed rs k) x) : Sol rs x := by
  obtain ⟨h1, h2⟩ := h
  have hk2 : k < rs.length := by omega
  intro r hr
  obtain ⟨i, hi, rfl⟩ := List.getElem_of_mem hr
  by_cases e : i = k
  · subst e
    have z := S ((rs[i]).map (· / ent rs i i)) (by
      unfold normed
      rw [List.getElem?_eq_getElem hi]
      exact List.mem_set hi _)
    rw [dot_div] at z
    have : dot rs[i] 0 x / ent rs i i * ent rs i i = dot rs[i] 0 x := Rat.div_mul_cancel hp
    rw [z, Rat.zero_mul] at this
    exact this.symm
  · exact S _ (by
      unfold normed
      refine List.mem_iff_getElem?.mpr ⟨i, ?_⟩
      rw [List.getElem?_set_ne (Ne.symm e), List.getElem?_eq_getElem hi])
theorem sol_elim {N : Nat} {rs : List Row} {k s : Nat} {x : Nat → Rat} (h : Shape N rs) (hk : k ≤ s) (hs : s < N) (hp : ent rs s k ≠ 0) (S : Sol (elim1 rs k s) x) : Sol rs x := by
  have p := upTo_perm hk (by rw [h.1]; exact hs : s < rs.length)
  have g := (upTo_get hk (by rw [h.1]; exact hs : s < rs.length)).2
  have s1 := shape_upTo h hk hs
  have hkN : k < N := by omega
  have s2 := sol_normed s1 hkN (by unfold ent; rw [g]; exact hp) (sol_cleared (shape_normed s1 hkN) hkN S)
  exact fun r hr => s2 r (p.mem_iff.mpr hr)
theorem shape_elim {N : Nat} {rs : List Row} {k s : Nat} (h : Shape N rs) (hk : k ≤ s) (hs : s < N) : Shape N (elim1 rs k s) :=
  shape_cleared (shape_normed (shape_upTo h hk hs) (by omega)) (by omega)
/-! ### entries -/
theorem ent_eq {rs : List Row} {i j : Nat} {r : Row} (h : rs[i]? = some r) : ent rs i j = (r[j]?).getD 0 := by unfold ent; rw [h]; rfl
theorem upTo_back {rs : List Row} {k s i : Nat} (hk : k ≤ s) (hs : s < rs.length) (hi : k ≤ i) (hi2 : i < rs.length) : ∃ i', k ≤ i' ∧ i' < rs.length ∧ (upTo rs k s)[i]? = rs[i']? := by
  have lk : (rs.take k).length = k := by rw [List.length_take]; omega
  unfold upTo
  rw [List.getElem?_eq_getElem hs, Option.toList_some, List.append_assoc, List.append_assoc, List.getElem?_append_right (by omega), lk]
  cases e : i - k with
  | zero => exact ⟨s, hk, hs, by rw [List.getElem?_eq_getElem hs]; rfl⟩
  | succ m =>
    have lm : ((rs.take s).drop k).length = s - k := by rw [List.length_drop, List.length_take]; omega
    rw [List.singleton_append, List.getElem?_cons_succ]
    by_cases hm : m < s - k
    · refine ⟨k + m, by omega, by omega, ?_⟩
      rw [List.getElem?_append_left (by omega), List.getElem?_drop, List.getElem?_take_of_lt (by omega)]
    · refine ⟨s + 1 + (m - (s - k)), by omega, by omega, ?_⟩
      rw [List.getElem?_append_right (by omega), lm, List.getElem?_drop]
theorem unit_upTo {N : Nat} {rs : List Row} {k s : Nat} (h : Shape N rs) (hk : k ≤ s) (hs : s < N) (U : Unit k rs) : Unit k (upTo rs k s) := by
  have hs2 : s < rs.length := by rw [h.1]; exact hs
  have l := (shape_upTo h hk hs).1
  intro i j hi hj
  by_cases c : i < k
  · have e := (upTo_get hk hs2).1 i c
    have z := U i j (by rw [h.1]; omega) hj
    unfold ent at z ⊢
    rw [e]; exact z
  · obtain ⟨i', h1, h2, e⟩ := upTo_back hk hs2 (by omega : k ≤ i) (by rw [h.1]; omega)
    have z := U i' j h2 hj
    unfold ent at z ⊢
    rw [e, z, if_neg (by omega), if_neg (by omega)]
theorem normed_at {N : Nat} {rs : List Row} {k : Nat} (h : Shape N rs) (hk : k < N) : (∀ i, i ≠ k → (normed rs k)[i]? = rs[i]?) ∧ ∀ j, j < N + 1 → ent (normed rs k) k j = ent rs k j / ent rs k k := by
  have hk2 : k < rs.length := by rw [h.1]; exact hk
  constructor
  · intro i hi
    unfold normed
    rw [List.getElem?_set_ne (Ne.symm hi)]
  · intro j hj
    have e1 : (normed rs k)[k]? = some (rs[k].map (· / ent rs k k)) := by
      unfold normed
      rw [List.getElem?_set_self hk2, List.getElem?_eq_getElem hk2]
      rfl
    have hj2 : j < rs[k].length := by rw [h.2 _ (List.getElem_mem hk2)]; exact hj
    rw [ent_eq e1, ent_eq (List.getElem?_eq_getElem hk2) (j := j), List.getElem?_map, List.getElem?_eq_getElem hj2]
    rfl
theorem cleared_at {N : Nat} {rs : List Row} {k i j : Nat} (h : Shape N rs) (hk : k < N) (hi : i < N) (hj : j < N + 1) : ent (cleared rs k) i j = if i = k ∨ ent rs i k = 0 then ent rs i j else ent rs i j - ent rs k j * ent rs i k := by
  have hk2 : k < rs.length := by rw [h.1]; exact hk
  have hi2 : i < rs.length := by rw [h.1]; exact hi
  have e1 : (cleared rs k)[i]? = some (clear1 rs k i rs[i]) := by
    unfold cleared
    rw [List.getElem?_mapIdx, List.getElem?_eq_getElem hi2]
    rfl
  have ek : ∀ j, ent rs i j = (rs[i][j]?).getD 0 := fun j => ent_eq (List.getElem?_eq_getElem hi2)
  rw [ent_eq e1]
  unfold clear1
  rw [← ek k]
  split
  · exact (ek j).symm
  · have l1 : j < rs[i].length := by rw [h.2 _ (List.getElem_mem hi2)]; exact hj
    have l2 : j < rs[k].length := by rw [h.2 _ (List.getElem_mem hk2)]; exact hj
    have e2 : ent rs k j = rs[k][j] := by rw [ent_eq (List.getElem?_eq_getElem hk2), List.getElem?_eq_getElem l2]; rfl
    have e3 : ent rs i j = rs[i][j] := by rw [ek j, List.getElem?_eq_getElem l1]; rfl
    rw [e2, e3, List.getElem?_eq_getElem hk2]
    simp [List.getElem?_zipWith, l1, l2]
theorem unit_elim {N : Nat} {rs : List Row} {k s : Nat} (h : Shape N rs) (hk : k ≤ s) (hs : s < N) (hp : ent rs s k ≠ 0) (U : Unit k rs) : Unit (k + 1) (elim1 rs k s) := by
  have hs2 : s < rs.length := by rw [h.1]; exact hs
  have hkN : k < N := by omega
  have s1 := shape_upTo h hk hs
  have U1 := unit_upTo h hk hs U
  have p1 : ent (upTo rs k s) k k ≠ 0 := by
    unfold ent
    rw [(upTo_get hk hs2).2]
    exact hp
  unfold elim1
  generalize upTo rs k s = r1 at s1 U1 p1 ⊢
  obtain ⟨n1, n2⟩ := normed_at s1 hkN
  have s2 := shape_normed s1 hkN
  have kk : ent (normed r1 k) k k = 1 := by
    rw [n2 k (by omega), Rat.div_def]
    exact Rat.mul_inv_cancel _ p1
  have U2 : Unit k (normed r1 k) := by
    intro i j hi hj
    by_cases c : i = k
    · subst c
      rw [n2 j (by omega), U1 i j (by rw [s1.1]; exact hkN) hj, if_neg (by omega), Rat.div_def, Rat.zero_mul]
    · have z := U1 i j (by rw [s1.1]; rw [s2.1] at hi; exact hi) hj
      unfold ent at z ⊢
      rw [n1 i c]; exact z
  generalize normed r1 k = r2 at s2 kk U2 ⊢
  have s3 := shape_cleared s2 hkN
  intro i j hi hj
  rw [s3.1] at hi
  rw [cleared_at s2 hkN hi (by omega)]
  have l2 : i < r2.length := by rw [s2.1]; exact hi
  have lk : k < r2.length := by rw [s2.1]; exact hkN
  by_cases c : j = k
  · subst c
    split
    · rename_i q
      rcases q with q | q
      · subst q; rw [kk, if_pos rfl]
      · rw [q]
        split
        · rename_i q2; subst q2; rw [kk] at q; exact absurd q (by decide)
        · rfl
    · rename_i q
      rw [kk, if_neg (fun z => q (.inl z))]
      grind
  · have hj2 : j < k := by omega
    have e1 := U2 i j l2 hj2
    have e2 := U2 k j lk hj2
    rw [if_neg (by omega)] at e2
    split
    · exact e1
    · rw [e1, e2]; grind
/-! ### where nothing but zeros falls to zero, a step finds its place -/
def Triv (N : Nat) (rs : List Row) : Prop := ∀ x : Nat → Rat, x N = 0 → Sol rs x → ∀ j, j < N → x j = 0
theorem triv_elim {N : Nat} {rs : List Row} {k s : Nat} (h : Shape N rs) (hk : k ≤ s) (hs : s < N) (hp : ent rs s k ≠ 0) (T : Triv N rs) : Triv N (elim1 rs k s) :=
  fun x hx S => T x hx (sol_elim h hk hs hp S)
theorem piv_ex {N : Nat} {rs : List Row} {k : Nat} (h : Shape N rs) (hk : k < N) (U : Unit k rs) (T : Triv N rs) : ∃ s, k ≤ s ∧ s < N ∧ ent rs s k ≠ 0 := by
  apply Classical.byContradiction
  intro hc
  have z : ∀ i, k ≤ i → i < N → ent rs i k = 0 := fun i h1 h2 => Classical.byContradiction fun q => hc ⟨i, h1, h2, q⟩
  have := T (fun j => (if j < k then - ent rs j k else 0) + (if j = k then 1 else 0)) (by rw [if_neg (by omega), if_neg (by omega)]; grind) (fun r hr => by
    obtain ⟨i, hi, rfl⟩ := List.getElem_of_mem hr
    have hiN : i < N := by rw [← h.1]; exact hi
    have eq : ∀ j a, rs[i][j]? = some a → a = ent rs i j := fun j a e => by rw [ent_eq (List.getElem?_eq_getElem hi), e]; rfl
    have len := h.2 _ (List.getElem_mem hi)
    have hkl : k < rs[i].length := by omega
    rw [dot_add]
    have d2 : dot rs[i] 0 (fun j => if j = k then 1 else 0) = ent rs i k := by
      rw [dot_pick (i := k) (a := ent rs i k) (by rw [List.getElem?_eq_getElem hkl, ← eq k _ (List.getElem?_eq_getElem hkl)]) fun j b hj e => by
        rw [Nat.zero_add, if_neg hj, Rat.mul_zero]]
      rw [Nat.zero_add, if_pos rfl, Rat.mul_one]
    rw [d2]
    by_cases c : i < k
    · have hil : i < rs[i].length := by omega
      have u1 := U i i hi c
      rw [if_pos rfl] at u1
      rw [dot_pick (i := i) (a := 1) (by rw [List.getElem?_eq_getElem hil, eq i _ (List.getElem?_eq_getElem hil), u1]) fun j b hj e => by
        rw [Nat.zero_add]
        by_cases hj2 : j < k
        · rw [eq j b e, U i j hi hj2, if_neg (Ne.symm hj), Rat.zero_mul]
        · rw [if_neg hj2, Rat.mul_zero]]
      rw [Nat.zero_add, if_pos c]
      grind
    · rw [dot_zero fun j b e => by
        rw [Nat.zero_add]
        by_cases hj2 : j < k
        · rw [eq j b e, U i j hi hj2, if_neg (by omega), Rat.zero_mul]
        · rw [if_neg hj2, Rat.mul_zero]]
      rw [z i (by omega) hiN, Rat.add_zero]) k hk
  rw [if_neg (by omega), if_pos rfl] at this
  grind
/-- what the rows tell at the end -/
def told (N : Nat) (rs : List Row) : Nat → Rat := fun j => (if j < N then ent rs j N else 0) + (if j = N then -1 else 0)
theorem sol_told {N : Nat} {rs : List Row} (h : Shape N rs) (U : Unit N rs) : Sol rs (told N rs) := by
  intro r hr
  obtain ⟨i, hi, rfl⟩ := List.getElem_of_mem hr
  have hiN : i < N := by rw [← h.1]; exact hi
  have eq : ∀ j a, rs[i][j]? = some a → a = ent rs i j := fun j a e => by rw [ent_eq (List.getElem?_eq_getElem hi), e]; rfl
  have len := h.2 _ (List.getElem_mem hi)
  have hNl : N < rs[i].length := by omega
  have hil : i < rs[i].length := by omega
  unfold told
  rw [dot_add]
  have d2 : dot rs[i] 0 (fun j => if j = N then -1 else 0) = - ent rs i N := by
    rw [dot_pick (i := N) (a := ent rs i N) (by rw [List.getElem?_eq_getElem hNl, ← eq N _ (List.getElem?_eq_getElem hNl)]) fun j b hj e => by
      rw [Nat.zero_add, if_neg hj, Rat.mul_zero]]
    rw [Nat.zero_add, if_pos rfl]
    grind
  have u1 := U i i hi hiN
  rw [if_pos rfl] at u1
  rw [d2, dot_pick (i := i) (a := 1) (by rw [List.getElem?_eq_getElem hil, eq i _ (List.getElem?_eq_getElem hil), u1]) fun j b hj e => by
    rw [Nat.zero_add]
    by_cases hj2 : j < N
    · rw [eq j b e, U i j hi hj2, if_neg (Ne.symm hj), Rat.zero_mul]
    · rw [if_neg hj2, Rat.mul_zero]]
  rw [Nat.zero_add, if_pos hiN]
  grind
/-! ### how long the numbers grow -/
def SzR (t b : Nat) (rs : List Row) : Prop := ∀ r ∈ rs, ∀ a ∈ r, Sz t b a
theorem szr_upTo {rs : List Row} {k s t b : Nat} (hk : k ≤ s) (hs : s < rs.length) (h : SzR t b rs) : SzR t b (upTo rs k s) :=
  fun r hr => h r ((upTo_perm hk hs).mem_iff.mp hr)
theorem sz_zero (t b : Nat) : Sz t b 0 := ⟨Nat.zero_le _, Nat.one_le_two_pow⟩
theorem szr_ent {rs : List Row} {t b : Nat} (h : SzR t b rs) (i j : Nat) : Sz t b (ent rs i j) := by
  unfold ent
  cases e : rs[i]? with
  | none => exact sz_zero t b
  | some r =>
    cases e2 : r[j]? with
    | none => simp only [Option.bind_some, e2]; exact sz_zero t b
    | some a => simp only [Option.bind_some, e2]; exact h r (List.mem_of_getElem? e) a (List.mem_of_getElem? e2)
theorem szr_normed {N : Nat} {rs : List Row} {k t b : Nat} (hp : ent rs k k ≠ 0) (h : SzR t b rs) : SzR (t + b) (t + b) (normed rs k) := by
  intro r hr
  unfold normed at hr
  rcases List.mem_or_eq_of_mem_set hr with z | z
  · exact fun a ha => (h r z a ha).mono (by omega) (by omega)
  · rw [z]
    intro a ha
    obtain ⟨c, hc, rfl⟩ := List.mem_map.mp ha
    have hc2 : Sz t b c := by
      cases e : rs[k]? with
      | none => rw [e] at hc; simp at hc
      | some r0 => rw [e] at hc; exact h r0 (List.mem_of_getElem? e) c hc
    have := hc2.div (szr_ent h k k) hp
    rw [Nat.add_comm b t] at this
    exact this
theorem mem_zipWith {α β γ : Type} {f : α → β → γ} : ∀ {l : List α} {m : List β} {c : γ}, c ∈ List.zipWith f l m → ∃ a ∈ l, ∃ b ∈ m, c = f a b
  | [], _, _, h => by simp at h
  | _ :: _, [], _, h => by simp at h
  | a :: l, b :: m, c, h => by
    rw [List.zipWith_cons_cons, List.mem_cons] at h
    rcases h with h | h
    · exact ⟨a, List.mem_cons_self, b, List.mem_cons_self, h⟩
    · obtain ⟨x, hx, y, hy, e⟩ := mem_zipWith h
      exact ⟨x, List.mem_cons_of_mem _ hx, y, List.mem_cons_of_mem _ hy, e⟩
/-- the rows of a step: the one at k has been divided -/
structure SzM (t b : Nat) (rs : List Row) (k : Nat) : Prop where
  row : ∀ r, rs[k]? = some r → ∀ a ∈ r, Sz (t + b) (t + b) a
  rest : ∀ i r, i ≠ k → rs[i]? = some r → ∀ a ∈ r, Sz t b a
theorem szm_normed {N : Nat} {rs : List Row} {k t b : Nat} (s : Shape N rs) (hk : k < N) (hp : ent rs k k ≠ 0) (h : SzR t b rs) : SzM t b (normed rs k) k :=
  ⟨fun r hr => szr_normed (N := N) hp h r (List.mem_of_getElem? hr), fun i r hi hr => h r (List.mem_of_getElem? (by rw [(normed_at s hk).1 i hi] at hr; exact hr))⟩
theorem szm_ent {rs : List Row} {t b k i : Nat} (h : SzM t b rs k) (hi : i ≠ k) (j : Nat) : Sz t b (ent rs i j) := by
  unfold ent
  cases e : rs[i]? with
  | none => exact sz_zero t b
  | some r =>
    cases e2 : r[j]? with
    | none => simp only [Option.bind_some, e2]; exact sz_zero t b
    | some a => simp only [Option.bind_some, e2]; exact h.rest i r hi e a (List.mem_of_getElem? e2)
theorem szr_cleared {rs : List Row} {k t b : Nat} (h : SzM t b rs k) : SzR (2 * t + 2 * b + 1) (t + 3 * b) (cleared rs k) := by
  intro r hr
  obtain ⟨i, hi, e⟩ := List.mem_mapIdx.mp hr
  unfold clear1 at e
  have own := List.getElem?_eq_getElem hi
  split at e
  · rename_i q
    subst e
    by_cases c : i = k
    · subst c
      exact fun a ha => (h.row _ own a ha).mono (by omega) (by omega)
    · exact fun a ha => (h.rest i _ c own a ha).mono (by omega) (by omega)
  · rename_i q
    subst e
    have c : i ≠ k := fun z => q (.inl z)
    intro a ha
    obtain ⟨x, hx, y, hy, rfl⟩ := mem_zipWith ha
    have h1 := h.rest i _ c own x hx
    have h2 : Sz (t + b) (t + b) y := by
      cases e : rs[k]? with
      | none => rw [e] at hy; simp at hy
      | some r0 => rw [e] at hy; exact h.row r0 e y hy
    have h3 : Sz t b ((rs[i][k]?).getD 0) := by
      have := szm_ent h c k
      rw [ent_eq own] at this
      exact this
    exact (h1.sub (h2.mul h3)).mono (by omega) (by omega)
theorem szr_elim {N : Nat} {rs : List Row} {k s t b : Nat} (h : Shape N rs) (hk : k ≤ s) (hs : s < N) (hp : ent rs s k ≠ 0) (z : SzR t b rs) : SzR (2 * t + 2 * b + 1) (t + 3 * b) (elim1 rs k s) := by
  have hs2 : s < rs.length := by rw [h.1]; exact hs
  have p1 : ent (upTo rs k s) k k ≠ 0 := by
    unfold ent
    rw [(upTo_get hk hs2).2]
    exact hp
  exact szr_cleared (szm_normed (shape_upTo h hk hs) (by omega) p1 (szr_upTo hk hs2 z))
end LC
set_option Elab.async false
set_option linter.all false
set_option maxRecDepth 100000
set_option maxHeartbeats 4000000
namespace Lc
open PySem PySem.Spec PyProof.Rows L2 LcR
open LC (Sz Shape SzR ent upTo normed cleared elim1 clear1)
def RowsV (K : PySem.W.Frag) (H : Hp) (v : V) (rs : List LC.Row) : Prop := ∃ a us, v = .ref a ∧ H a = some (.lst us) ∧ All2 (NumsL K H) us rs
theorem RowsV.s {K : PySem.W.Frag} {H H' : Hp} {v : V} {rs : List LC.Row} (h : RowsV K H v rs) (s : Same H H') : RowsV K H' v rs := by
  obtain ⟨a, us, rfl, e, al⟩ := h
  exact ⟨a, us, rfl, s _ _ e, al.imp fun x y z => z.s s⟩
theorem none_back {H H' : Hp} {a : Addr} (s : Same H H') (h : H' a = none) : H a = none := by
  cases e : H a with
  | none => rfl
  | some o => rw [s _ _ e] at h; cases h
theorem ix_nat {n k : Nat} (h : k < n) : ixN n (k : Int) = some k := by
  unfold ixN
  rw [if_pos (by omega), if_pos (by omega), Int.toNat_natCast]
theorem same_at {H H' : Hp} {L : Addr} {o : HO} (s : Same H H') (h : H L = none) : Same H (upd H' L o) := fun b u e => by
  rw [upd_ne (ne_of_none e h)]
  exact s _ _ e
theorem all2_of {α : Type} {R : V → α → Prop} {ys : List V} {q : List α} (h1 : ys.length = q.length) (h2 : ∀ (i : Nat) y, ys[i]? = some y → ∃ g, q[i]? = some g ∧ R y g) : All2 R ys q :=
  ⟨h1, fun i x y hx hy => by
    obtain ⟨g, hg, r⟩ := h2 i x hx
    rw [hg] at hy
    cases hy
    exact r⟩
theorem NumsL.ne {K : PySem.W.Frag} {H : Hp} {v : V} {q : List Rat} {F : Addr} (h : NumsL K H v q) (hF : H F = none) : v ≠ .ref F := by
  rintro rfl
  obtain ⟨a, us, e, ea, _⟩ := h
  cases e
  rw [hF] at ea
  cases ea
/-- a list of numbers stays while another list turns -/
theorem NumsL.upd_ {K : PySem.W.Frag} {H : Hp} {v : V} {q : List Rat} {F : Addr} {fs gs : List V} (h : NumsL K H v q) (ne : v ≠ .ref F) (hF : H F = some (.lst fs)) : NumsL K (upd H F (.lst gs)) v q := by
  obtain ⟨a, us, rfl, ea, al⟩ := h
  refine ⟨a, us, rfl, by rw [upd_ne (fun z => ne (by rw [z]))]; exact ea, al.imp fun x y z => z.n (sameN_upd hF (fun z => z))⟩
theorem all2_take {α β : Type} {R : α → β → Prop} {xs : List α} {ys : List β} (h : All2 R xs ys) (k : Nat) : All2 R (xs.take k) (ys.take k) := by
  refine ⟨by rw [List.length_take, List.length_take, h.1], fun i x y hx hy => ?_⟩
  have hi : i < k := by
    have := (List.getElem?_eq_some_iff.mp hx).1
    rw [List.length_take] at this
    omega
  rw [List.getElem?_take_of_lt hi] at hx hy
  exact h.2 i x y hx hy
theorem all2_drop {α β : Type} {R : α → β → Prop} {xs : List α} {ys : List β} (h : All2 R xs ys) (k : Nat) : All2 R (xs.drop k) (ys.drop k) := by
  refine ⟨by rw [List.length_drop, List.length_drop, h.1], fun i x y hx hy => ?_⟩
  rw [List.getElem?_drop] at hx hy
  exact h.2 _ x y hx hy
theorem all2_one {α β : Type} {R : α → β → Prop} {x : α} {y : β} (h : R x y) : All2 R [x] [y] := by
  have := All2.snoc (R := R) All2.nil h
  exact this
theorem all2_set {α β : Type} {R : α → β → Prop} {xs : List α} {ys : List β} {x : α} {y : β} (h : All2 R xs ys) (k : Nat) (r : R x y) : All2 R (xs.set k x) (ys.set k y) := by
  refine ⟨by rw [List.length_set, List.length_set, h.1], fun i a b ha hb => ?_⟩
  by_cases e : i = k
  · subst e
    have hi : i < xs.length := by
      have := (List.getElem?_eq_some_iff.mp ha).1
      rwa [List.length_set] at this
    rw [List.getElem?_set_self hi] at ha
    rw [List.getElem?_set_self (by rw [← h.1]; exact hi)] at hb
    cases ha
    cases hb
    exact r
  · rw [List.getElem?_set_ne (Ne.symm e)] at ha hb
    exact h.2 i a b ha hb
theorem cut_lo (xs : List V) (k : Nat) (hk : k ≤ xs.length) : cutV xs none (some (k : Int)) = xs.take k := by
  unfold cutV
  rw [HT.sIx_nat, HT.sIx_none, List.drop_zero, Nat.min_eq_left hk, Nat.sub_zero]
theorem cut_mid (xs : List V) (k s : Nat) (hk : k ≤ s) (hs : s ≤ xs.length) : cutV xs (some (k : Int)) (some (s : Int)) = (xs.take s).drop k := by
  unfold cutV
  rw [HT.sIx_nat, HT.sIx_nat, Nat.min_eq_left hs, Nat.min_eq_left (by omega), List.drop_take]
theorem cut_hi (xs : List V) (k : Nat) (hk : k ≤ xs.length) : cutV xs (some (k : Int)) none = xs.drop k := by
  unfold cutV
  rw [HT.sIx_nat, HT.sIx_none, Nat.min_eq_left hk, List.take_of_length_le (by rw [List.length_drop]; omega)]
theorem kept_map {keep : Nat → Bool} {n : Nat} {ys : List V} {H : Hp} {f : Nat → V} (h : Kept keep (fun j y _ => y = f j) n ys H) : ys = ((List.range n).filter keep).map f := by
  obtain ⟨h1, h2⟩ := h
  apply List.ext_getElem?
  intro i
  rw [List.getElem?_map]
  by_cases hi : i < ys.length
  · rw [List.getElem?_eq_getElem hi, List.getElem?_eq_getElem (by omega : i < ((List.range n).filter keep).length)]
    exact congrArg some (h2 i _ _ (List.getElem?_eq_getElem (by omega)) (List.getElem?_eq_getElem hi))
  · rw [List.getElem?_eq_none (by omega), List.getElem?_eq_none (by omega)]
    rfl
section
variable {P : Program} {w : World} {K : PySem.W.Frag} {mg : Str → Option Value} {base : Heap}
def sp_eliminated (K : PySem.W.Frag) : Sp := fun vs H Q _ => ∃ (v : V) (k N t b : Nat) (rs : List LC.Row), vs = [v, .int (k : Int)] ∧ RowsV K H v rs ∧ Shape N rs ∧ N ≤ 10 ∧ k < N ∧ (∃ s, k ≤ s ∧ s < N ∧ ent rs s k ≠ 0) ∧ SzR t b rs ∧ t + 3 * b < 8999 ∧ 4 * (t + b) ≤ 40000 ∧ t + b < 8999 ∧
  ∀ s H' v', k ≤ s → s < N → ent rs s k ≠ 0 → Same H H' → RowsV K H' v' (elim1 rs k s) → Q v' H'
theorem c_eliminated (T : Tx K mg) : C8.Cal P w K mg base 5 "eliminated" (sp_eliminated K) [] := by
  obtain ⟨fd, F⟩ := T.f_eliminated
  refine calD F T.g_eliminated sc_eliminated (fun _ _ _ _ _ _ us hl => match us, hl with | [_, _], _ => rfl) (fun vs H Q E h => ?_) (fun cdv A outer s H vs Q E hr h => ?_)
  · obtain ⟨_, _, _, _, _, _, rfl, _⟩ := h; rfl
  obtain ⟨v, k, N, t, b, rs, rfl, ⟨a, us, rfl, ea, al⟩, sh, N10, kN, pv_, sz, z1, z2, z3, kk⟩ := h
  refine ⟨_, (pss_cons (ps_set (i := 2) sc_eliminated.nd rfl (Or.inl rfl) (pe_callB (cr_min rfl) (by rfl) T.b_min (by decide +kernel) (pa_cons (pe_lc (own := [("k", 4)]) (g := gName 4) (tt := (tB (tOp (rNeR K) (tOp (rIxL K) (tOp (rIxL K) (tVar 0) (tVar 4)) (tVar 1)) (tMake (CRatio K) (sp_Ratio_init K) [.int 1] C8.E0 (tCons (tC (.int 0)) tNil))))) (by rfl) sc_eliminated.nd (pi_range2 (by rfl) T.b_range (pa_cons (pv 1) (pa_cons (pe_callB call_len (by rfl) T.b_len (by decide +kernel) (pa_cons (pv 0) pa_nil)) pa_nil))) (blkOk_by (own := [("k", 4)]) (N := N_eliminated) (sc := defScope s_eliminated) (by decide +kernel)) (fun _ _ _ _ _ => (pg_name (i := 4) sc_eliminated.nd rfl (Or.inl rfl))) (fun _ _ _ _ _ => (pts_one (pt_cmpR (op_Rne T hr (by decide)) (pe_ix ix_list (pe_ix ix_list (pv 0) (pv 4) (fun _ _ => rfl)) (pv 1) (fun _ _ => rfl)) (C8.pe_mk (c_Ratio_1 T) hr (by decide) (by rfl) (pa_cons pe_int pa_nil)) (nomark _)))) (fun _ _ _ _ _ => (pv 4))) pa_nil)))
      (pss_cons (ps_set (i := 0) sc_eliminated.nd rfl (Or.inr rfl) (pe_lst (StX.pa_star (pe_slice sl_list (pv 0) po_none (po_some (pv 1))) (pa_cons (pe_ix ix_list (pv 0) (pv 2) (fun _ _ => rfl)) (StX.pa_star (pe_slice sl_list (pv 0) (po_some (pv 1)) (po_some (pv 2))) (StX.pa_star (pe_slice sl_list (pv 0) (po_some (pe_op op_add (pv 2) pe_int)) po_none) pa_nil))))))
      (pss_cons (ps_asg (pe_lc (own := [("entry", 6)]) (g := gName 6) (te := (tMeth (CRatio K) "over" (sp_over K) [] C8.E0 (tVar 6) (tCons (tOp (rIxL K) (tOp (rIxL K) (tVar 0) (tVar 1)) (tVar 1)) tNil))) (by rfl) sc_eliminated.nd (pi_list (pe_ix ix_list (pv 0) (pv 1) (fun _ _ => rfl))) (blkOk_by (own := [("entry", 6)]) (N := N_eliminated) (sc := defScope s_eliminated) (by decide +kernel)) (fun _ _ _ _ _ => (pg_name (i := 6) sc_eliminated.nd rfl (Or.inl rfl))) (fun _ _ _ _ _ => pts_nil) (fun _ _ _ _ _ => (C8.pe_mt (m_over T) hr (by decide) (pv 6) (pa_cons (pe_ix ix_list (pe_ix ix_list (pv 0) (pv 1) (fun _ _ => rfl)) (pv 1) (fun _ _ => rfl)) pa_nil)))) (pg_sub (pv 0) (pv 1) set_list))
      (pss_cons (ps_set (i := 3) sc_eliminated.nd rfl (Or.inl rfl) (pe_lst pa_nil))
      (pss_cons (ps_for PassesOwn.never rfl (pi_enum (by rfl) T.b_enumerate (pa_cons (pv 0) pa_nil)) (pg_tup rfl (pgs_cons (pg_name (i := 4) sc_eliminated.nd rfl (Or.inl rfl)) (pgs_cons (pg_name (i := 5) sc_eliminated.nd rfl (Or.inr rfl)) pgs_nil)))
      (pss_one (ps_if (PW.pt (pw_or (pt_cmpR op_eq (pv 4) (pv 1) (nomark _)) (pw_or1 (pt_cmpR (op_Req T hr (by decide)) (pe_ix ix_list (pv 5) (pv 1) (fun _ _ => rfl)) (C8.pe_mk (c_Ratio_1 T) hr (by decide) (by rfl) (pa_cons pe_int pa_nil)) (nomark _))))) (pss_one (ps_expr (pe_bm PySem.F.plainAttrs_list PySem.F.slot_list_append PySem.F.type_list_append mt_append (pv 3) (pa_cons (pv 5) pa_nil)))) (pss_one (ps_expr (pe_bm PySem.F.plainAttrs_list PySem.F.slot_list_append PySem.F.type_list_append mt_append (pv 3) (pa_cons (pe_lc (own := [("entry", 6), ("one", 7)]) (g := gTup K 2 (gCons (gName 6) (gCons (gName 7) (gNil)))) (te := (tOp (rRN K fun p q => p - q) (tVar 6) (tOp (rRN K fun p q => p * q) (tVar 7) (tOp (rIxL K) (tVar 5) (tVar 1))))) (by rfl) sc_eliminated.nd (pi_zip (by rfl) T.b_zip (pa_cons (pv 5) (pa_cons (pe_ix ix_list (pv 0) (pv 1) (fun _ _ => rfl)) pa_nil))) (blkOk_by (own := [("entry", 6), ("one", 7)]) (N := N_eliminated) (sc := defScope s_eliminated) (by decide +kernel)) (fun _ _ _ _ _ => (pg_tup rfl (pgs_cons (pg_name (i := 6) sc_eliminated.nd rfl (Or.inl rfl)) (pgs_cons (pg_name (i := 7) sc_eliminated.nd rfl (Or.inl rfl)) pgs_nil)))) (fun _ _ _ _ _ => pts_nil) (fun _ _ _ _ _ => (pe_op (op_Rsub T hr (by decide)) (pv 6) (pe_op (op_Rmul T hr (by decide)) (pv 7) (pe_ix ix_list (pv 5) (pv 1) (fun _ _ => rfl)))))) pa_nil)))))))
      (pss_one (ps_ret (pv 3)))))))), ?_⟩
  have ul : us.length = N := al.1.trans sh.1
  refine ⟨_, rfl, _, rfl, _, N, rfl, .inl ⟨us, .inl (.inl ea), ul.symm⟩, (k : Int), (N : Int), rfl, ⟨by omega, by omega, by omega, by omega⟩, fun D hD => ?_⟩
  have hn : ((N : Int) - (k : Int)).toNat = N - k := by omega
  rw [hn]
  have row : ∀ {H1 : Hp} (i : Nat), i < N → Same H H1 → ∃ c ws q, us[i]? = some (.ref c) ∧ rs[i]? = some q ∧ SqL K H1 c ws ∧ H1 c = some (.lst ws) ∧ All2 (IsR K H1) ws q ∧ q.length = N + 1 := fun i hi s1 => by
    obtain ⟨y, hy, hn⟩ := al.get (List.getElem?_eq_getElem (by rw [sh.1]; exact hi))
    obtain ⟨c, ws, rfl, ec, aw⟩ := hn.s s1
    exact ⟨c, ws, _, hy, List.getElem?_eq_getElem (by rw [sh.1]; exact hi), .inl (.inl ec), ec, aw, sh.2 _ (List.getElem_mem _)⟩
  refine lcm walk_range hD (Nat.le_trans (by omega : N - k ≤ 10) (by decide)) (fun i => !decide (ent rs (k + i) k = 0)) (fun j y _ => y = .int ((k + j : Nat) : Int)) (fun _ _ _ _ _ h => h) (fun _ _ => trivial) (fun i x H5 H' kN' kY hi s y kn ky => ?_) (fun H' ys s1 e kp => ?_)
  · obtain ⟨rfl, ex⟩ := y
    obtain rfl : x = V.int ((k + i : Nat) : Int) := ex.trans (congrArg V.int (Int.natCast_add k i).symm)
    obtain ⟨c, ws, q, e1, e2, e3, _, e4, e5⟩ := row (k + i) (by omega) s
    obtain ⟨g, eg⟩ : ∃ g, q[k]? = some g := ⟨_, List.getElem?_eq_getElem (by omega)⟩
    obtain ⟨y, ey, ry⟩ := e4.get eg
    have en : ent rs (k + i) k = g := by rw [LC.ent_eq e2, eg]; rfl
    refine ⟨rfl, ⟨_, rfl, _, rfl, a, us, _, _, rfl, rfl, .inl (.inl (s _ _ ea)), atI_nat e1, _, rfl, c, ws, _, y, rfl, rfl, e3, atI_nat ey, ?_⟩⟩
    refine fun x dx hx hdx ne => mR1 hx hdx ne fun H1 s1 hz => ⟨rfl, ?_⟩
    refine ⟨g, 0, ry.n (same_n s1), hz, _, rfl, ite2 (fun h0 => ?_) (fun h0 => ?_)⟩
    · exact ⟨_, rfl, ky _ _ s1 (by rw [en]; exact h0) rfl⟩
    · exact kn _ s1 (by rw [en]; simpa using h0)
  have ey := kept_map (f := fun j => V.int ((k + j : Nat) : Int)) kp
  refine ⟨D, ((List.range (N - k)).filter fun i => !decide (ent rs (k + i) k = 0)).map fun j => ((k + j : Nat) : Int), rfl, .inl (.inl (by rw [e, ey, List.map_map]; rfl)), ?_, fun m hm _ => ?_⟩
  · obtain ⟨s0, h1, h2, h3⟩ := pv_
    rw [List.length_map]
    refine List.length_pos_of_mem (a := s0 - k) (List.mem_filter.mpr ⟨List.mem_range.mpr (by omega), ?_⟩)
    rw [show k + (s0 - k) = s0 by omega]
    simpa using h3
  obtain ⟨j, hj, rfl⟩ := List.mem_map.mp hm
  obtain ⟨hj1, hj2⟩ := List.mem_filter.mp hj
  have hj1 := List.mem_range.mp hj1
  have hp : ent rs (k + j) k ≠ 0 := by simpa using hj2
  have hs : k + j < N := by omega
  have hks : k ≤ k + j := by omega
  generalize k + j = sp at hp hs hks
  obtain ⟨_, _, q, _, c2, _, _, _, c6⟩ := row sp hs s1
  obtain ⟨_, c1, c, ws, rfl, ec, aw⟩ := al.get c2
  have S0 : ∀ {H1 : Hp}, Same H H1 → SqL K H1 a us := fun s => .inl (.inl (s _ _ ea))
  refine ⟨_, rfl, _, rfl, _, rfl, a, us, rfl, S0 s1, fun p1 hp1 => ?_⟩
  have s2 := s1.trans (same_upd (o := .lst (cutV us none (some (k : Int)))) hp1)
  refine ⟨p1, _, rfl, .inr (.inl (.inl upd_same)), ?_⟩
  refine ⟨_, rfl, _, rfl, a, us, _, _, rfl, rfl, S0 s2, atI_nat c1, ?_⟩
  refine ⟨_, rfl, _, rfl, _, rfl, _, rfl, _, rfl, a, us, rfl, S0 s2, fun p2 hp2 => ?_⟩
  have s3 := s2.trans (same_upd (o := .lst (cutV us (some (k : Int)) (some (sp : Int)))) hp2)
  refine ⟨p2, _, rfl, .inr (.inl (.inl upd_same)), ?_⟩
  refine ⟨_, rfl, _, rfl, _, _, rfl, rfl, _, rfl, a, us, rfl, S0 s3, fun p3 hp3 => ?_⟩
  have s4 := s3.trans (same_upd (o := .lst (cutV us (some ((sp : Int) + 1)) none)) hp3)
  refine ⟨p3, _, rfl, .inr (.inl (.inl upd_same)), ?_⟩
  have e1 := cut_lo us k (by omega)
  have e2 := cut_mid us k sp hks (by omega)
  have e3 : cutV us (some ((sp : Int) + 1)) none = us.drop (sp + 1) := cut_hi us (sp + 1) (by omega)
  rw [e1, e2, e3] at s4 ⊢
  have aU : All2 (NumsL K H) (us.take k ++ (.ref c :: ((us.take sp).drop k ++ (us.drop (sp + 1) ++ [])))) (upTo rs k sp) := by
    unfold LC.upTo
    rw [c2, Option.toList_some, List.append_nil, List.append_assoc, List.append_assoc, List.singleton_append]
    exact all2_append (all2_take al k) (all2_append (all2_one (al.2 sp _ _ c1 c2)) (all2_append (all2_drop (all2_take al sp) k) (all2_drop al (sp + 1))))
  have sU := LC.shape_upTo sh hks hs
  have zU := LC.szr_upTo hks (by rw [sh.1]; exact hs) sz
  have pU : ent (upTo rs k sp) k k ≠ 0 := by
    unfold ent
    rw [(LC.upTo_get hks (by rw [sh.1]; exact hs)).2]
    exact hp
  have gU : (us.take k ++ (.ref c :: ((us.take sp).drop k ++ (us.drop (sp + 1) ++ []))))[k]? = some (.ref c) := by
    have l : (us.take k).length = k := by rw [List.length_take]; omega
    rw [List.getElem?_append_right (by omega), l, Nat.sub_self]
    rfl
  have rU : (upTo rs k sp)[k]? = some q := by rw [(LC.upTo_get hks (by rw [sh.1]; exact hs)).2, c2]
  generalize hvs : (us.take k ++ (.ref c :: ((us.take sp).drop k ++ (us.drop (sp + 1) ++ [])))) = vs at *
  have fin : ∀ H' v', Same H H' → RowsV K H' v' (cleared (normed (upTo rs k sp) k) k) → Q v' H' := fun H' v' h1 h2 => kk sp H' v' hks hs hp h1 h2
  generalize upTo rs k sp = r1 at *
  have vl : vs.length = N := aU.1.trans sU.1
  refine ⟨Nat.le_trans (m := 10) (by rw [hvs]; omega) (by decide), fun L hL => ?_⟩
  rw [hvs]
  have s5 := s4.trans (same_upd (o := .lst vs) hL)
  have hLH : H L = none := none_back s4 hL
  generalize hH5 : upd _ L (.lst vs) = H5 at s5 ⊢
  have eL : H5 L = some (.lst vs) := hH5 ▸ upd_same
  have SL : ∀ {H1 : Hp}, Same H5 H1 → SqL K H1 L vs := fun s => .inl (.inl (s _ _ eL))
  have Sc : ∀ {H1 : Hp}, Same H5 H1 → SqL K H1 c ws := fun s => .inl (.inl ((s5.trans s) _ _ ec))
  have wl : ws.length = N + 1 := aw.1.trans c6
  obtain ⟨pv1, hpv1⟩ : ∃ g, q[k]? = some g := ⟨_, List.getElem?_eq_getElem (by omega)⟩
  have epv : ent r1 k k = pv1 := by rw [LC.ent_eq rU, hpv1]; rfl
  rw [epv] at pU
  obtain ⟨yp, hyp, rp⟩ := aw.get hpv1
  have qm : q ∈ r1 := List.mem_of_getElem? rU
  refine ⟨_, rfl, _, rfl, L, vs, _, _, rfl, rfl, SL (Same.refl _), atI_nat gU, c, rfl, ⟨ws, Sc (Same.refl _)⟩, fun D2 hD2 => ?_⟩
  refine lcm walk_list hD2 (Nat.le_trans (by omega : ws.length ≤ 11) (by decide)) (fun _ => true) (fun i y H1 => ∃ g, q[i]? = some g ∧ IsR K H1 y (g / pv1)) (fun i y H1 H2 s z => ?_) (fun H1 s => Sc s) (fun i x H6 H1 kN' kY hi s y kn ky => ?_) (fun H6 ys2 s6 e6 kp2 => ?_)
  · obtain ⟨g, hg, r⟩ := z
    exact ⟨g, hg, r.n s⟩
  · obtain ⟨rfl, hx⟩ := y
    obtain ⟨g, hg, rg⟩ := aw.get' hx
    have sS := s5.trans s
    have rg1 := rg.n (same_n sS)
    obtain ⟨xa, xd, rfl, exa⟩ := id rg1
    refine ⟨rfl, yes ⟨_, rfl, xa, xd, _, rfl, exa, rfl, _, rfl, _, rfl, L, vs, _, _, rfl, rfl, SL s, atI_nat gU, _, rfl, c, ws, _, yp, rfl, rfl, Sc s, atI_nat hyp, ?_⟩⟩
    refine ⟨_, _, g, pv1, t, b, t, b, rfl, rg1, .inl (rp.n (same_n sS)), zU q qm g (List.mem_of_getElem? hg), zU q qm pv1 (List.mem_of_getElem? hpv1), by omega, by omega, pU, fun H2 y2 s2 hy2 => ?_⟩
    exact ky _ _ s2 rfl ⟨g, hg, hy2⟩
  obtain ⟨l1, l2⟩ := kp2.all
  have hq2 : All2 (IsR K H6) ys2 (q.map (· / pv1)) := all2_of (by rw [l1, List.length_map, aw.1]) fun i y hy => by
    obtain ⟨g, hg, r⟩ := l2 i y hy
    exact ⟨g / pv1, by rw [List.getElem?_map, hg]; rfl, r⟩
  have eL6 := s6 _ _ eL
  refine ⟨_, rfl, _, rfl, L, vs, (k : Int), k, rfl, rfl, eL6, ix_nat (by omega), ?_⟩
  have DL : D2 ≠ L := fun z => by subst z; rw [eL] at hD2; cases hD2
  have s7 : Same H (upd H6 L (.lst (vs.set k (.ref D2)))) := same_at (s5.trans s6) hLH
  have sn7 : SameN H6 (upd H6 L (.lst (vs.set k (.ref D2)))) := sameN_upd eL6 (fun z => z)
  generalize hH7 : upd H6 L (.lst (vs.set k (.ref D2))) = H7 at s7 sn7 ⊢
  have eL7 : H7 L = some (.lst (vs.set k (.ref D2))) := hH7 ▸ upd_same
  have eD7 : H7 D2 = some (.lst ys2) := by rw [← hH7, upd_ne DL]; exact e6
  have a2 : All2 (NumsL K H7) (vs.set k (.ref D2)) (normed r1 k) := by
    have e1 : normed r1 k = r1.set k (q.map (· / pv1)) := by unfold LC.normed; rw [rU, epv]; rfl
    rw [e1]
    exact all2_set (aU.imp fun x y z => z.s s7) k ⟨D2, ys2, rfl, eD7, hq2.imp fun x y z => z.n sn7⟩
  have s2 := LC.shape_normed sU kN
  have m2 := LC.szm_normed sU kN (by rw [epv]; exact pU) zU
  have g2 : (vs.set k (.ref D2))[k]? = some (.ref D2) := List.getElem?_set_self (by omega)
  have q2 : (normed r1 k)[k]? = some (q.map (· / pv1)) := by unfold LC.normed; rw [rU, epv]; exact List.getElem?_set_self (by rw [sU.1]; exact kN)
  generalize vs.set k (.ref D2) = v2 at a2 eL7 g2 ⊢
  generalize normed r1 k = r2 at a2 s2 m2 q2 fin ⊢
  generalize q.map (· / pv1) = q' at hq2 q2
  clear hH7 hvs
  have l2' : v2.length = N := a2.1.trans s2.1
  refine ⟨Nat.zero_le _, fun F' hF => ?_⟩
  have FL : L ≠ F' := fun z => by subst z; rw [eL7] at hF; cases hF
  have S7 : ∀ {H1 : Hp}, Same H7 H1 → SqL K H1 L v2 := fun s => .inl (.inl (s _ _ eL7))
  refine ⟨_, rfl, L, v2, rfl, S7 (same_upd hF), ?_⟩
  refine for_it walk_enum (fun i σ H8 => (∃ x y, σ = [some (.ref L), some (.int (k : Int)), some (.int (sp : Int)), some (.ref F'), x, y, none, none]) ∧ Same H7 H8 ∧ ∃ fs, H8 F' = some (.lst fs) ∧ All2 (fun u r => NumsL K H8 u r ∧ u ≠ .ref F') fs ((cleared r2 k).take i))
    ⟨⟨none, none, rfl⟩, same_upd hF, [], upd_same, All2.nil⟩ (fun i σ H8 _ p => S7 p.2.1) ?_ ?_
  · rintro i x σ H8 H9 hi ⟨⟨z1', z2', rfl⟩, s8, fs, eF, aF⟩ ⟨Tp, x1, y1, rfl, hT, rfl, hx, hy⟩
    cases hx
    have hiN : i < N := by omega
    obtain ⟨r, hr, c2', wr, rfl, ec2, aw2⟩ := a2.get' hy
    have t9 := same_upd (o := .tup [V.int (i : Nat), V.ref c2']) hT
    have s9 := s8.trans t9
    have eF9 := t9 _ _ eF
    have clen : (cleared r2 k).length = N := (LC.shape_cleared s2 kN).1
    have cg : (cleared r2 k)[i]? = some (clear1 r2 k i r) := by unfold LC.cleared; rw [List.getElem?_mapIdx, hr]; rfl
    have fl : fs.length = i := by rw [aF.1, List.length_take]; omega
    have rl : r.length = N + 1 := s2.2 r (List.mem_of_getElem? hr)
    -- what an append does
    have app : ∀ {H10 : Hp} {u : V}, Same (upd H8 Tp (.tup [V.int (i : Nat), V.ref c2'])) H10 → NumsL K H10 u (clear1 r2 k i r) → u ≠ .ref F' →
        Same H7 (upd H10 F' (.lst (fs ++ [u]))) ∧ ∃ gs, upd H10 F' (.lst (fs ++ [u])) F' = some (.lst gs) ∧ All2 (fun u' r => NumsL K (upd H10 F' (.lst (fs ++ [u]))) u' r ∧ u' ≠ .ref F') gs ((cleared r2 k).take (i + 1)) := fun {H10 u} s10 hu hne => by
      have eF10 := s10 _ _ eF9
      refine ⟨same_at (s9.trans s10) hF, _, upd_same, ?_⟩
      rw [List.take_add_one, cg]
      refine (aF.imp fun x y z => ⟨(z.1.s (t9.trans s10)).upd_ z.2 eF10, z.2⟩).snoc ⟨hu.upd_ hne eF10, hne⟩
    obtain ⟨g, hg⟩ : ∃ g, r[k]? = some g := ⟨_, List.getElem?_eq_getElem (by omega)⟩
    obtain ⟨yg, hyg, rg⟩ := aw2.get hg
    refine ⟨_, _, rfl, .inl (.inl upd_same), rfl, _, _, rfl, _, _, rfl, rfl, ?_⟩
    have own : ∀ {H10 : Hp}, Same (upd H8 Tp (.tup [V.int (i : Nat), V.ref c2'])) H10 → NumsL K H10 (.ref c2') r := fun s10 => ⟨c2', wr, rfl, (s9.trans s10) _ _ ec2, aw2.imp fun x y z => z.n (same_n (s9.trans s10))⟩
    have nF : V.ref c2' ≠ .ref F' := NumsL.ne (H := H7) ⟨c2', wr, rfl, ec2, aw2⟩ hF
    refine ⟨_, rfl, _, rfl, rfl, _, rfl, ite2 (fun h0 => ?_) (fun h0 => ?_)⟩
    · have e1 : clear1 r2 k i r = r := by
        unfold LC.clear1
        rw [if_pos (.inl (by have := of_decide_eq_true h0; have := V.int.inj this; omega))]
      refine iteT ⟨_, rfl, .inl ⟨rfl, fs, .inl (.inl eF9)⟩, _, rfl, F', fs, _, rfl, rfl, eF9, Nat.lt_of_le_of_lt (by omega : fs.length ≤ 10) (by decide), ?_⟩
      obtain ⟨f1, f2⟩ := app (Same.refl _) (by rw [e1]; exact own (Same.refl _)) nF
      exact ⟨⟨_, _, rfl⟩, f1, f2⟩
    · have nik : i ≠ k := fun z => h0 (decide_eq_true (by rw [z]))
      refine ⟨_, rfl, _, rfl, c2', wr, _, yg, rfl, rfl, .inl (.inl (s9 _ _ ec2)), atI_nat hyg, ?_⟩
      refine fun x dx hx hdx ne => mR1 hx hdx ne fun H10 s10 hz => ⟨rfl, ?_⟩
      refine ⟨g, 0, rg.n (same_n (s9.trans s10)), hz, _, rfl, ite2 (fun h1 => ?_) (fun h1 => ?_)⟩
      · have e1 : clear1 r2 k i r = r := by
          unfold LC.clear1
          rw [hg, if_pos (.inr (by simpa using h1))]
        have eF10 := s10 _ _ eF9
        refine ⟨_, rfl, .inl ⟨rfl, fs, .inl (.inl eF10)⟩, _, rfl, F', fs, _, rfl, rfl, eF10, Nat.lt_of_le_of_lt (by omega : fs.length ≤ 10) (by decide), ?_⟩
        obtain ⟨f1, f2⟩ := app s10 (by rw [e1]; exact own s10) nF
        exact ⟨⟨_, _, rfl⟩, f1, f2⟩
      · have gne : g ≠ 0 := by simpa using h1
        have e1 : clear1 r2 k i r = List.zipWith (fun e d => e - d * g) r q' := by
          unfold LC.clear1
          rw [hg, if_neg (by rintro (z | z); exact nik z; exact gne z), q2]
          rfl
        have eF10 := s10 _ _ eF9
        have s10' := s9.trans s10
        refine ⟨_, rfl, .inl ⟨rfl, fs, .inl (.inl eF10)⟩, _, rfl, _, rfl, _, rfl, L, v2, _, _, rfl, rfl, S7 s10', atI_nat g2, c2', D2, wr, ys2, rfl, .inl (.inl (s10' _ _ ec2)), .inl (.inl (s10' _ _ eD7)), fun D3 hD3 => ?_⟩
        have wrl : wr.length = N + 1 := aw2.1.trans rl
        have y2l : ys2.length = N + 1 := by rw [l1]; exact wl
        have q'l : q'.length = N + 1 := by rw [← hq2.1]; exact y2l
        refine lcm (walk_zip rfl) hD3 (Nat.le_trans (by omega : min wr.length ys2.length ≤ 11) (by decide)) (fun _ => true) (fun j y H1 => ∃ g1 g2, r[j]? = some g1 ∧ q'[j]? = some g2 ∧ IsR K H1 y (g1 - g2 * g)) (fun j y H1 H2 s z => ?_) (fun H1 s => ⟨.inl (.inl ((s10'.trans s) _ _ ec2)), .inl (.inl ((s10'.trans s) _ _ eD7))⟩) (fun j x H6 H1 kN' kY hj s y kn ky => ?_) (fun H11 ys3 s11 e11 kp3 => ?_)
        · obtain ⟨g1, g2, a1, a2, r⟩ := z
          exact ⟨g1, g2, a1, a2, r.n s⟩
        · obtain ⟨Tq, x1, y1, rfl, hTq, rfl, hx1, hy1⟩ := y
          obtain ⟨g1, hg1, rg1⟩ := aw2.get' hx1
          obtain ⟨g2, hg2, rg2⟩ := hq2.get' hy1
          have s12 := (s10'.trans s).trans (same_upd (o := .tup [x1, y1]) hTq)
          refine ⟨_, _, rfl, .inl (.inl upd_same), rfl, _, _, rfl, _, _, rfl, rfl, rfl, yes ?_⟩
          refine ⟨_, rfl, _, rfl, _, rfl, _, rfl, c2', wr, _, yg, rfl, rfl, .inl (.inl (s12 _ _ ec2)), atI_nat hyg, ?_⟩
          refine ⟨g2, g, t + b, t + b, t, b, (rg2.n sn7).n (same_n s12), .inl (rg.n (same_n s12)), m2.row _ q2 _ (List.mem_of_getElem? hg2), m2.rest i r nik hr _ (List.mem_of_getElem? hg), by omega, by omega, fun H13 m s13 hm => ?_⟩
          refine ⟨g1, g2 * g, t, b, t + b + t, t + b + b, rg1.n (same_n (s12.trans s13)), .inl hm, m2.rest i r nik hr _ (List.mem_of_getElem? hg1), (m2.row _ q2 _ (List.mem_of_getElem? hg2)).mul (m2.rest i r nik hr _ (List.mem_of_getElem? hg)), by omega, by omega, fun H14 m2' s14 hm2 => ?_⟩
          exact ky _ _ ((same_upd hTq).trans (s13.trans s14)) rfl ⟨g1, g2, hg1, hg2, hm2⟩
        · obtain ⟨l3, l4⟩ := kp3.all
          have eF11 := s11 _ _ eF10
          have n3 : NumsL K H11 (.ref D3) (clear1 r2 k i r) := by
            rw [e1]
            refine ⟨D3, ys3, rfl, e11, all2_of (by rw [l3, List.length_zipWith]; omega) fun j y hy => ?_⟩
            obtain ⟨g1, g2, a1, a2, r⟩ := l4 j y hy
            exact ⟨g1 - g2 * g, by rw [List.getElem?_zipWith, a1, a2], r⟩
          have nF3 : V.ref D3 ≠ .ref F' := fun z => by cases z; rw [eF10] at hD3; cases hD3
          refine ⟨F', fs, _, rfl, rfl, eF11, Nat.lt_of_le_of_lt (by omega : fs.length ≤ 10) (by decide), ?_⟩
          obtain ⟨f1, f2⟩ := app (s10.trans s11) n3 nF3
          exact ⟨⟨_, _, rfl⟩, f1, f2⟩
  · rintro σ H8 ⟨⟨z1', z2', rfl⟩, s8, fs, eF, aF⟩
    refine ⟨_, rfl, ?_⟩
    have clen : (cleared r2 k).length = N := (LC.shape_cleared s2 kN).1
    rw [l2', List.take_of_length_le (by omega)] at aF
    exact fin H8 _ (s7.trans s8) ⟨F', fs, rfl, eF, aF.imp fun x y z => z.1⟩
end
end Lc
set_option linter.all false
namespace LC
structure Led (h : Hs) (g : List Nat) (p : Pk) (far : Nat → Option Nat) (ls : List Nat) (ex : Option Nat) (i : Nat) : Prop where
  f0 : ∀ s, far s = some 0 ↔ s ∈ g ∧ p s = none
  fS : ∀ s k, far s = some (k + 1) → ∃ a, p s = some a ∧ ∃ t ∈ h.out a, far t.1 = some k
  lt : ∀ s, far s ≠ none → s < h.n
  mem : ∀ s ∈ ls, far s ≠ none
  cl : ∀ u, far u ≠ none → u ∉ ls → ex ≠ some u → ∀ s a, p s = some a → (∃ t ∈ h.out a, t.1 = u) → far s ≠ none
  cn : ∀ u, ex = some u → far u ≠ none ∧ ∀ s a, s < i → p s = some a → (∃ t ∈ h.out a, t.1 = u) → far s ≠ none
section
variable {h : Hs} {g : List Nat} {p : Pk} {far : Nat → Option Nat} {ls : List Nat} {u i : Nat}
theorem Led.pop (L : Led h g p far (u :: ls) none 0) : Led h g p far ls (some u) 0 :=
  ⟨L.f0, L.fS, L.lt, fun s hs => L.mem s (List.mem_cons_of_mem _ hs), fun v hv hn hx => L.cl v hv (fun z => by
    rcases List.mem_cons.mp z with rfl | z
    · exact hx rfl
    · exact hn z) (by simp), fun v e => by cases e; exact ⟨L.mem _ List.mem_cons_self, fun s a hs => absurd hs (Nat.not_lt_zero _)⟩⟩
theorem Led.skip (L : Led h g p far ls (some u) i) (c : ∀ a, p i = some a → (∃ t ∈ h.out a, t.1 = u) → far i ≠ none) : Led h g p far ls (some u) (i + 1) :=
  ⟨L.f0, L.fS, L.lt, L.mem, L.cl, fun v e => by
    cases e
    refine ⟨(L.cn u rfl).1, fun s a hs ea ht => ?_⟩
    by_cases q : s = i
    · subst q; exact c a ea ht
    · exact (L.cn u rfl).2 s a (by omega) ea ht⟩
def put (far : Nat → Option Nat) (i k : Nat) : Nat → Option Nat := fun s => if s = i then some k else far s
theorem put_ne {s k : Nat} (hs : s ≠ i) : put far i k s = far s := if_neg hs
theorem put_some {s k : Nat} (hs : far s ≠ none) : put far i k s ≠ none := by
  unfold put
  split
  · simp
  · exact hs
theorem Led.add (L : Led h g p far ls (some u) i) {a k : Nat} (hi : i < h.n) (hf : far i = none) (ea : p i = some a) (ht : ∃ t ∈ h.out a, t.1 = u) (hk : far u = some k) : Led h g p (put far i (k + 1)) (ls ++ [i]) (some u) (i + 1) := by
  have ne : u ≠ i := fun z => by subst z; rw [hf] at hk; cases hk
  refine ⟨fun s => ?_, fun s m e => ?_, fun s hs => ?_, fun s hs => ?_, fun v hv hn hx s b eb ht' => ?_, fun v e => ?_⟩
  · by_cases q : s = i
    · subst q
      constructor
      · intro e
        unfold put at e
        rw [if_pos rfl] at e
        cases e
      · rintro ⟨_, e⟩
        rw [ea] at e
        cases e
    · rw [put_ne q]; exact L.f0 s
  · by_cases q : s = i
    · subst q
      unfold put at e
      rw [if_pos rfl] at e
      cases e
      obtain ⟨t, h1, h2⟩ := ht
      exact ⟨a, ea, t, h1, by rw [h2, put_ne ne]; exact hk⟩
    · rw [put_ne q] at e
      obtain ⟨b, eb, t, h1, h2⟩ := L.fS s m e
      exact ⟨b, eb, t, h1, by rw [put_ne (fun z => by rw [z, hf] at h2; cases h2)]; exact h2⟩
  · by_cases q : s = i
    · subst q; exact hi
    · rw [put_ne q] at hs; exact L.lt s hs
  · rcases List.mem_append.mp hs with z | z
    · exact put_some (L.mem s z)
    · rw [List.mem_singleton.mp z]
      unfold put
      rw [if_pos rfl]
      simp
  · have q : v ≠ i := fun z => hn (by rw [z]; simp)
    rw [put_ne q] at hv
    exact put_some (L.cl v hv (fun z => hn (List.mem_append_left _ z)) hx s b eb ht')
  · cases e
    refine ⟨put_some (L.cn u rfl).1, fun s b hs eb ht' => ?_⟩
    by_cases q : s = i
    · subst q
      unfold put
      rw [if_pos rfl]
      simp
    · exact put_some ((L.cn u rfl).2 s b (by omega) eb ht')
theorem Led.fin (L : Led h g p far ls (some u) h.n) (pn : ∀ s a, p s = some a → s < h.n) : Led h g p far ls none 0 :=
  ⟨L.f0, L.fS, L.lt, L.mem, fun v hv hn _ s a ea ht => by
    by_cases q : v = u
    · subst q; exact (L.cn v rfl).2 s a (pn s a ea) ea ht
    · exact L.cl v hv hn (fun z => q (by cases z; rfl)) s a ea ht, fun v e => by cases e⟩
/-- what led_to tells -/
structure FarOk (h : Hs) (g : List Nat) (p : Pk) (far : Nat → Option Nat) : Prop where
  f0 : ∀ s, far s = some 0 ↔ s ∈ g ∧ p s = none
  fS : ∀ s k, far s = some (k + 1) → ∃ a, p s = some a ∧ ∃ t ∈ h.out a, far t.1 = some k
  fC : ∀ s a, p s = some a → (∃ t ∈ h.out a, far t.1 ≠ none) → far s ≠ none
  lt : ∀ s, far s ≠ none → s < h.n
theorem Led.done (L : Led h g p far [] none 0) : FarOk h g p far :=
  ⟨L.f0, L.fS, fun s a ea ⟨t, h1, h2⟩ => L.cl t.1 h2 (by simp) (by simp) s a ea ⟨t, h1, rfl⟩, L.lt⟩
end
end LC
set_option linter.all false
namespace LC
/-! ### the rows of had_by -/
section
variable {h : Hs} {g : List Nat} {p : Pk} {far : Nat → Option Nat} {os : List Nat}
/-- what stands for a state under the numbers x of the places -/
def X (os : List Nat) (far : Nat → Option Nat) (x : Nat → Rat) (t : Nat) : Rat := if t ∈ os then x (os.idxOf t) else if far t ≠ none then - x os.length else 0
theorem dot_set (x : Nat → Rat) : ∀ (r : Row) (k j : Nat) (a b : Rat), r[j]? = some a → dot (r.set j b) k x = dot r k x + (b - a) * x (k + j)
  | [], _, _, _, _, h => by simp at h
  | c :: r, k, 0, a, b, h => by
    have e : c = a := by simpa using h
    simp only [List.set_cons_zero, dot, Nat.add_zero, e]
    grind
  | c :: r, k, j + 1, a, b, h => by
    have ih := dot_set x r (k + 1) j a b (by simpa using h)
    simp only [List.set_cons_succ, dot, ih]
    rw [show k + 1 + j = k + (j + 1) by omega]
    grind
theorem dot_zeros (x : Nat → Rat) : ∀ (m k : Nat), dot (List.replicate m 0) k x = 0
  | 0, _ => rfl
  | m + 1, k => by
    simp only [List.replicate_succ, dot, dot_zeros x m (k + 1)]
    grind
/-- the state s's row -/
def RowOk (h : Hs) (p : Pk) (os : List Nat) (far : Nat → Option Nat) (s : Nat) (r : Row) : Prop := ∀ x a, p s = some a → dot r 0 x = X os far x s * (wsum (h.out a) : Rat) - psum (X os far x) (h.out a)
structure Sys (h : Hs) (g : List Nat) (p : Pk) (far : Nat → Option Nat) (os : List Nat) (rs : List Row) : Prop where
  fo : FarOk h g p far
  nd : os.Nodup
  om : ∀ s, s ∈ os ↔ ∃ k, far s = some (k + 1)
  sh : Shape os.length rs
  row : ∀ (i : Nat) s r, os[i]? = some s → rs[i]? = some r → RowOk h p os far s r
theorem idx_at (nd : os.Nodup) {i s : Nat} (e : os[i]? = some s) : os.idxOf s = i := by
  have hi := (List.getElem?_eq_some_iff.mp e)
  obtain ⟨hi, rfl⟩ := hi
  exact List.Nodup.idxOf_getElem nd i hi
theorem X_at (nd : os.Nodup) {i s : Nat} (x : Nat → Rat) (e : os[i]? = some s) : X os far x s = x i := by
  unfold X
  rw [if_pos (List.mem_of_getElem? e), idx_at nd e]
theorem sys_pick (S : Sys h g p far os rs) {s : Nat} (hs : s ∈ os) : ∃ a, p s = some a := by
  obtain ⟨k, e⟩ := (S.om s).mp hs
  obtain ⟨a, ea, _⟩ := S.fo.fS s k e
  exact ⟨a, ea⟩
theorem sys_eq (S : Sys h g p far os rs) (hp : ∀ s a, p s = some a → h.At s a) (ok : h.Ok) {x : Nat → Rat} (sol : Sol rs x) {s a : Nat} (hs : s ∈ os) (ea : p s = some a) : X os far x s = mean (X os far x) (h.out a) := by
  obtain ⟨i, hi, e⟩ := List.getElem_of_mem hs
  have ei : os[i]? = some s := by rw [List.getElem?_eq_getElem hi, e]
  have hr : i < rs.length := by rw [S.sh.1]; exact hi
  have d := sol _ (List.getElem_mem hr)
  rw [S.row i s _ ei (List.getElem?_eq_getElem hr) x a ea] at d
  obtain ⟨oko, _⟩ := (hp s a ea).ok ok
  have m := mean_mul (v := X os far x) oko
  have w := wsumQ_pos oko
  have : (X os far x s - mean (X os far x) (h.out a)) * (wsum (h.out a) : Rat) = 0 := by grind
  rcases Rat.mul_eq_zero.mp this with z | z
  · grind
  · grind
theorem sys_closed (S : Sys h g p far os rs) {D : Nat → Prop} (hD : ∀ s, D s → s ∈ os) (hc : ∀ s a, D s → p s = some a → ∀ t ∈ h.out a, D t.1) : ∀ s, ¬ D s := by
  have key : ∀ k s, far s = some k → ¬ D s := by
    intro k
    induction k with
    | zero =>
      intro s e d
      obtain ⟨k, e2⟩ := (S.om s).mp (hD s d)
      rw [e] at e2
      cases e2
    | succ k ih =>
      intro s e d
      obtain ⟨a, ea, t, ht, et⟩ := S.fo.fS s k e
      exact ih t.1 et (hc s a d ea t ht)
  intro s d
  obtain ⟨k, e⟩ := (S.om s).mp (hD s d)
  exact key _ s e d
theorem sys_le (S : Sys h g p far os rs) (hp : ∀ s a, p s = some a → h.At s a) (ok : h.Ok) {x : Nat → Rat} (hx : x os.length = 0) (sol : Sol rs x) : ∀ t, X os far x t ≤ 0 := by
  have off : ∀ t, t ∉ os → X os far x t = 0 := fun t ht => by
    unfold X
    rw [if_neg ht, hx]
    split <;> grind
  by_cases h0 : os.length = 0
  · intro t
    rw [off t (by rw [List.length_eq_zero_iff.mp h0]; simp)]
    exact Rat.le_refl
  obtain ⟨j, hj, hmax⟩ := max_of (fun i => x i) os.length (by omega)
  intro t
  apply Classical.byContradiction
  intro hc
  have ht : t ∈ os := Classical.byContradiction fun z => hc (by rw [off t z]; exact Rat.le_refl)
  have top : ∀ u, X os far x u ≤ x j ∨ u ∉ os := fun u => by
    by_cases hu : u ∈ os
    · left
      obtain ⟨i, hi, e⟩ := List.getElem_of_mem hu
      rw [X_at S.nd x (by rw [List.getElem?_eq_getElem hi, e])]
      exact hmax i hi
    · exact .inr hu
  have pos : 0 < x j := by
    rcases top t with z | z
    · grind
    · exact absurd ht z
  have le : ∀ u, X os far x u ≤ x j := fun u => by
    rcases top u with z | z
    · exact z
    · rw [off u z]; grind
  refine sys_closed S (D := fun u => u ∈ os ∧ X os far x u = x j) (fun u d => d.1) (fun s a d ea q hq => ?_) os[j] ⟨List.getElem_mem hj, X_at S.nd x (List.getElem?_eq_getElem hj)⟩
  obtain ⟨oko, _⟩ := (hp s a ea).ok ok
  have e := sys_eq S hp ok sol d.1 ea
  have := mean_max (u := X os far x) (m := x j) oko (fun q _ => le q.1) (by rw [← e, d.2]; exact Rat.le_refl) q hq
  refine ⟨Classical.byContradiction fun z => ?_, this⟩
  rw [off q.1 z] at this
  grind
theorem X_neg (x : Nat → Rat) (t : Nat) : X os far (fun j => - x j) t = - X os far x t := by
  unfold X
  split
  · rfl
  · split <;> grind
theorem dot_neg (x : Nat → Rat) : ∀ (r : Row) (k : Nat), dot r k (fun j => - x j) = - dot r k x
  | [], _ => by simp only [dot]; grind
  | a :: r, k => by simp only [dot, dot_neg x r (k + 1)]; grind
theorem sys_triv (S : Sys h g p far os rs) (hp : ∀ s a, p s = some a → h.At s a) (ok : h.Ok) : Triv os.length rs := by
  intro x hx sol j hj
  have a := sys_le S hp ok hx sol os[j]
  have b := sys_le S hp ok (x := fun j => - x j) (by rw [hx]; grind) (fun r hr => by rw [dot_neg, sol r hr]; grind) os[j]
  rw [X_neg] at b
  rw [X_at S.nd x (List.getElem?_eq_getElem hj)] at a b
  grind
/-- what a solution tells -/
theorem sys_had (S : Sys h g p far os rs) (hp : p.Ok h g) (ok : h.Ok) {x : Nat → Rat} (hx : x os.length = -1) (sol : Sol rs x) {v : Nat → Rat} (hv : ∀ t, v t = X os far x t) : Had h g p v far := by
  have e : v = X os far x := funext hv
  have no : ∀ s k, far s = some k → (s ∈ os ↔ k ≠ 0) := fun s k e => by
    rw [S.om s, e]
    constructor
    · rintro ⟨m, z⟩; cases z; simp
    · intro z; exact ⟨k - 1, by congr 1; omega⟩
  refine ⟨fun s => ?_, S.fo.fS, S.fo.fC, fun s es => ?_, fun s k a es ea => ?_, fun s es => ?_⟩
  · rw [S.fo.f0 s]
    exact ⟨fun z => z.1, fun z => ⟨z, hp.gn s z⟩⟩
  · rw [hv]
    unfold X
    rw [if_neg (fun z => (no s 0 es).mp z rfl), if_pos (by rw [es]; simp), hx]
    grind
  · rw [e]
    exact sys_eq S hp.at_ ok sol ((S.om s).mpr ⟨k, es⟩) ea
  · rw [hv]
    unfold X
    rw [if_neg (fun z => by obtain ⟨k, q⟩ := (S.om s).mp z; rw [es] at q; cases q), if_neg (by rw [es]; simp)]
/-! ### a row while it is built -/
structure RowI (N : Nat) (W : Nat) (r : Row) : Prop where
  len : r.length = N + 1
  ent : ∀ (j : Nat) q, r[j]? = some q → ∃ i : Int, q = (i : Rat) ∧ -(W : Int) ≤ i ∧ i ≤ W ∧ (j < N → i ≤ 0)
theorem rowI_zero (N : Nat) : RowI N 0 (List.replicate (N + 1) 0) := by
  refine ⟨List.length_replicate, fun j q e => ⟨0, ?_, by omega, by omega, fun _ => by omega⟩⟩
  have := List.mem_of_getElem? e
  rw [List.mem_replicate] at this
  rw [this.2]
  rfl
theorem RowI.sub {N W : Nat} {r : Row} {j od : Nat} {q : Rat} (R : RowI N W r) (e : r[j]? = some q) : RowI N (W + od) (r.set j (q - (od : Rat))) := by
  refine ⟨by rw [List.length_set]; exact R.len, fun k c ek => ?_⟩
  by_cases z : k = j
  · subst z
    have hk := (List.getElem?_eq_some_iff.mp e).1
    rw [List.getElem?_set_self hk] at ek
    cases ek
    obtain ⟨i, rfl, h1, h2, h3⟩ := R.ent k q e
    refine ⟨i - od, by rw [Rat.intCast_sub]; rfl, by omega, by omega, fun z => by have := h3 z; omega⟩
  · rw [List.getElem?_set_ne (Ne.symm z)] at ek
    obtain ⟨i, h0, h1, h2, h3⟩ := R.ent k c ek
    exact ⟨i, h0, by omega, by omega, h3⟩
theorem RowI.last {N W : Nat} {r : Row} {od : Nat} {q : Rat} (R : RowI N W r) (e : r[N]? = some q) : RowI N (W + od) (r.set N (q + 1 * (od : Rat))) := by
  refine ⟨by rw [List.length_set]; exact R.len, fun k c ek => ?_⟩
  by_cases z : k = N
  · subst z
    have hk := (List.getElem?_eq_some_iff.mp e).1
    rw [List.getElem?_set_self hk] at ek
    cases ek
    obtain ⟨i, rfl, h1, h2, h3⟩ := R.ent k q e
    refine ⟨i + od, by rw [Rat.intCast_add, Rat.one_mul]; rfl, by omega, by omega, fun z => by omega⟩
  · rw [List.getElem?_set_ne (Ne.symm z)] at ek
    obtain ⟨i, h0, h1, h2, h3⟩ := R.ent k c ek
    exact ⟨i, h0, by omega, by omega, h3⟩
theorem RowI.more {N W : Nat} {r : Row} {od : Nat} (R : RowI N W r) : RowI N (W + od) r :=
  ⟨R.len, fun k c ek => by
    obtain ⟨i, h0, h1, h2, h3⟩ := R.ent k c ek
    exact ⟨i, h0, by omega, by omega, h3⟩⟩
/-- all of a row's numbers -/
theorem RowI.sz {N W t : Nat} {r : Row} (R : RowI N W r) (hW : W ≤ 2 ^ t) {j : Nat} {q : Rat} (e : r[j]? = some q) : Sz t 0 q := by
  obtain ⟨i, rfl, h1, h2, _⟩ := R.ent j q e
  exact sz_int (by omega)
theorem RowI.fin {N W : Nat} {r : Row} {j : Nat} {q : Rat} (R : RowI N W r) (hj : j < N) (e : r[j]? = some q) (hW : W ≤ 40) : ∀ a ∈ r.set j (q + (W : Rat)), Sz 6 0 a := by
  intro a ha
  obtain ⟨k, hk, rfl⟩ := List.getElem_of_mem ha
  have ek := List.getElem?_eq_getElem hk
  by_cases z : k = j
  · subst z
    have hk2 := (List.getElem?_eq_some_iff.mp e).1
    rw [List.getElem?_set_self hk2] at ek
    obtain ⟨i, h0, h1, h2, h3⟩ := R.ent k q e
    have := h3 hj
    rw [← Option.some.inj ek, h0, show (i : Rat) + (W : Rat) = ((i + (W : Int) : Int) : Rat) by rw [Rat.intCast_add]; rfl]
    exact sz_int (by omega)
  · rw [List.getElem?_set_ne (Ne.symm z)] at ek
    exact R.sz (by omega) ek
/-- what a row tells, after the outcomes o -/
def Part (os : List Nat) (far : Nat → Option Nat) (o : Outs) (r : Row) : Prop := ∀ x, dot r 0 x = - psum (X os far x) o
theorem part_zero (N : Nat) : Part os far [] (List.replicate N 0) := fun x => by rw [dot_zeros]; simp only [psum]; grind
theorem psum_snoc' (v : Nat → Rat) (o : Outs) (q : Nat × Nat) : psum v (o ++ [q]) = psum v o + v q.1 * (q.2 : Rat) := by
  rw [psum_append]
  simp only [psum, Rat.add_zero]
theorem Part.open_ {o : Outs} {r : Row} {t od j : Nat} {q : Rat} (P : Part os far o r) (ht : t ∈ os) (hj : os.idxOf t = j) (e : r[j]? = some q) : Part os far (o ++ [(t, od)]) (r.set j (q - (od : Rat))) := fun x => by
  have hx : X os far x t = x j := by unfold X; rw [if_pos ht, hj]
  rw [dot_set x r 0 j q _ e, P x, psum_snoc', hx, Nat.zero_add]
  grind
theorem Part.far_ {o : Outs} {r : Row} {t od : Nat} {q : Rat} (P : Part os far o r) (ht : t ∉ os) (hf : far t ≠ none) (e : r[os.length]? = some q) : Part os far (o ++ [(t, od)]) (r.set os.length (q + 1 * (od : Rat))) := fun x => by
  have hx : X os far x t = - x os.length := by unfold X; rw [if_neg ht, if_pos hf]
  rw [dot_set x r 0 _ q _ e, P x, psum_snoc', hx, Nat.zero_add]
  grind
theorem Part.none_ {o : Outs} {r : Row} {t od : Nat} (P : Part os far o r) (ht : t ∉ os) (hf : far t = none) : Part os far (o ++ [(t, od)]) r := fun x => by
  have hx : X os far x t = 0 := by unfold X; rw [if_neg ht, if_neg (by rw [hf]; simp)]
  rw [P x, psum_snoc', hx]
  grind
theorem Part.own {o : Outs} {r : Row} {s j : Nat} {q : Rat} (P : Part os far o r) (hs : s ∈ os) (hj : os.idxOf s = j) (e : r[j]? = some q) (ho : ∀ b, p s = some b → h.out b = o) : RowOk h p os far s (r.set j (q + (wsum o : Rat))) := fun x b eb => by
  have hx : X os far x s = x j := by unfold X; rw [if_pos hs, hj]
  rw [dot_set x r 0 j q _ e, P x, ho b eb, hx, Nat.zero_add]
  grind
end
end LC
set_option linter.all false
namespace LC
/-! ### rows with one denominator: the numbers grow less -/
/-- the row's numbers have one denominator -/
def CR (t b : Nat) (r : Row) : Prop := ∃ D : Int, D ≠ 0 ∧ D.natAbs ≤ 2 ^ b ∧ ∀ a ∈ r, ∃ m : Int, a = (m : Rat) / (D : Rat) ∧ m.natAbs ≤ 2 ^ t
def CRs (t b : Nat) (rs : List Row) : Prop := ∀ r ∈ rs, CR t b r
theorem CR.mono {t b t' b' : Nat} {r : Row} (h : CR t b r) (h1 : t ≤ t') (h2 : b ≤ b') : CR t' b' r := by
  obtain ⟨D, d0, d1, h⟩ := h
  refine ⟨D, d0, Nat.le_trans d1 (Nat.pow_le_pow_right (by decide) h2), fun a ha => ?_⟩
  obtain ⟨m, e, hm⟩ := h a ha
  exact ⟨m, e, Nat.le_trans hm (Nat.pow_le_pow_right (by decide) h1)⟩
theorem CR.sz {t b : Nat} {r : Row} (h : CR t b r) : ∀ a ∈ r, Sz t b a := fun a ha => by
  obtain ⟨D, d0, d1, h⟩ := h
  obtain ⟨m, rfl, hm⟩ := h a ha
  rw [← Rat.divInt_eq_div]
  exact sz_divInt d0 hm d1
theorem CRs.sz {t b : Nat} {rs : List Row} (h : CRs t b rs) : SzR t b rs := fun r hr => (h r hr).sz
theorem cr_int {t : Nat} {r : Row} (h : ∀ a ∈ r, ∃ m : Int, a = (m : Rat) ∧ m.natAbs ≤ 2 ^ t) : CR t 0 r := by
  refine ⟨1, by decide, by decide, fun a ha => ?_⟩
  obtain ⟨m, rfl, hm⟩ := h a ha
  refine ⟨m, ?_, hm⟩
  rw [Rat.div_def]
  show (m : Rat) = m * (1 : Rat)⁻¹
  grind
theorem cr_row {N : Nat} {rs : List Row} {k t b : Nat} (hk : k < N) (s : Shape N rs) (hp : ent rs k k ≠ 0) (z : CRs t b rs) : CR t t (((rs[k]?).getD []).map (· / ent rs k k)) := by
  have hk2 : k < rs.length := by rw [s.1]; exact hk
  have own := List.getElem?_eq_getElem hk2
  obtain ⟨D, d0, d1, h⟩ := z _ (List.getElem_mem hk2)
  have rl := s.2 _ (List.getElem_mem hk2)
  have hkr : k < rs[k].length := by omega
  have ep : ent rs k k = rs[k][k] := by rw [ent_eq own, List.getElem?_eq_getElem hkr]; rfl
  obtain ⟨mk, e1, hmk⟩ := h _ (List.getElem_mem hkr)
  have dq : (D : Rat) ≠ 0 := by exact_mod_cast d0
  have mk0 : mk ≠ 0 := fun q => by
    subst q
    rw [ep, e1] at hp
    exact hp (by rw [Rat.div_def]; show (0 : Rat) * _ = 0; exact Rat.zero_mul _)
  have mkq : (mk : Rat) ≠ 0 := by exact_mod_cast mk0
  refine ⟨mk, mk0, hmk, fun a ha => ?_⟩
  rw [own, Option.getD_some] at ha
  obtain ⟨x, hx, rfl⟩ := List.mem_map.mp ha
  obtain ⟨m, rfl, hm⟩ := h x hx
  refine ⟨m, ?_, hm⟩
  rw [ep, e1]
  grind
theorem crs_elim {N : Nat} {rs : List Row} {k s t b : Nat} (h : Shape N rs) (hk : k ≤ s) (hs : s < N) (hp : ent rs s k ≠ 0) (z : CRs t b rs) : CRs (2 * t + 1) (b + t) (elim1 rs k s) := by
  have hs2 : s < rs.length := by rw [h.1]; exact hs
  have p1 : ent (upTo rs k s) k k ≠ 0 := by
    unfold ent
    rw [(upTo_get hk hs2).2]
    exact hp
  have zU : CRs t b (upTo rs k s) := fun r hr => z r ((upTo_perm hk hs2).mem_iff.mp hr)
  have sU := shape_upTo h hk hs
  have kN : k < N := by omega
  unfold elim1
  generalize upTo rs k s = ru at p1 zU sU
  have rowk := cr_row kN sU p1 zU
  have sN := shape_normed sU kN
  have gk : (normed ru k)[k]? = some (((ru[k]?).getD []).map (· / ent ru k k)) := by unfold normed; exact List.getElem?_set_self (by rw [sU.1]; exact kN)
  have gi : ∀ i, i ≠ k → (normed ru k)[i]? = ru[i]? := fun i hi => (normed_at sU kN).1 i hi
  generalize normed ru k = rn at sN gk gi
  generalize ((ru[k]?).getD []).map (· / ent ru k k) = rk at rowk gk
  intro r hr
  obtain ⟨i, hi, e⟩ := List.mem_mapIdx.mp hr
  have own := List.getElem?_eq_getElem hi
  unfold clear1 at e
  split at e
  · subst e
    by_cases c : i = k
    · subst c
      rw [gk] at own
      rw [← Option.some.inj own]
      exact rowk.mono (by omega) (by omega)
    · rw [gi i c] at own
      exact (zU _ (List.mem_of_getElem? own)).mono (by omega) (by omega)
  · rename_i q
    have c : i ≠ k := fun z => q (.inl z)
    have g0 : (rn[i][k]?).getD 0 ≠ 0 := fun z => q (.inr z)
    rw [gk, Option.getD_some] at e
    have own2 := own
    rw [gi i c] at own2
    obtain ⟨D, d0, d1, hD⟩ := zU _ (List.mem_of_getElem? own2)
    obtain ⟨M, m0, m1, hM⟩ := rowk
    have dq : (D : Rat) ≠ 0 := by exact_mod_cast d0
    have mq : (M : Rat) ≠ 0 := by exact_mod_cast m0
    have hkr : k < rn[i].length := by
      have := sN.2 _ (List.getElem_mem hi)
      omega
    obtain ⟨mg, eg, hg⟩ := hD _ (List.getElem_mem hkr)
    have eg2 : (rn[i][k]?).getD 0 = (mg : Rat) / (D : Rat) := by rw [List.getElem?_eq_getElem hkr]; exact eg
    rw [eg2] at e
    subst e
    refine ⟨D * M, Int.mul_ne_zero d0 m0, ?_, fun a ha => ?_⟩
    · rw [Int.natAbs_mul, Nat.pow_add]
      exact Nat.mul_le_mul d1 m1
    · obtain ⟨x, hx, y, hy, rfl⟩ := mem_zipWith ha
      obtain ⟨m, rfl, hm⟩ := hD x hx
      obtain ⟨n, rfl, hn⟩ := hM y hy
      refine ⟨m * M - n * mg, ?_, ?_⟩
      · rw [Rat.intCast_sub, Rat.intCast_mul, Rat.intCast_mul, Rat.intCast_mul]
        grind
      · have a1 : (m * M).natAbs ≤ 2 ^ t * 2 ^ t := by rw [Int.natAbs_mul]; exact Nat.mul_le_mul hm m1
        have a2 : (n * mg).natAbs ≤ 2 ^ t * 2 ^ t := by rw [Int.natAbs_mul]; exact Nat.mul_le_mul hn hg
        have e2 : 2 ^ (2 * t + 1) = 2 ^ t * 2 ^ t * 2 := by rw [Nat.pow_succ, Nat.two_mul, Nat.pow_add]
        rw [e2]
        generalize 2 ^ t * 2 ^ t = w at a1 a2 ⊢
        generalize m * M = u1 at a1 ⊢
        generalize n * mg = u2 at a2 ⊢
        omega
/-- sizes of the steps -/
def tbs2 : Nat → Nat × Nat
  | 0 => (13, 0)
  | i + 1 => (2 * (tbs2 i).1 + 1, (tbs2 i).2 + (tbs2 i).1)
theorem tbs2_ok : ∀ i, i < 7 → (tbs2 i).1 + 3 * (tbs2 i).2 < 8999 ∧ 4 * ((tbs2 i).1 + (tbs2 i).2) ≤ 40000 ∧ (tbs2 i).1 + (tbs2 i).2 < 8999 := by decide
theorem tbs2_le : ∀ i, i < 8 → (tbs2 i).1 ≤ 1800 ∧ (tbs2 i).2 ≤ 1780 := by decide
theorem szr_crs {t : Nat} {rs : List Row} (h : SzR t 0 rs) : CRs t 0 rs := fun r hr => cr_int fun a ha => by
  obtain ⟨h1, h2⟩ := h r hr a ha
  have d1 : a.den = 1 := by have := a.den_pos; omega
  refine ⟨a.num, ?_, h1⟩
  apply Rat.ext
  · rfl
  · rw [d1]; rfl
theorem RowI.finT {N W t : Nat} {r : Row} {j : Nat} {q : Rat} (R : RowI N W r) (hj : j < N) (e : r[j]? = some q) (hW : W ≤ 2 ^ t) : ∀ a ∈ r.set j (q + (W : Rat)), Sz t 0 a := by
  intro a ha
  obtain ⟨k, hk, rfl⟩ := List.getElem_of_mem ha
  have ek := List.getElem?_eq_getElem hk
  by_cases z : k = j
  · subst z
    have hk2 := (List.getElem?_eq_some_iff.mp e).1
    rw [List.getElem?_set_self hk2] at ek
    obtain ⟨i, h0, h1, h2, h3⟩ := R.ent k q e
    have := h3 hj
    rw [← Option.some.inj ek, h0, show (i : Rat) + (W : Rat) = ((i + (W : Int) : Int) : Rat) by rw [Rat.intCast_add]; rfl]
    exact sz_int (by omega)
  · rw [List.getElem?_set_ne (Ne.symm z)] at ek
    exact R.sz (by omega) ek
end LC
set_option Elab.async false
set_option linter.all false
set_option maxRecDepth 100000
set_option maxHeartbeats 4000000
namespace Lc
open PySem PySem.Spec PyProof.Rows L2 LcR
open LC (Sz Shape SzR ent Sol Triv elim1)
theorem atI_last' {α : Type} {xs : List α} {n : Nat} {v : α} (hl : xs.length = n + 1) (h : xs[n]? = some v) : atI xs (-1) = some v := by
  unfold atI
  have : ixN xs.length (-1) = some n := by
    unfold ixN
    rw [if_neg (by omega), if_pos (by omega), hl]
    congr 1
    omega
  rw [this]
  exact h
section
variable {P : Program} {w : World} {K : PySem.W.Frag} {mg : Str → Option Value} {base : Heap}
/-- the solution and the place N's own number -/
def solV (N : Nat) (q : List Rat) : Nat → Rat := fun j => (if j < N then numN q j else 0) + (if j = N then -1 else 0)
def sp_solved (K : PySem.W.Frag) : Sp := fun vs H Q _ => ∃ (v : V) (N : Nat) (rs : List LC.Row), vs = [v] ∧ RowsV K H v rs ∧ Shape N rs ∧ N ≤ 7 ∧ Triv N rs ∧ SzR 13 0 rs ∧
  ∀ H' a us q, Same H H' → H' a = some (.lst us) → All2 (IsR K H') us q → q.length = N → Sol rs (solV N q) → (∀ x ∈ q, Sz 1800 1780 x) → Q (.ref a) H'
theorem c_solved (T : Tx K mg) : C8.Cal P w K mg base 6 "solved" (sp_solved K) [] := by
  obtain ⟨fd, F⟩ := T.f_solved
  refine calD F T.g_solved sc_solved (fun _ _ _ _ _ _ us hl => match us, hl with | [_], _ => rfl) (fun vs H Q E h => ?_) (fun cdv A outer s H vs Q E hr h => ?_)
  · obtain ⟨_, _, _, rfl, _⟩ := h; rfl
  obtain ⟨v, N, rs, rfl, hv, sh, N5, tr, sz, k⟩ := h
  refine ⟨_, (pss_cons (ps_for PassesOwn.never rfl (pi_range1 (by rfl) T.b_range (pa_cons (pe_callB call_len (by rfl) T.b_len (by decide +kernel) (pa_cons (pv 0) pa_nil)) pa_nil)) (pg_name (i := 1) sc_solved.nd rfl (Or.inl rfl))
      (pss_one (ps_set (i := 0) sc_solved.nd rfl (Or.inl rfl) (C8.pe_c (c_eliminated T) hr (by decide) (by rfl) (pa_cons (pv 0) (pa_cons (pv 1) pa_nil))))))
      (pss_one (ps_ret (pe_lc (own := [("row", 2)]) (g := gName 2) (te := (tOp (rIxL K) (tVar 2) (tUn (rU fun i => .int (-i)) (tC (.int 1))))) (by rfl) sc_solved.nd (pi_list (pv 0)) (blkOk_by (own := [("row", 2)]) (N := N_solved) (sc := defScope s_solved) (by decide +kernel)) (fun _ _ _ _ _ => (pg_name (i := 2) sc_solved.nd rfl (Or.inl rfl))) (fun _ _ _ _ _ => pts_nil) (fun _ _ _ _ _ => (pe_ix ix_list (pv 2) (pe_un un_neg pe_int) (fun _ _ => rfl))))))), ?_⟩
  obtain ⟨a, us, rfl, ea, al⟩ := id hv
  have ul : us.length = N := al.1.trans sh.1
  refine ⟨_, rfl, _, N, rfl, .inl ⟨us, .inl (.inl ea), ul.symm⟩, (N : Int), rfl, by omega, by omega, ?_⟩
  rw [Int.toNat_natCast]
  refine for_it walk_range (fun i σ H2 => (∃ v2 x rs2, σ = [some v2, x, none] ∧ RowsV K H2 v2 rs2 ∧ Shape N rs2 ∧ LC.Unit i rs2 ∧ Triv N rs2 ∧ (∀ x, Sol rs2 x → Sol rs x) ∧ LC.CRs (LC.tbs2 i).1 (LC.tbs2 i).2 rs2) ∧ Same H H2)
    ⟨⟨_, none, rs, rfl, hv, sh, fun _ j _ hj => absurd hj (Nat.not_lt_zero _), tr, fun _ h => h, LC.szr_crs sz⟩, Same.refl _⟩ (fun i σ H2 _ p => trivial) ?_ ?_
  · rintro i x σ H2 H3 hi ⟨⟨v2, z, rs2, rfl, h1, h2, h3, h4, h5, h6⟩, s2⟩ ⟨rfl, ex⟩
    obtain rfl : x = V.int ((i : Nat) : Int) := ex.trans (congrArg V.int (Int.zero_add _))
    obtain ⟨b1, b2, b3⟩ := LC.tbs2_ok i (by omega)
    refine ⟨_, rfl, _, rfl, v2, i, N, _, _, rs2, rfl, h1, h2, by omega, hi, LC.piv_ex h2 hi h3 h4, h6.sz, b1, b2, b3, fun s H4 v' g1 g2 g3 s4 hr => ?_⟩
    exact ⟨⟨v', _, _, rfl, hr, LC.shape_elim h2 g1 g2, LC.unit_elim h2 g1 g2 g3 h3, LC.triv_elim h2 g1 g2 g3 h4, fun x hx => h5 x (LC.sol_elim h2 g1 g2 g3 hx), LC.crs_elim h2 g1 g2 g3 h6⟩, s2.trans s4⟩
  · rintro σ H2 ⟨⟨v2, z, rs2, rfl, ⟨a2, us2, rfl, ea2, al2⟩, h2, h3, h4, h5, h6⟩, s2⟩
    have u2 : us2.length = N := al2.1.trans h2.1
    refine ⟨_, rfl, a2, rfl, ⟨us2, .inl (.inl ea2)⟩, fun D hD => ?_⟩
    refine lcm walk_list hD (Nat.le_trans (by omega : us2.length ≤ 7) (by decide)) (fun _ => true) (fun i y H1 => IsR K H1 y (ent rs2 i N)) (fun i y H1 H2 s z => z.n s) (fun H1 s => .inl (.inl (s _ _ ea2))) (fun i x H6 H1 kN' kY hi s y kn ky => ?_) (fun H6 ys s6 e6 kp => ?_)
    · obtain ⟨rfl, hx⟩ := y
      obtain ⟨r, hr, hn⟩ := al2.get' hx
      obtain ⟨c, ws, rfl, ec, aw⟩ := hn.s s
      have rl := h2.2 r (List.mem_of_getElem? hr)
      obtain ⟨g, hg⟩ : ∃ g, r[N]? = some g := ⟨_, List.getElem?_eq_getElem (by omega)⟩
      obtain ⟨y, hy, ry⟩ := aw.get hg
      have en : ent rs2 i N = g := by rw [LC.ent_eq hr, hg]; rfl
      refine ⟨rfl, yes ⟨_, rfl, _, rfl, c, ws, _, y, rfl, rfl, .inl (.inl ec), atI_last' (aw.1.trans rl) hy, ?_⟩⟩
      exact ky _ _ (Same.refl _) rfl (by rw [en]; exact ry)
    · obtain ⟨l1, l2⟩ := kp.all
      have e1 : ∀ j, j < N → numN ((List.range N).map fun i => ent rs2 i N) j = ent rs2 j N := fun j hj => by
        unfold numN
        rw [List.getElem?_map, List.getElem?_range hj]
        rfl
      refine k H6 D ys ((List.range N).map fun i => ent rs2 i N) (s2.trans s6) e6 (all2_of (by simp [l1, u2]) fun i y hy => ?_) (by simp) (h5 _ ?_) fun x hx => ?_
      · have hi : i < N := by
          have := (List.getElem?_eq_some_iff.mp hy).1
          omega
        exact ⟨_, by rw [List.getElem?_map, List.getElem?_range hi]; rfl, l2 i y hy⟩
      · have := LC.sol_told h2 h3
        have e2 : solV N ((List.range N).map fun i => ent rs2 i N) = LC.told N rs2 := by
          funext j
          unfold solV LC.told
          by_cases hj : j < N
          · rw [if_pos hj, if_pos hj, e1 j hj]
          · rw [if_neg hj, if_neg hj]
        rw [e2]
        exact this
      · obtain ⟨i, hi, rfl⟩ := List.mem_map.mp hx
        have := LC.tbs2_le N (by omega)
        exact (LC.szr_ent h6.sz i N).mono this.1 this.2
end
end Lc
set_option Elab.async false
set_option linter.all false
set_option maxRecDepth 100000
set_option maxHeartbeats 4000000
namespace Lc
open PySem PySem.Spec PyProof.Rows L2 LcR
open LC (Led FarOk)
abbrev DKey := L2.Key
def pickV : Option Nat → V
  | none => .non
  | some a => .int (a : Int)
def PicksL (H : Hp) (v : V) (p : List (Option Nat)) : Prop := ∃ a, v = .ref a ∧ H a = some (.lst (p.map pickV))
theorem PicksL.s {H H' : Hp} {v : V} {p : List (Option Nat)} (h : PicksL H v p) (s : Same H H') : PicksL H' v p := by
  obtain ⟨a, rfl, e⟩ := h
  exact ⟨a, rfl, s _ _ e⟩
def pk (p : List (Option Nat)) : LC.Pk := fun s => (p[s]?).getD none
theorem pk_lt {p : List (Option Nat)} {s a : Nat} (h : pk p s = some a) : s < p.length := by
  unfold pk at h
  cases e : p[s]? with
  | none => rw [e] at h; cases h
  | some x => exact (List.getElem?_eq_some_iff.mp e).1
theorem pk_at {p : List (Option Nat)} {s : Nat} (h : s < p.length) : (p.map pickV)[s]? = some (pickV (pk p s)) := by
  unfold pk
  rw [List.getElem?_map, List.getElem?_eq_getElem h]
  rfl
theorem pick_non (x : Option Nat) : decide (pickV x = V.non) = x.isNone := by
  cases x <;> simp [pickV]
def keyN (s : Nat) : DKey := .inl (s : Int)
def WorthsV (K : PySem.W.Frag) (H : Hp) (v : V) (g : List Nat) : Prop := ∃ d kvs, v = .ref d ∧ H d = some (.dK kvs) ∧ kvs.map (·.1) = g.map keyN ∧ ∀ s ∈ g, ∃ u, valV kvs (keyN s) = some u ∧ IsR K H u 1
theorem WorthsV.s {K : PySem.W.Frag} {H H' : Hp} {v : V} {g : List Nat} (h : WorthsV K H v g) (s : Same H H') : WorthsV K H' v g := by
  obtain ⟨d, kvs, rfl, e1, e2, e3⟩ := h
  refine ⟨d, kvs, rfl, s _ _ e1, e2, fun t ht => ?_⟩
  obtain ⟨u, h1, h2⟩ := e3 t ht
  exact ⟨u, h1, h2.n (same_n s)⟩
def KeysOk (n : Nat) (fk : List (DKey × V)) : Prop := (fk.map (·.1)).Nodup ∧ ∀ k ∈ fk.map (·.1), ∃ s : Nat, s < n ∧ k = keyN s
def FarD (fk : List (DKey × V)) (far : Nat → Option Nat) : Prop := ∀ s : Nat, valV fk (keyN s) = (far s).map fun k : Nat => V.int (k : Int)
def hsOf (n : Nat) (l : List ActD) : LC.Hs := ⟨n, l.map fun d => (d.1, prs d)⟩
theorem out_of {n : Nat} {l : List ActD} {a : Nat} {d : ActD} (h : l[a]? = some d) : (hsOf n l).out a = prs d := by
  unfold LC.Hs.out hsOf
  rw [List.getElem?_map, h]
  rfl
theorem keyN_inj {s t : Nat} (h : keyN s = keyN t) : s = t := by
  have := Sum.inl.inj h
  omega
theorem keys_le {n : Nat} {fk : List (DKey × V)} (h : KeysOk n fk) : fk.length ≤ n := by
  have := nodup_len (l := fk.map (·.1)) (m := (List.range n).map keyN) h.1 fun k hk => by
    obtain ⟨s, h1, rfl⟩ := h.2 k hk
    exact List.mem_map.mpr ⟨s, List.mem_range.mpr h1, rfl⟩
  simpa using this
theorem keys_put' {n : Nat} {fk : List (DKey × V)} {s : Nat} {v : V} (h : KeysOk n fk) (hs : s < n) : KeysOk n (putK fk (keyN s) v) := by
  refine ⟨keys_put h.1, fun k hk => ?_⟩
  have : (valV (putK fk (keyN s) v) k).isSome = true := by
    rw [← valV_any, List.any_eq_true]
    obtain ⟨kv, h1, h2⟩ := List.mem_map.mp hk
    exact ⟨kv, h1, decide_eq_true h2⟩
  rw [valV_put] at this
  by_cases e : k = keyN s
  · exact ⟨s, hs, e⟩
  · rw [if_neg e] at this
    exact h.2 k (mem_keys this)
theorem put_len {fk : List (DKey × V)} {s : Nat} {v : V} (h : valV fk (keyN s) = none) : (putK fk (keyN s) v).length = fk.length + 1 := by
  unfold putK
  rw [valV_any, h]
  simp
theorem farD_put {fk : List (DKey × V)} {far : Nat → Option Nat} {i k : Nat} (h : FarD fk far) : FarD (putK fk (keyN i) (.int (k : Int))) (LC.put far i k) := fun s => by
  rw [valV_put]
  unfold LC.put
  by_cases e : s = i
  · rw [if_pos (by rw [e]), if_pos e]; rfl
  · rw [if_neg (fun z => e (keyN_inj z)), if_neg e]; exact h s
theorem inV_ints (u : Nat) : ∀ ts : List Nat, inV (.int (u : Int)) (ts.map fun t : Nat => V.int (t : Int)) = decide (u ∈ ts)
  | [] => rfl
  | t :: r => by
    have ih := inV_ints u r
    unfold inV at ih ⊢
    rw [List.map_cons, List.any_cons, ih]
    rw [Bool.eq_iff_iff]
    simp [eqV]
    constructor
    · rintro (h | h)
      · left; omega
      · right; exact h
    · rintro (h | h)
      · left; omega
      · right; exact h
theorem all_flat (ts : List Nat) : (ts.map fun t : Nat => V.int (t : Int)).all flatV = true := by
  rw [List.all_eq_true]
  intro x hx
  obtain ⟨t, _, rfl⟩ := List.mem_map.mp hx
  rfl
def farOf (g : List Nat) (p : LC.Pk) : Nat → Option Nat := fun s => if s ∈ g ∧ p s = none then some 0 else none
theorem farOf_yes {g : List Nat} {p : LC.Pk} {s : Nat} (h1 : s ∈ g) (h2 : p s = none) : farOf g p s = some 0 := if_pos ⟨h1, h2⟩
theorem farOf_no {g : List Nat} {p : LC.Pk} {s : Nat} (h : ¬ (s ∈ g ∧ p s = none)) : farOf g p s = none := if_neg h
/-! ### what it comes to, turn by turn -/
open Classical in
/-- a turn of led_to at the state i, for the state u at the front -/
noncomputable def ledStep (l : List ActD) (p : List (Option Nat)) (u : Nat) (st : (Nat → Option Nat) × List Nat) (i : Nat) : (Nat → Option Nat) × List Nat :=
  if st.1 i = none ∧ ∃ a d, pk p i = some a ∧ l[a]? = some d ∧ u ∈ (prs d).map (·.1) then (LC.put st.1 i ((st.1 u).getD 0 + 1), st.2 ++ [i]) else st
inductive LedRun (n : Nat) (l : List ActD) (p : List (Option Nat)) : (Nat → Option Nat) × List Nat → (Nat → Option Nat) → Prop where
  | nil {far : Nat → Option Nat} : LedRun n l p (far, []) far
  | cons {far f : Nat → Option Nat} {u : Nat} {r : List Nat} : LedRun n l p ((List.range n).foldl (ledStep l p u) (far, r)) f → LedRun n l p (far, u :: r) f
theorem LedRun.det {n : Nat} {l : List ActD} {p : List (Option Nat)} {st : (Nat → Option Nat) × List Nat} {f1 f2 : Nat → Option Nat} (h1 : LedRun n l p st f1) (h2 : LedRun n l p st f2) : f1 = f2 := by
  induction h1 with
  | nil => cases h2; rfl
  | cons _ ih => cases h2 with | cons h => exact ih h
theorem ledStep_no {l : List ActD} {p : List (Option Nat)} {u i : Nat} {far : Nat → Option Nat} {ls : List Nat} (h : ¬ (far i = none ∧ ∃ a d, pk p i = some a ∧ l[a]? = some d ∧ u ∈ (prs d).map (·.1))) : ledStep l p u (far, ls) i = (far, ls) := if_neg h
theorem ledStep_yes {l : List ActD} {p : List (Option Nat)} {u i a k : Nat} {d : ActD} {far : Nat → Option Nat} {ls : List Nat} (h1 : far i = none) (h2 : pk p i = some a) (h3 : l[a]? = some d) (h4 : u ∈ (prs d).map (·.1)) (h5 : far u = some k) : ledStep l p u (far, ls) i = (LC.put far i (k + 1), ls ++ [i]) := by
  unfold ledStep
  rw [if_pos ⟨h1, a, d, h2, h3, h4⟩]
  simp only [h5, Option.getD_some]
theorem drop_range {n i : Nat} (h : i < n) : (List.range n).drop i = i :: (List.range n).drop (i + 1) := by
  rw [List.drop_eq_getElem_cons (by rw [List.length_range]; exact h), List.getElem_range]
section
variable {P : Program} {w : World} {K : PySem.W.Frag} {mg : Str → Option Value} {base : Heap}
def sp_led_to (K : PySem.W.Frag) : Sp := fun vs H Q _ => ∃ (v : V) (n : Nat) (l : List ActD) (u : V) (p : List (Option Nat)) (y : V) (g : List Nat), vs = [v, u, y] ∧ HouseV K H v n l ∧ OkActs n l ∧ PicksL H u p ∧ p.length = n ∧ (∀ s a, pk p s = some a → a < l.length) ∧ WorthsV K H y g ∧ (∀ s ∈ g, s < n) ∧ g.Nodup ∧
  ∀ H' d fk far, Same H H' → H' d = some (.dK fk) → KeysOk n fk → FarD fk far → FarOk (hsOf n l) g (pk p) far → LedRun n l p (farOf g (pk p), g.filter fun s => (pk p s).isNone) far → Q (.ref d) H'
theorem c_led_to (T : Tx K mg) : C8.Cal P w K mg base 6 "led_to" (sp_led_to K) [] := by
  obtain ⟨fd, F⟩ := T.f_led_to
  refine calD F T.g_led_to sc_led_to (fun _ _ _ _ _ _ us hl => match us, hl with | [_, _, _], _ => rfl) (fun vs H Q E h => ?_) (fun cdv A outer s H vs Q E hr h => ?_)
  · obtain ⟨_, _, _, _, _, _, _, rfl, _⟩ := h; rfl
  obtain ⟨v, n, l, u, p, y, g, rfl, hv, ok, ⟨ap, rfl, eap⟩, pl, pa, ⟨d, kvs, rfl, ed, ek, ew⟩, gn, gd, k⟩ := h
  refine ⟨_, (pss_cons (ps_lock (LcD.ps_setDc (i := 3) (own := [("state", 6)]) (g := gName 6) (tt := (tB (tIsN (tOp (rIxL K) (tVar 1) (tVar 6))))) (by rfl) sc_led_to.nd rfl rfl (LcD.sw_trueD rfl rfl rfl (by decide +kernel)) (pi_keys (pv 2)) (blkOk_by (own := [("state", 6)]) (N := N_led_to) (sc := defScope s_led_to) (by decide +kernel)) (fun _ _ _ _ _ => (pg_name (i := 6) sc_led_to.nd rfl (Or.inl rfl))) (fun _ _ _ _ _ => (pts_one (pt_cmp (pc_isN (pe_ix ix_list (pv 1) (pv 6) (fun _ _ => rfl)))))) (fun _ _ _ _ _ => (pv 6)) (fun _ _ _ _ _ => pe_int)))
      (pss_cons (ps_set (i := 4) sc_led_to.nd rfl (Or.inl rfl) (pe_callTy (call_listD rfl) (by rfl) T.b_list (by decide +kernel) (pa_cons (pv 3) pa_nil)))
      (pss_cons (ps_while PassesOwn.never (pt_cmpR (op_neNil hr.units0) (pv 4) (pe_lst pa_nil) (nomark _))
      (pss_cons (ps_set (i := 5) sc_led_to.nd rfl (Or.inl rfl) (pe_bm PySem.F.plainAttrs_list PySem.F.slot_list_pop PySem.F.type_list_pop mt_popAt (pv 4) (pa_cons pe_int pa_nil)))
      (pss_one (ps_for PassesOwn.never rfl (pi_range1 (by rfl) T.b_range (pa_cons (pe_fld (pv 0) rfl) pa_nil)) (pg_name (i := 6) sc_led_to.nd rfl (Or.inl rfl))
      (pss_one (ps_if (PW.pt (pw_and (pt_cmp (pc_dnotin (hu1 hr) (pv 6) (pv 3))) (pw_and1 (pt_cmp (pc_notN (pe_ix ix_list (pv 1) (pv 6) (fun _ _ => rfl))))))) (pss_one (ps_if (pt_cmpR op_in_seq (pv 5) (pe_lc (own := [("target", 7), ("odds", 8)]) (g := gTup K 2 (gCons (gName 7) (gCons (gName 8) (gNil)))) (by rfl) sc_led_to.nd (pi_list (C8.pe_c (c_targets_of T) hr (by decide) (by rfl) (pa_cons (pv 0) (pa_cons (pe_ix ix_list (pv 1) (pv 6) (fun _ _ => rfl)) pa_nil)))) (blkOk_by (own := [("target", 7), ("odds", 8)]) (N := N_led_to) (sc := defScope s_led_to) (by decide +kernel)) (fun _ _ _ _ _ => (pg_tup rfl (pgs_cons (pg_name (i := 7) sc_led_to.nd rfl (Or.inl rfl)) (pgs_cons (pg_name (i := 8) sc_led_to.nd rfl (Or.inl rfl)) pgs_nil)))) (fun _ _ _ _ _ => pts_nil) (fun _ _ _ _ _ => (pv 7))) (by rfl)) (pss_cons (ps_dput (hu1 hr) (pv 3) (pv 6) (pe_op op_add (pe_dget (hu1 hr) (pv 3) (pv 5) (fun _ _ => rfl)) pe_int) rfl)
      (pss_one (ps_expr (pe_bm PySem.F.plainAttrs_list PySem.F.slot_list_append PySem.F.type_list_append mt_append (pv 4) (pa_cons (pv 6) pa_nil))))) pss_nil)) pss_nil))))))
      (pss_one (ps_ret (pv 3)))))), ?_⟩
  have kl : kvs.length = g.length := by have := congrArg List.length ek; simpa using this
  have kg : ∀ (i : Nat) k v, kvs[i]? = some (k, v) → ∃ s, g[i]? = some s ∧ k = keyN s := fun i k v e => by
    have h1 : (kvs.map (·.1))[i]? = some k := by rw [List.getElem?_map, e]; rfl
    rw [ek, List.getElem?_map] at h1
    obtain ⟨s, h2, h3⟩ := Option.map_eq_some_iff.mp h1
    exact ⟨s, h2, h3.symm⟩
  refine ⟨d, _, ed, trivial, fun od => ?_⟩
  generalize hHl : upd H d (.frz od (.dK kvs)) = Hl
  have edl : Hl d = some (.frz od (.dK kvs)) := hHl ▸ upd_same
  have kl2 : ∀ b o, b ≠ d → H b = some o → Hl b = some o := fun b o hb e => by rw [← hHl, upd_ne hb]; exact e
  have apd : ap ≠ d := fun z => by subst z; rw [eap] at ed; cases ed
  refine ⟨_, rfl, d, od, rfl, .inl ⟨kvs, edl, fun D hD => ?_⟩⟩
  have Dd : D ≠ d := fun z => by subst z; rw [edl] at hD; cases hD
  refine dc_it walk_keys (fun i H' => Same Hl H' ∧ ∃ fk, H' D = some (.dK fk) ∧ KeysOk n fk ∧ FarD fk (farOf (g.take i) (pk p)) ∧ fk.map (·.1) = ((g.take i).filter fun s => (pk p s).isNone).map keyN)
    ⟨same_upd hD, [], upd_same, ⟨List.nodup_nil, fun k h => by simp at h⟩, fun s => by rw [farOf_no (by simp)]; rfl, by simp⟩ (fun i H' _ p => p.1 _ _ edl) ?_ ?_
  · rintro i x H3 H4 hi ⟨s3, fk, ef, kok, fd, efk⟩ ⟨rfl, kx, vx, hx, rfl⟩
    obtain ⟨s0, hs0, rfl⟩ := kg i kx vx hx
    have hsn := gn s0 (List.mem_of_getElem? hs0)
    have tk : g.take (i + 1) = g.take i ++ [s0] := by rw [List.take_add_one, hs0]; rfl
    refine ⟨rfl, ⟨_, rfl, _, rfl, ap, _, _, _, rfl, rfl, .inl (.inl (s3 _ _ (kl2 _ _ apd eap))), atI_nat (pk_at (by omega)), _, rfl, ite2 (fun h0 => ?_) (fun h0 => ?_)⟩⟩
    · rw [pick_non] at h0
      have h1 : pk p s0 = none := by cases e : pk p s0 with
        | none => rfl
        | some a => rw [e] at h0; cases h0
      refine ⟨_, rfl, fk, keyN s0, rfl, ef, Nat.lt_of_le_of_lt (keys_le kok) ?_, ?_⟩
      · have := ok.n2
        exact Nat.lt_of_le_of_lt this (by decide)
      · refine ⟨fun b o hb => by rw [upd_ne (ne_of_none hb hD)]; exact s3 _ _ hb, _, upd_same, keys_put' kok hsn, fun s => ?_, ?_⟩
        rotate_left
        · have nm : s0 ∉ g.take i := fun hm => by
            have nd : (g.take (i + 1)).Nodup := gd.sublist (List.take_sublist _ _)
            rw [tk, List.nodup_append] at nd
            exact nd.2.2 s0 hm s0 (by simp) rfl
          have vn : valV fk (keyN s0) = none := by rw [fd s0, farOf_no (fun z => nm z.1)]; rfl
          have e1 : putK fk (keyN s0) (.int 0) = fk ++ [(keyN s0, .int 0)] := by
            unfold putK
            rw [valV_any, vn]
            rfl
          show (putK fk (keyN s0) (.int 0)).map (·.1) = _
          rw [e1, tk, List.map_append, efk, List.filter_append, List.map_append]
          simp [h1]
        rw [valV_put, tk]
        by_cases e : s = s0
        · subst e
          rw [if_pos rfl, farOf_yes (by simp) h1]
          rfl
        · rw [if_neg (fun z => e (keyN_inj z)), fd s]
          unfold farOf
          simp [e]
    · rw [pick_non] at h0
      have h1 : pk p s0 ≠ none := fun e => h0 (by rw [e]; rfl)
      refine ⟨s3, fk, ef, kok, fun s => ?_, ?_⟩
      rotate_left
      · rw [efk, tk, List.filter_append]
        cases e : pk p s0 with
        | none => exact absurd e h1
        | some a => simp [e]
      rw [fd s, tk]
      by_cases e : s = s0
      · subst e
        rw [farOf_no (fun z => h1 z.2), farOf_no (fun z => h1 z.2)]
      · unfold farOf
        simp [e]
  rintro H3 ⟨s3, fk, ef, kok, fd, efk⟩
  refine ⟨s3 _ _ edl, ?_⟩
  have s4 : Same H (upd H3 d (.dK kvs)) := fun b o hb => by
    by_cases e : b = d
    · subst e; rw [upd_same, ← ed]; exact hb
    · rw [upd_ne e]; exact s3 _ _ (kl2 _ _ e hb)
  have ef4 : upd H3 d (.dK kvs) D = some (.dK fk) := by rw [upd_ne Dd]; exact ef
  have hDH : H D = none := by
    cases e : H D with
    | none => rfl
    | some o => rw [kl2 _ _ Dd e] at hD; cases hD
  generalize upd H3 d (.dK kvs) = H4 at s4 ef4
  refine ⟨_, rfl, D, fk, rfl, .inl ef4, fun L hL => ?_⟩
  have hLH := none_back s4 hL
  have LD : D ≠ L := fun z => by subst z; rw [ef4] at hL; cases hL
  rw [kl, List.take_length] at efk fd
  obtain ⟨ls, hls⟩ : ∃ ls : List Nat, (g.filter fun s => (pk p s).isNone) = ls := ⟨_, rfl⟩
  rw [hls] at efk k
  have els : fk.map (·.1) = ls.map keyN := efk
  have ev : (fk.map fun kv => kV kv.1) = ls.map fun t : Nat => V.int (t : Int) := by
    have : (fk.map fun kv => kV kv.1) = (fk.map (·.1)).map kV := by rw [List.map_map]; rfl
    rw [this, els, List.map_map]
    rfl
  rw [ev]
  have s5 : Same H (upd H4 L (.lst (ls.map fun t : Nat => V.int (t : Int)))) := s4.trans (same_upd hL)
  have ef5 : upd H4 L (.lst (ls.map fun t : Nat => V.int (t : Int))) D = some (.dK fk) := by rw [upd_ne LD]; exact ef4
  have eL5 : upd H4 L (.lst (ls.map fun t : Nat => V.int (t : Int))) L = some (.lst (ls.map fun t : Nat => V.int (t : Int))) := upd_same
  generalize upd H4 L (.lst (ls.map fun t : Nat => V.int (t : Int))) = H5 at s5 ef5 eL5
  have L0 : Led (hsOf n l) g (pk p) (farOf g (pk p)) ls none 0 := by
    refine ⟨fun s => ?_, fun s m e => ?_, fun s hs => ?_, fun s hs => ?_, fun u hu hn _ => ?_, fun v e => by cases e⟩
    · by_cases c : s ∈ g ∧ pk p s = none
      · simp [farOf, c]
      · simp [farOf, c]
    · by_cases c : s ∈ g ∧ pk p s = none
      · simp [farOf, c] at e
      · simp [farOf, c] at e
    · by_cases c : s ∈ g ∧ pk p s = none
      · exact gn s c.1
      · simp [farOf, c] at hs
    · have h1 : keyN s ∈ fk.map (·.1) := by rw [els]; exact List.mem_map.mpr ⟨s, hs, rfl⟩
      obtain ⟨kv, h2, h3⟩ := List.mem_map.mp h1
      have h4 : (valV fk (keyN s)).isSome = true := by
        rw [← valV_any, List.any_eq_true]
        exact ⟨kv, h2, decide_eq_true h3⟩
      rw [fd s] at h4
      intro e
      rw [e] at h4
      cases h4
    · exfalso
      apply hn
      have h4 : (valV fk (keyN u)).isSome = true := by
        rw [fd u]
        cases e : farOf g (pk p) u with
        | none => exact absurd e hu
        | some x => rfl
      have h5 := mem_keys h4
      rw [els] at h5
      obtain ⟨s, hs, e⟩ := List.mem_map.mp h5
      rw [← keyN_inj e]
      exact hs
  generalize farOf g (pk p) = far0 at fd L0 k
  have lb : 2 * (n - fk.length) + ls.length ≤ 100 := by
    have h1 := keys_le kok
    have h2 := congrArg List.length els
    rw [List.length_map, List.length_map] at h2
    have := ok.n2
    omega
  clear s3 s4 ef4 ef hD els ev efk
  obtain ⟨ls0, hl0⟩ : ∃ ls0, ls0 = ls := ⟨_, rfl⟩
  rw [← hl0] at k
  have pn : ∀ s a, pk p s = some a → s < (hsOf n l).n := fun s a e => by have := pk_lt e; show s < n; omega
  obtain ⟨xh, dxh, mh, vah, vsh, lkh, voh, rfl, eh, hh1, hh2, hh3⟩ := id hv
  refine ⟨fun m σ H6 => (∃ x y, σ = [some (.ref xh), some (.ref ap), some (.ref d), some (.ref D), some (.ref L), x, y, none, none]) ∧ ∃ fk far ls, Same H H6 ∧ H6 D = some (.dK fk) ∧ H6 L = some (.lst (ls.map fun t : Nat => V.int (t : Int))) ∧ KeysOk n fk ∧ FarD fk far ∧ Led (hsOf n l) g (pk p) far ls none 0 ∧ (∀ f, LedRun n l p (far, ls) f → LedRun n l p (far0, ls0) f) ∧ m = 2 * (n - fk.length) + ls.length ∧ m ≤ 100,
    ⟨_, ⟨none, none, rfl⟩, fk, far0, ls, s5, ef5, eL5, kok, fd, L0, by rw [hl0]; exact fun _ h => h, rfl, lb⟩, ?_⟩
  rintro m σ H6 ⟨⟨z1, z2, rfl⟩, fk, far, ls, s6, ef, eL, kok, fd, L1, R1, rfl, mb⟩
  refine ⟨_, rfl, Nat.zero_le _, fun Z hZ => ?_⟩
  have hZL : L ≠ Z := fun z => by subst z; rw [eL] at hZ; cases hZ
  have hZD : D ≠ Z := fun z => by subst z; rw [ef] at hZ; cases hZ
  have s7 := s6.trans (same_upd (o := .lst []) hZ)
  have ef7 : upd H6 Z (.lst []) D = some (.dK fk) := by rw [upd_ne hZD]; exact ef
  have eL7 : upd H6 Z (.lst []) L = some (.lst (ls.map fun t : Nat => V.int (t : Int))) := by rw [upd_ne hZL]; exact eL
  refine ⟨L, Z, _, rfl, rfl, .inl (.inl eL7), .inl (.inl upd_same), _, rfl, ite2 (fun h0 => ?_) (fun h0 => ?_)⟩
  · generalize upd H6 Z (.lst []) = H7 at s7 ef7 eL7
    cases ls with
    | nil => cases h0
    | cons u r =>
    refine ⟨fun σ' H' => (∃ x y, σ' = [some (.ref xh), some (.ref ap), some (.ref d), some (.ref D), some (.ref L), x, y, none, none]) ∧ ∃ fk' far' ls', Same H H' ∧ H' D = some (.dK fk') ∧ H' L = some (.lst (ls'.map fun t : Nat => V.int (t : Int))) ∧ KeysOk n fk' ∧ FarD fk' far' ∧ Led (hsOf n l) g (pk p) far' ls' none 0 ∧ (∀ f, LedRun n l p (far', ls') f → LedRun n l p (far0, ls0) f) ∧ 2 * (n - fk'.length) + ls'.length < 2 * (n - fk.length) + (u :: r).length,
      fun σ' H' ⟨a1, fk', far', ls', b1, b2, b3, b4, b5, b6, b6r, b7⟩ => ⟨_, b7, a1, fk', far', ls', b1, b2, b3, b4, b5, b6, b6r, rfl, by omega⟩, ?_⟩
    refine ⟨_, rfl, .inl ⟨rfl, _, .inl (.inl eL7)⟩, L, _, 0, 0, .int (u : Int), rfl, rfl, eL7, by decide, by decide, by simp [seqIndex?], rfl, ?_⟩
    have s8 : Same H (upd H7 L (.lst ((List.map (fun t : Nat => V.int (t : Int)) (u :: r)).eraseIdx 0))) := same_at s7 hLH
    have ef8 : upd H7 L (.lst ((List.map (fun t : Nat => V.int (t : Int)) (u :: r)).eraseIdx 0)) D = some (.dK fk) := by rw [upd_ne LD]; exact ef7
    have eL8 : upd H7 L (.lst ((List.map (fun t : Nat => V.int (t : Int)) (u :: r)).eraseIdx 0)) L = some (.lst (r.map fun t : Nat => V.int (t : Int))) := by rw [upd_same]; rfl
    generalize upd H7 L (.lst ((List.map (fun t : Nat => V.int (t : Int)) (u :: r)).eraseIdx 0)) = H8 at s8 ef8 eL8
    refine ⟨_, rfl, xh, _, dxh, _, _, rfl, s8 _ _ eh, T.cl_House, T.na_House_states, rfl, (n : Int), rfl, ?_, ?_, ?_⟩
    · have := ok.n2; omega
    · have := ok.n2; omega
    rw [Int.toNat_natCast]
    refine for_it walk_range (fun i σ H9 => (∃ y, σ = [some (.ref xh), some (.ref ap), some (.ref d), some (.ref D), some (.ref L), some (.int (u : Int)), y, none, none]) ∧ ∃ fk' far' ls', Same H H9 ∧ H9 D = some (.dK fk') ∧ H9 L = some (.lst (ls'.map fun t : Nat => V.int (t : Int))) ∧ KeysOk n fk' ∧ FarD fk' far' ∧ Led (hsOf n l) g (pk p) far' ls' (some u) i ∧ (∀ f, LedRun n l p (((List.range n).drop i).foldl (ledStep l p u) (far', ls')) f → LedRun n l p (far0, ls0) f) ∧ 2 * (n - fk'.length) + ls'.length ≤ 2 * (n - fk.length) + r.length)
      ⟨⟨z2, rfl⟩, fk, far, r, s8, ef8, eL8, kok, fd, L1.pop, fun f hf => R1 f (.cons hf), Nat.le_refl _⟩ (fun i σ H2 _ p => trivial) ?_ ?_
    · rintro i x σ H9 H10 hi ⟨⟨y1, rfl⟩, fk', far', ls', s9, ef9, eL9, kok9, fd9, L9, R9, m9⟩ ⟨rfl, ex⟩
      obtain rfl : x = V.int ((i : Nat) : Int) := ex.trans (congrArg V.int (Int.zero_add _))
      have hin : i < p.length := by omega
      rw [drop_range hi] at R9
      simp only [List.foldl_cons] at R9
      have Rno : ¬ (far' i = none ∧ ∃ a d, pk p i = some a ∧ l[a]? = some d ∧ u ∈ (prs d).map (·.1)) → ∀ f, LedRun n l p (((List.range n).drop (i + 1)).foldl (ledStep l p u) (far', ls')) f → LedRun n l p (far0, ls0) f := fun hno => by
        rw [ledStep_no hno] at R9
        exact R9
      have Sap : ∀ {H1 : Hp}, Same H H1 → SqL K H1 ap (p.map pickV) := fun s => .inl (.inl (s _ _ eap))
      refine ⟨_, rfl, _, rfl, D, _, rfl, .inl ⟨fk', keyN i, .inl ef9, rfl, rfl⟩, _, rfl, ite2 (fun h1 => ?_) (fun h1 => iteF ?_)⟩
      · have fi : far' i = none := by
          rw [fd9 i] at h1
          cases e : far' i with
          | none => rfl
          | some k => rw [e] at h1; cases h1
        refine ⟨_, rfl, _, rfl, ap, _, _, _, rfl, rfl, Sap s9, atI_nat (pk_at hin), _, rfl, ite2 (fun h2 => ?_) (fun h2 => ?_)⟩
        · rw [pick_non] at h2
          obtain ⟨a, ea⟩ : ∃ a, pk p i = some a := by
            cases e : pk p i with
            | none => rw [e] at h2; cases h2
            | some a => exact ⟨a, rfl⟩
          obtain ⟨dd, hdd⟩ : ∃ dd, l[a]? = some dd := ⟨_, List.getElem?_eq_getElem (pa i a ea)⟩
          refine ⟨_, rfl, _, rfl, _, rfl, _, rfl, ap, _, _, _, rfl, rfl, Sap s9, atI_nat (pk_at hin), ?_⟩
          rw [ea]
          refine ⟨.ref xh, n, l, a, dd, rfl, hv.n (same_n s9), ok, hdd, fun H11 pp us s11 epp app => ?_⟩
          have okd := ok.acts dd (List.mem_of_getElem? hdd)
          have ul : us.length = dd.2.length := app.1.trans (List.length_map _)
          have dl := okd.len
          have out := out_of (n := n) hdd
          refine ⟨pp, rfl, ⟨us, .inl (.inl epp)⟩, fun D3 hD3 => ?_⟩
          refine lcm walk_list hD3 (Nat.le_trans (by omega : us.length ≤ 5) (by decide)) (fun _ => true) (fun j y _ => ∃ z, (prs dd)[j]? = some z ∧ y = V.int (z.1 : Int)) (fun _ _ _ _ _ h => h) (fun H1 s => .inl (.inl (s _ _ epp))) (fun j x H12 H1 kN' kY hj s y kn ky => ?_) (fun H12 ys s12 e12 kp => ?_)
          · obtain ⟨rfl, hx⟩ := y
            obtain ⟨z, hz, q, rfl, eq⟩ := app.get' hx
            exact ⟨q, _, rfl, .inl (.inl (s _ _ eq)), rfl, _, _, rfl, _, _, rfl, rfl, rfl, yes ⟨_, rfl, ky _ _ (Same.refl _) rfl ⟨z, hz, rfl⟩⟩⟩
          obtain ⟨l1, l2⟩ := kp.all
          have eys : ys = ((prs dd).map (·.1)).map fun t : Nat => V.int (t : Int) := by
            apply List.ext_getElem?
            intro j
            rw [List.map_map, List.getElem?_map]
            by_cases hj : j < ys.length
            · obtain ⟨z, hz, e⟩ := l2 j _ (List.getElem?_eq_getElem hj)
              rw [List.getElem?_eq_getElem hj, hz, e]
              rfl
            · rw [List.getElem?_eq_none (by omega), List.getElem?_eq_none (by rw [← app.1]; omega)]
              rfl
          have sA := s9.trans (s11.trans s12)
          have efA := (s11.trans s12) _ _ ef9
          have eLA := (s11.trans s12) _ _ eL9
          refine ⟨D3, ys, rfl, .inl (.inl (.inl e12)), rfl, by rw [eys]; exact all_flat _, _, rfl, ite2 (fun h3 => ?_) (fun h3 => ?_)⟩
          · have h3 : inV (V.int (u : Int)) ys = true := h3
            rw [eys, inV_ints] at h3
            have h4 := of_decide_eq_true h3
            obtain ⟨z, hz1, hz2⟩ := List.mem_map.mp h4
            have ht : ∃ t ∈ (hsOf n l).out a, t.1 = u := ⟨z, by rw [out]; exact hz1, hz2⟩
            obtain ⟨kf, hkf⟩ : ∃ kf, far' u = some kf := by
              cases e : far' u with
              | none => exact absurd e (L9.cn u rfl).1
              | some k => exact ⟨k, rfl⟩
            have vu : some (V.int (kf : Int)) = valV fk' (keyN u) := by rw [fd9 u, hkf]; rfl
            have fl := keys_le kok9
            have n2 := ok.n2
            have lt : fk'.length < sizeLine := Nat.lt_of_le_of_lt (Nat.le_trans fl n2) (by decide)
            refine ⟨_, rfl, _, rfl, D, _, rfl, .inl ⟨fk', keyN u, .inl efA, rfl, vu⟩, _, _, rfl, rfl, ?_⟩
            refine ⟨_, rfl, _, rfl, D, _, rfl, .inl ⟨fk', keyN i, efA, rfl, lt, rfl⟩, ?_⟩
            have sB : Same H (upd H12 D (.dK (putK fk' (keyN i) (.int ((kf : Int) + 1))))) := same_at sA hDH
            have eLB : upd H12 D (.dK (putK fk' (keyN i) (.int ((kf : Int) + 1)))) L = some (.lst (ls'.map fun t : Nat => V.int (t : Int))) := by rw [upd_ne LD.symm]; exact eLA
            have lls : ls'.length < sizeLine := Nat.lt_of_le_of_lt (by
              rw [List.length_cons] at mb
              omega : ls'.length ≤ 100) (by decide)
            refine ⟨_, rfl, .inl ⟨rfl, _, .inl (.inl eLB)⟩, _, rfl, L, _, _, rfl, rfl, eLB, by rw [List.length_map]; exact lls, ?_⟩
            refine ⟨⟨_, rfl⟩, putK fk' (keyN i) (.int ((kf : Int) + 1)), LC.put far' i (kf + 1), ls' ++ [i], same_at sB hLH, ?_, ?_, keys_put' kok9 hi, farD_put fd9, L9.add hi fi ea ht hkf, by rw [ledStep_yes fi ea hdd h4 hkf] at R9; exact R9, ?_⟩
            · rw [upd_ne LD]; exact upd_same
            · rw [upd_same, List.map_append]; rfl
            · have h5 : valV fk' (keyN i) = none := by rw [fd9 i, fi]; rfl
              have h6 := keys_le (keys_put' (v := .int ((kf : Int) + 1)) kok9 hi)
              rw [put_len h5] at h6 ⊢
              simp only [List.length_append, List.length_cons, List.length_nil]
              omega
          · have h3 : ¬ inV (V.int (u : Int)) ys = true := h3
            rw [eys, inV_ints] at h3
            refine ⟨⟨_, rfl⟩, fk', far', ls', sA, efA, eLA, kok9, fd9, L9.skip fun b eb ⟨t, ht, e⟩ => absurd ?_ h3, Rno ?_, m9⟩
            · rw [ea] at eb
              cases eb
              rw [out] at ht
              exact decide_eq_true (List.mem_map.mpr ⟨t, ht, e⟩)
            · rintro ⟨_, b, d', hb, hd', hm⟩
              rw [ea] at hb
              cases hb
              rw [hdd] at hd'
              cases hd'
              exact h3 (decide_eq_true hm)
        · rw [pick_non] at h2
          have ea : pk p i = none := by
            cases e : pk p i with
            | none => rfl
            | some a => rw [e] at h2; exact absurd rfl h2
          exact ⟨⟨_, rfl⟩, fk', far', ls', s9, ef9, eL9, kok9, fd9, L9.skip (fun b eb _ => by rw [ea] at eb; cases eb), Rno (fun ⟨_, b, _, hb, _⟩ => by rw [ea] at hb; cases hb), m9⟩
      · have fi : far' i ≠ none := fun e => by rw [fd9 i, e] at h1; exact h1 rfl
        exact ⟨⟨_, rfl⟩, fk', far', ls', s9, ef9, eL9, kok9, fd9, L9.skip (fun _ _ _ => fi), Rno (fun z => fi z.1), m9⟩
    · rintro σ H9 ⟨⟨y1, rfl⟩, fk', far', ls', s9, ef9, eL9, kok9, fd9, L9, R9, m9⟩
      rw [List.drop_of_length_le (by rw [List.length_range]; exact Nat.le_refl _)] at R9
      exact ⟨⟨_, _, rfl⟩, fk', far', ls', s9, ef9, eL9, kok9, fd9, L9.fin pn, R9, by simp only [List.length_cons]; omega⟩
  · cases ls with
    | cons u r => exact absurd rfl h0
    | nil =>
      refine ⟨_, rfl, ?_⟩
      exact k _ D fk far s7 ef7 kok fd L1.done (R1 far .nil)
end
end Lc
set_option Elab.async false
set_option linter.all false
set_option maxRecDepth 100000
set_option maxHeartbeats 4000000
namespace Lc
open PySem PySem.Spec PyProof.Rows L2 LcR
open LC (Sz FarOk Had psum wsum Part RowI RowOk)
abbrev intV (os : List Nat) : List V := os.map fun t : Nat => V.int (t : Int)
theorem intV_get {os : List Nat} {i s : Nat} (h : os[i]? = some s) : (intV os)[i]? = some (.int (s : Int)) := by
  unfold intV
  rw [List.getElem?_map, h]
  rfl
theorem idx_f {os : List Nat} {t : Nat} (ht : t ∈ os) : (intV os)[os.idxOf t]? = some (.int (t : Int)) ∧ eqV (.int (t : Int)) (.int (t : Int)) = true ∧ ∀ (m : Nat) z, m < os.idxOf t → (intV os)[m]? = some z → eqV z (.int (t : Int)) = false := by
  have hl : os.idxOf t < os.length := List.idxOf_lt_length_of_mem ht
  have e : os[os.idxOf t]? = some t := by rw [List.getElem?_eq_getElem hl, List.getElem_idxOf hl]
  refine ⟨intV_get e, by simp [eqV], fun m z hm hz => ?_⟩
  unfold intV at hz
  rw [List.getElem?_map] at hz
  obtain ⟨s, hs, rfl⟩ := Option.map_eq_some_iff.mp hz
  have ne : s ≠ t := by
    rintro rfl
    obtain ⟨hm2, e2⟩ := List.getElem?_eq_some_iff.mp hs
    have := List.not_of_lt_findIdx (p := (· == s)) (xs := os) hm
    simp [e2] at this
  simp [eqV]
  omega
theorem perm_ints {ns : List Int} {ls : List Nat} (h : ns.Perm (ls.map fun s : Nat => (s : Int))) : ∃ ls' : List Nat, ns = ls'.map (fun s : Nat => (s : Int)) ∧ ls'.Perm ls := by
  refine ⟨ns.map Int.toNat, ?_, ?_⟩
  · rw [List.map_map]
    have : ∀ x ∈ ns, ((fun s : Nat => (s : Int)) ∘ Int.toNat) x = x := fun x hx => by
      obtain ⟨s, _, rfl⟩ := List.mem_map.mp (h.mem_iff.mp hx)
      simp
    rw [List.map_congr_left this, List.map_id']
  · have := h.map Int.toNat
    rw [List.map_map] at this
    have e : (Int.toNat ∘ fun s : Nat => (s : Int)) = id := by funext s; simp
    rw [e, List.map_id] at this
    exact this
theorem merge_get (k : DKey) : ∀ (more acc : List (DKey × V)), (more.map (·.1)).Nodup → valV (mergeK acc more) k = (valV more k).or (valV acc k)
  | [], acc, _ => by simp [mergeK, valV]
  | kv :: r, acc, h => by
    rw [List.map_cons, List.nodup_cons] at h
    have ih := merge_get k r (putK acc kv.1 kv.2) h.2
    show valV (mergeK (putK acc kv.1 kv.2) r) k = _
    rw [ih, valV_put]
    by_cases e : k = kv.1
    · rw [if_pos e]
      have h1 : valV r k = none := by
        cases q : valV r k with
        | none => rfl
        | some v => exact absurd (by rw [← e]; exact valV_in q) h.1
      rw [h1]
      have h2 : valV (kv :: r) k = some kv.2 := by unfold valV; rw [List.find?_cons_of_pos (by simp [e])]; rfl
      rw [h2]
      rfl
    · rw [if_neg e]
      have h2 : valV (kv :: r) k = valV r k := by unfold valV; rw [List.find?_cons_of_neg (by simp; exact fun z => e z.symm)]
      rw [h2]
theorem zip_get : ∀ (os : List Nat) (us : List V) (j s : Nat), os.Nodup → os[j]? = some s → us.length = os.length → valV ((os.map keyN).zip us) (keyN s) = us[j]?
  | [], _, _, _, _, h, _ => by simp at h
  | _ :: _, [], _, _, _, _, h => by simp at h
  | o :: os, u :: us, 0, s, _, h, _ => by
    have e : o = s := by simpa using h
    subst e
    unfold valV
    rw [List.map_cons, List.zip_cons_cons, List.find?_cons_of_pos (by simp)]
    rfl
  | o :: os, u :: us, j + 1, s, nd, h, hl => by
    rw [List.nodup_cons] at nd
    have h' : os[j]? = some s := by simpa using h
    have ne : keyN o ≠ keyN s := fun e => nd.1 (by rw [keyN_inj e]; exact List.mem_of_getElem? h')
    have ih := zip_get os us j s nd.2 h' (by simpa using hl)
    unfold valV at ih ⊢
    rw [List.map_cons, List.zip_cons_cons, List.find?_cons_of_neg (by simpa using ne), ih]
    simp
theorem zip_none {os : List Nat} {us : List V} {s : Nat} (h : s ∉ os) : valV ((os.map keyN).zip us) (keyN s) = none := by
  cases e : valV ((os.map keyN).zip us) (keyN s) with
  | none => rfl
  | some v =>
    have := valV_in e
    obtain ⟨kv, h1, h2⟩ := List.mem_map.mp this
    have := (List.of_mem_zip h1).1
    obtain ⟨t, ht, e2⟩ := List.mem_map.mp this
    rw [h2] at e2
    exact absurd (by rw [← keyN_inj e2]; exact ht) h
theorem zip_fst (os : List Nat) (us : List V) (h : us.length = os.length) : ((os.map keyN).zip us).map (·.1) = os.map keyN := List.map_fst_zip (by simp [h])
theorem zip_snd (os : List Nat) (us : List V) (h : us.length = os.length) : ((os.map keyN).zip us).map (·.2) = us := List.map_snd_zip (by simp [h])
theorem filter_getD (l : List Nat) (q : Nat → Bool) : ((List.range l.length).filter fun j => q (l.getD j 0)).map (fun j => l.getD j 0) = l.filter q := by
  have e : (List.range l.length).map (fun j => l.getD j 0) = l := by
    apply List.ext_getElem?
    intro i
    rw [List.getElem?_map]
    by_cases h : i < l.length
    · rw [List.getElem?_range h, List.getElem?_eq_getElem h]
      simp [List.getD_eq_getElem?_getD, List.getElem?_eq_getElem h]
    · rw [List.getElem?_eq_none (by simp; omega), List.getElem?_eq_none (by omega)]
      rfl
  conv => rhs; rw [← e]
  rw [List.filter_map]
  rfl
section
variable {P : Program} {w : World} {K : PySem.W.Frag} {mg : Str → Option Value} {base : Heap}
/-- picks that fit a house and a goal -/
structure PkOk (n : Nat) (l : List ActD) (g : List Nat) (p : List (Option Nat)) : Prop where
  len : p.length = n
  at_ : ∀ s a, pk p s = some a → ∃ d, l[a]? = some d ∧ d.1 = s
  gn : ∀ s ∈ g, pk p s = none
theorem PkOk.lt {n : Nat} {l : List ActD} {g : List Nat} {p : List (Option Nat)} (h : PkOk n l g p) : ∀ s a, pk p s = some a → a < l.length := fun s a e => by
  obtain ⟨d, hd, _⟩ := h.at_ s a e
  exact (List.getElem?_eq_some_iff.mp hd).1
theorem PkOk.ok {n : Nat} {l : List ActD} {g : List Nat} {p : List (Option Nat)} (h : PkOk n l g p) : LC.Pk.Ok (hsOf n l) g (pk p) :=
  ⟨fun s a e => by
    obtain ⟨d, hd, rfl⟩ := h.at_ s a e
    refine ⟨prs d, ?_⟩
    unfold hsOf
    rw [List.getElem?_map, hd]
    rfl, h.gn⟩
theorem outsOk {n : Nat} {d : ActD} (h : OkAct n d) : LC.OutsOk n (prs d) :=
  ⟨fun e => h.ne (List.map_eq_nil_iff.mp e), fun q hq => by
    obtain ⟨o, ho, e⟩ := List.mem_map.mp hq
    have := h.outs o ho
    cases e
    exact ⟨this.t, this.o1⟩⟩
theorem hs_ok {n : Nat} {l : List ActD} (h : OkActs n l) : (hsOf n l).Ok := by
  refine ⟨fun a s o e => ?_, fun s hs => ?_⟩
  · unfold hsOf at e
    rw [List.getElem?_map] at e
    obtain ⟨d, hd, e2⟩ := Option.map_eq_some_iff.mp e
    cases e2
    have okd := h.acts d (List.mem_of_getElem? hd)
    exact ⟨outsOk okd, okd.s⟩
  · obtain ⟨d, hd, rfl⟩ := h.all s hs
    obtain ⟨a, ha, e⟩ := List.getElem_of_mem hd
    refine ⟨a, prs d, ?_⟩
    unfold hsOf
    rw [List.getElem?_map, List.getElem?_eq_getElem ha, e]
    rfl
def sp_had_by (K : PySem.W.Frag) : Sp := fun vs H Q _ => ∃ (v : V) (n : Nat) (l : List ActD) (u : V) (p : List (Option Nat)) (y : V) (g : List Nat), vs = [v, u, y] ∧ HouseV K H v n l ∧ OkActs n l ∧ n ≤ 8 ∧ PicksL H u p ∧ PkOk n l g p ∧ WorthsV K H y g ∧ (∀ s ∈ g, s < n) ∧ g.Nodup ∧
  ∀ H' t a q D fk far, Same H H' → H' t = some (.tup [.ref a, .ref D]) → NumsL K H' (.ref a) q → q.length = n → H' D = some (.dK fk) → KeysOk n fk → FarD fk far → Had (hsOf n l) g (pk p) (numN q) far → (∀ x ∈ q, Sz 1800 1780 x) → Q (.ref t) H'
theorem c_had_by (T : Tx K mg) : C8.Cal P w K mg base 7 "had_by" (sp_had_by K) [] := by
  obtain ⟨fd, F⟩ := T.f_had_by
  refine calD F T.g_had_by sc_had_by (fun _ _ _ _ _ _ us hl => match us, hl with | [_, _, _], _ => rfl) (fun vs H Q E h => ?_) (fun cdv A outer s H vs Q E hr h => ?_)
  · obtain ⟨_, _, _, _, _, _, _, rfl, _⟩ := h; rfl
  obtain ⟨v, n, l, u, p, y, g, rfl, hv, ok, n6, hp, pok, hy, gn, gd, k⟩ := h
  refine ⟨_, (pss_cons (ps_set (i := 3) sc_had_by.nd rfl (Or.inr rfl) (C8.pe_c (c_led_to T) hr (by decide) (by rfl) (pa_cons (pv 0) (pa_cons (pv 1) (pa_cons (pv 2) pa_nil)))))
      (pss_cons (ps_setLc (i := 4) (own := [("state", 6)]) (g := gName 6) (by rfl) sc_had_by.nd rfl rfl (sw_true rfl rfl rfl (by decide +kernel)) (pi_list (pe_callB (LcD.cr_sortedDK rfl) (by rfl) T.b_sorted (by decide +kernel) (pa_cons (pv 3) pa_nil))) (blkOk_by (own := [("state", 6)]) (N := N_had_by) (sc := defScope s_had_by) (by decide +kernel)) (fun _ _ _ _ _ => (pg_name (i := 6) sc_had_by.nd rfl (Or.inl rfl))) (fun _ _ _ _ _ => (pts_one (pt_cmpR op_gt (pe_dget (hu1 hr) (pv 3) (pv 6) (fun _ _ => rfl)) pe_int (nomark _)))) (fun _ _ _ _ _ => (pv 6)))
      (pss_cons (ps_set (i := 5) sc_had_by.nd rfl (Or.inl rfl) (pe_lst pa_nil))
      (pss_cons (ps_for PassesOwn.never rfl (pi_list (pv 4)) (pg_name (i := 6) sc_had_by.nd rfl (Or.inl rfl))
      (pss_cons (ps_par (i := 7) (j := 8) (by rfl) sc_had_by.nd rfl rfl (by decide) rfl rfl (pa_cons (pe_op op_rep (pe_lst (pa_cons (C8.pe_mk (c_Ratio_1 T) hr (by decide) (by rfl) (pa_cons pe_int pa_nil)) pa_nil)) (pe_op op_add (pe_callB call_len (by rfl) T.b_len (by decide +kernel) (pa_cons (pv 4) pa_nil)) pe_int)) (pa_cons pe_int pa_nil)) (by rfl))
      (pss_cons (ps_for PassesOwn.never rfl (pi_list (C8.pe_c (c_targets_of T) hr (by decide) (by rfl) (pa_cons (pv 0) (pa_cons (pe_ix ix_list (pv 1) (pv 6) (fun _ _ => rfl)) pa_nil)))) (pg_tup rfl (pgs_cons (pg_name (i := 9) sc_had_by.nd rfl (Or.inl rfl)) (pgs_cons (pg_name (i := 10) sc_had_by.nd rfl (Or.inl rfl)) pgs_nil)))
      (pss_cons (ps_set (i := 8) sc_had_by.nd rfl (Or.inl rfl) (pe_op op_add (pv 8) (pv 10)))
      (pss_one (ps_if (pt_cmpR op_in_seq (pv 9) (pv 4) (by rfl)) (pss_one (ps_asg (pe_op (op_Rsub T hr (by decide)) (pe_ix ix_list (pv 7) (pe_bm PySem.F.plainAttrs_list PySem.F.slot_list_index PySem.F.type_list_index mt_index (pv 4) (pa_cons (pv 9) pa_nil)) (fun _ _ => rfl)) (pv 10)) (pg_sub (pv 7) (pe_bm PySem.F.plainAttrs_list PySem.F.slot_list_index PySem.F.type_list_index mt_index (pv 4) (pa_cons (pv 9) pa_nil)) set_list))) (pss_one (ps_if (pt_cmp (pc_din (hu1 hr) (pv 9) (pv 3))) (pss_one (ps_asg (pe_op (op_Radd T hr (by decide)) (pe_ix ix_list (pv 7) (pe_un un_neg pe_int) (fun _ _ => rfl)) (pe_op (op_Rmul T hr (by decide)) (pe_dget (hu1 hr) (pv 2) (pv 9) (fun _ _ => rfl)) (pv 10))) (pg_sub (pv 7) (pe_un un_neg pe_int) set_list))) pss_nil))))))
      (pss_cons (ps_set (i := 11) sc_had_by.nd rfl (Or.inl rfl) (pe_bm PySem.F.plainAttrs_list PySem.F.slot_list_index PySem.F.type_list_index mt_index (pv 4) (pa_cons (pv 6) pa_nil)))
      (pss_cons (ps_asg (pe_op (op_Radd T hr (by decide)) (pe_ix ix_list (pv 7) (pv 11) (fun _ _ => rfl)) (pv 8)) (pg_sub (pv 7) (pv 11) set_list))
      (pss_one (ps_expr (pe_bm PySem.F.plainAttrs_list PySem.F.slot_list_append PySem.F.type_list_append mt_append (pv 5) (pa_cons (pv 7) pa_nil)))))))))
      (pss_cons (ps_set (i := 12) sc_had_by.nd rfl (Or.inr rfl) (LcD.pe_dictZip rfl (by rfl) T.b_dict (by rfl) T.b_zip (pa_cons (pv 4) (pa_cons (C8.pe_c (c_solved T) hr (by decide) (by rfl) (pa_cons (pv 5) pa_nil)) pa_nil))))
      (pss_cons (ps_setLc (i := 13) (own := [("state", 6)]) (g := gName 6) (te := (tIf (tB (tOp rEq (tDGet1 (tVar 3) (tVar 6)) (tC (.int 0)))) (tDGet (tVar 2) (tVar 6)) (tDGet2 (tVar 12) (tVar 6) (tMake (CRatio K) (sp_Ratio_init K) [.int 1] C8.E0 (tCons (tC (.int 0)) tNil))))) (by rfl) sc_had_by.nd rfl rfl (sw_true rfl rfl rfl (by decide +kernel)) (pi_range1 (by rfl) T.b_range (pa_cons (pe_fld (pv 0) rfl) pa_nil)) (blkOk_by (own := [("state", 6)]) (N := N_had_by) (sc := defScope s_had_by) (by decide +kernel)) (fun _ _ _ _ _ => (pg_name (i := 6) sc_had_by.nd rfl (Or.inl rfl))) (fun _ _ _ _ _ => pts_nil) (fun _ _ _ _ _ => (pe_ifExp (pt_cmpR op_eq (pe_dget1 (hu1 hr) (pv 3) (pv 6) ⟨rfl, rfl, rfl, rfl⟩) pe_int (nomark _)) (pe_dget (hu1 hr) (pv 2) (pv 6) (fun _ _ => rfl)) (pe_dget2 (hu1 hr) (pv 12) (pv 6) (C8.pe_mk (c_Ratio_1 T) hr (by decide) (by rfl) (pa_cons pe_int pa_nil)) ⟨rfl, rfl, rfl, rfl⟩))))
      (pss_one (ps_ret (pe_tup (pa_cons (pv 13) (pa_cons (pv 3) pa_nil))))))))))), ?_⟩
  refine ⟨_, rfl, _, rfl, _, rfl, v, n, l, u, p, y, g, rfl, hv, ok, hp, pok.len, pok.lt, hy, gn, gd, fun H1 D fk far s1 ef kok fd fo _ => ?_⟩
  obtain ⟨ap, rfl, eap⟩ := hp
  obtain ⟨d, kvs, rfl, ed, ek, ew⟩ := hy
  obtain ⟨ls, els⟩ : ∃ ls : List Nat, fk.map (·.1) = ls.map keyN := by
    have : ∀ ks : List DKey, (∀ k ∈ ks, ∃ s : Nat, s < n ∧ k = keyN s) → ∃ ls : List Nat, ks = ls.map keyN := by
      intro ks
      induction ks with
      | nil => exact fun _ => ⟨[], rfl⟩
      | cons k r ih =>
        intro h
        obtain ⟨s, _, rfl⟩ := h k List.mem_cons_self
        obtain ⟨ls, e⟩ := ih fun x hx => h x (List.mem_cons_of_mem _ hx)
        exact ⟨s :: ls, by rw [e]; rfl⟩
    exact this _ kok.2
  have ev : (fk.map fun kv => kV kv.1) = (ls.map fun t : Nat => (t : Int)).map V.int := by
    have : (fk.map fun kv => kV kv.1) = (fk.map (·.1)).map kV := by rw [List.map_map]; rfl
    rw [this, els, List.map_map, List.map_map]
    rfl
  have lnd : ls.Nodup := by
    have := kok.1
    rw [els] at this
    exact (List.pairwise_map.mp this).imp fun h e => h (by rw [e])
  have lmem : ∀ s, s ∈ ls ↔ far s ≠ none := fun s => by
    constructor
    · intro hs
      have h1 : keyN s ∈ fk.map (·.1) := by rw [els]; exact List.mem_map.mpr ⟨s, hs, rfl⟩
      obtain ⟨kv, h2, h3⟩ := List.mem_map.mp h1
      have h4 : (valV fk (keyN s)).isSome = true := by
        rw [← valV_any, List.any_eq_true]
        exact ⟨kv, h2, decide_eq_true h3⟩
      rw [fd s] at h4
      intro e
      rw [e] at h4
      cases h4
    · intro hs
      have h4 : (valV fk (keyN s)).isSome = true := by
        rw [fd s]
        cases e : far s with
        | none => exact absurd e hs
        | some x => rfl
      have h5 := mem_keys h4
      rw [els] at h5
      obtain ⟨t, ht, e⟩ := List.mem_map.mp h5
      rw [← keyN_inj e]
      exact ht
  refine ⟨_, rfl, D, fk, _, rfl, .inl ef, ev, fun ns po perm pw hpo => ?_⟩
  obtain ⟨ls', rfl, perm'⟩ := perm_ints perm
  have lnd' : ls'.Nodup := perm'.nodup_iff.mpr lnd
  have lmem' : ∀ s, s ∈ ls' ↔ far s ≠ none := fun s => by rw [perm'.mem_iff]; exact lmem s
  have ll : ls'.length ≤ 10 := by
    have h1 := keys_le kok
    have h2 := congrArg List.length els
    rw [List.length_map, List.length_map] at h2
    have := perm'.length_eq
    omega
  rw [show (ls'.map fun s : Nat => (s : Int)).map V.int = intV ls' by unfold intV; rw [List.map_map]; rfl]
  have s2 := s1.trans (same_upd (o := .lst (intV ls')) hpo)
  have ef2 : upd H1 po (.lst (intV ls')) D = some (.dK fk) := same_upd hpo _ _ ef
  have ep2 : upd H1 po (.lst (intV ls')) po = some (.lst (intV ls')) := upd_same
  generalize upd H1 po (.lst (intV ls')) = H2 at s2 ef2 ep2
  have il : (intV ls').length = ls'.length := List.length_map _
  refine ⟨po, rfl, ⟨_, .inl (.inl ep2)⟩, fun O hO => ?_⟩
  refine lcm walk_list hO (Nat.le_trans (by omega : (intV ls').length ≤ 10) (by decide)) (fun j => decide (far (ls'.getD j 0) ≠ some 0)) (fun j y _ => y = .int (ls'.getD j 0 : Nat)) (fun _ _ _ _ _ h => h) (fun H1 s => .inl (.inl (s _ _ ep2))) (fun j x H5 H' kN' kY hj s y kn ky => ?_) (fun H3 ys s3 e3 kp => ?_)
  · obtain ⟨rfl, hx⟩ := y
    unfold intV at hx
    rw [List.getElem?_map] at hx
    obtain ⟨s0, hs0, rfl⟩ := Option.map_eq_some_iff.mp hx
    have gd : ls'.getD j 0 = s0 := by rw [List.getD_eq_getElem?_getD, hs0]; rfl
    obtain ⟨kf, hkf⟩ : ∃ kf, far s0 = some kf := by
      cases e : far s0 with
      | none => exact absurd e ((lmem' s0).mp (List.mem_of_getElem? hs0))
      | some k => exact ⟨k, rfl⟩
    have vu : some (V.int (kf : Int)) = valV fk (keyN s0) := by rw [fd s0, hkf]; rfl
    refine ⟨rfl, ⟨_, rfl, _, rfl, D, _, rfl, .inl ⟨fk, keyN s0, .inl (s _ _ ef2), rfl, vu⟩, _, _, rfl, rfl, _, rfl, ite2 (fun h0 => ?_) (fun h0 => ?_)⟩⟩
    · refine ⟨_, rfl, ky _ _ (Same.refl _) ?_ (by rw [gd])⟩
      rw [gd, hkf]
      have := of_decide_eq_true h0
      simp
      omega
    · refine kn _ (Same.refl _) ?_
      rw [gd, hkf]
      have : ¬ (0 : Int) < (kf : Int) := fun z => h0 (decide_eq_true z)
      simp
      omega
  have eys := kept_map (f := fun j => V.int (ls'.getD j 0 : Nat)) kp
  have eos : ys = intV (ls'.filter fun s => decide (far s ≠ some 0)) := by
    rw [eys, il, ← filter_getD ls' fun s => decide (far s ≠ some 0)]
    unfold intV
    rw [List.map_map]
    rfl
  have ond : (ls'.filter fun s => decide (far s ≠ some 0)).Nodup := lnd'.filter _
  have om : ∀ s, s ∈ (ls'.filter fun s => decide (far s ≠ some 0)) ↔ ∃ k, far s = some (k + 1) := fun s => by
    rw [List.mem_filter, lmem' s]
    constructor
    · rintro ⟨h1, h2⟩
      have h2 := of_decide_eq_true h2
      cases e : far s with
      | none => exact absurd e h1
      | some m =>
        cases m with
        | zero => exact absurd e h2
        | succ m => exact ⟨m, rfl⟩
    · rintro ⟨m, e⟩
      rw [e]
      simp
  generalize (ls'.filter fun s => decide (far s ≠ some 0)) = os at eos ond om
  subst eos
  clear eys kp perm perm' pw
  have s23 := s2.trans s3
  have ef3 := s3 _ _ ef2
  have osn : ∀ s ∈ os, s < n := fun s hs => by
    obtain ⟨m, e⟩ := (om s).mp hs
    exact fo.lt s (by rw [e]; simp)
  -- there are five at most
  have N5 : os.length ≤ 7 := by
    by_cases h0 : os = []
    · rw [h0]; decide
    · obtain ⟨s0, hs0⟩ := List.exists_mem_of_ne_nil _ h0
      have zero : ∀ m s, far s = some m → ∃ t, far t = some 0 := by
        intro m
        induction m with
        | zero => exact fun s e => ⟨s, e⟩
        | succ m ih =>
          intro s e
          obtain ⟨a, _, t, _, et⟩ := fo.fS s m e
          exact ih t.1 et
      obtain ⟨m, em⟩ := (om s0).mp hs0
      obtain ⟨t, et⟩ := zero _ _ em
      have tn : t < n := fo.lt t (by rw [et]; simp)
      have to : t ∉ os := fun z => by obtain ⟨m, e⟩ := (om t).mp z; rw [et] at e; cases e
      have := nodup_len (l := t :: os) (m := List.range n) (List.nodup_cons.mpr ⟨to, ond⟩) fun x hx => by
        rcases List.mem_cons.mp hx with rfl | hx
        · exact List.mem_range.mpr tn
        · exact List.mem_range.mpr (osn x hx)
      simp at this
      omega
  have ol : (intV os).length = os.length := List.length_map _
  refine ⟨Nat.zero_le _, fun Rw hRw => ?_⟩
  have SO : ∀ {H1 : Hp}, Same H3 H1 → SqL K H1 O (intV os) := fun s => .inl (.inl (s _ _ e3))
  have hRwH := none_back s23 hRw
  refine ⟨_, rfl, O, rfl, ⟨intV os, SO (same_upd hRw)⟩, ?_⟩
  refine for_it walk_list (fun i σ H4 => (∃ x1 x2 x3 x4 x5 x6, σ = [some v, some (.ref ap), some (.ref d), some (.ref D), some (.ref O), some (.ref Rw), x1, x2, x3, x4, x5, x6, none, none]) ∧ Same H3 H4 ∧ ∃ rws rs, H4 Rw = some (.lst rws) ∧ All2 (fun u r => NumsL K H4 u r ∧ u ≠ .ref Rw) rws rs ∧ rs.length = i ∧ (∀ r ∈ rs, r.length = os.length + 1) ∧ LC.SzR 13 0 rs ∧ ∀ (j : Nat) s r, os[j]? = some s → rs[j]? = some r → RowOk (hsOf n l) (pk p) os far s r)
    ⟨⟨none, none, none, none, none, none, rfl⟩, same_upd hRw, [], [], upd_same, All2.nil, rfl, fun _ h => by simp at h, fun _ h => by simp at h, fun j s r _ h => by simp at h⟩ (fun i σ H4 _ p => SO p.2.1) ?_ ?_
  · rintro i x σ H4 H5 hi ⟨⟨x1, x2, x3, x4, x5, x6, rfl⟩, s4, rws, rs, eRw, aR, rl, rlen, rsz, rok⟩ ⟨rfl, hx⟩
    unfold intV at hx
    rw [List.getElem?_map] at hx
    obtain ⟨s0, hs0, rfl⟩ := Option.map_eq_some_iff.mp hx
    have so : s0 ∈ os := List.mem_of_getElem? hs0
    have ix0 : os.idxOf s0 = i := LC.idx_at ond hs0
    have hiN : i < os.length := (List.getElem?_eq_some_iff.mp hs0).1
    obtain ⟨m0, em0⟩ := (om s0).mp so
    obtain ⟨a0, ea0, _⟩ := fo.fS s0 m0 em0
    obtain ⟨dd, hdd, _⟩ := pok.at_ s0 a0 ea0
    have okd := ok.acts dd (List.mem_of_getElem? hdd)
    have out := out_of (n := n) hdd
    have sn0 := osn s0 so
    refine fun x dx hx hdx ne => mR1 hx hdx ne fun H6 s6 hz => ⟨rfl, by show 1 ≤ sizeLine; decide, fun Lz hLz => ?_⟩
    have s7 := s6.trans (same_upd (o := .lst [.ref x]) hLz)
    have s47 := s4.trans s7
    refine ⟨_, rfl, _, os.length, rfl, .inl ⟨_, SO s47, ol.symm⟩, _, _, rfl, rfl, ?_⟩
    have kn1 : ((os.length : Int) + 1).toNat = os.length + 1 := by omega
    refine ⟨Lz, (os.length : Int) + 1, [.ref x], rfl, rfl, upd_same, by omega, by omega, ?_, fun RW hRW => ?_⟩
    · rw [kn1]
      exact Nat.le_trans (by simp; omega : [V.ref x].length * (os.length + 1) ≤ 8) (by decide)
    rw [kn1]
    have fl : (List.replicate (os.length + 1) [V.ref x]).flatten = List.replicate (os.length + 1) (V.ref x) := by simp
    rw [fl]
    refine ⟨_, _, rfl, ?_⟩
    have hx7 : IsR K (upd (upd H6 Lz (.lst [.ref x])) RW (.lst (List.replicate (os.length + 1) (V.ref x)))) (.ref x) 0 := (show IsR K H6 (.ref x) 0 from hz).n ((sameN_new hLz).trans (sameN_new hRW))
    have s48 : Same H3 (upd (upd H6 Lz (.lst [.ref x])) RW (.lst (List.replicate (os.length + 1) (V.ref x)))) := s47.trans (same_upd hRW)
    have s78 : Same H5 (upd (upd H6 Lz (.lst [.ref x])) RW (.lst (List.replicate (os.length + 1) (V.ref x)))) := s7.trans (same_upd hRW)
    have eR8 : upd (upd H6 Lz (.lst [.ref x])) RW (.lst (List.replicate (os.length + 1) (V.ref x))) RW = some (.lst (List.replicate (os.length + 1) (V.ref x))) := upd_same
    have nRW : H5 RW = none := none_back s7 hRW
    generalize upd (upd H6 Lz (.lst [.ref x])) RW (.lst (List.replicate (os.length + 1) (V.ref x))) = H8 at hx7 s48 s78 eR8
    have a8 : All2 (IsR K H8) (List.replicate (os.length + 1) (V.ref x)) (List.replicate (os.length + 1) 0) := ⟨by simp, fun j u q h1 h2 => by
      rw [(List.mem_replicate.mp (List.mem_of_getElem? h1)).2, (List.mem_replicate.mp (List.mem_of_getElem? h2)).2]
      exact hx7⟩
    have sH8 := s23.trans s48
    refine ⟨_, rfl, _, rfl, _, rfl, ap, _, _, _, rfl, rfl, .inl (.inl (sH8 _ _ eap)), atI_nat (pk_at (by rw [pok.len]; exact sn0)), ?_⟩
    rw [ea0]
    refine ⟨v, n, l, a0, dd, rfl, hv.n (same_n sH8), ok, hdd, fun H9 pp us s9 epp app => ?_⟩
    have ul : us.length = (prs dd).length := app.1
    have pl4 : (prs dd).length ≤ 5 := by have := okd.len; unfold prs; rw [List.length_map]; exact this
    refine ⟨pp, rfl, ⟨us, .inl (.inl epp)⟩, ?_⟩
    have nR5 : RW ≠ Rw := fun z => by subst z; rw [eRw] at nRW; cases nRW
    have eR9 := s9 _ _ eR8
    have nRpp : RW ≠ pp := fun z => by
      subst z
      rw [eR9] at epp
      cases epp
      have hp0 : 0 < (prs dd).length := by
        have := outsOk okd
        exact List.length_pos_iff.mpr this.1
      obtain ⟨u0, hu0, b0, eb0, hb0⟩ := app.get (List.getElem?_eq_getElem hp0)
      have := (List.mem_replicate.mp (List.mem_of_getElem? hu0)).2
      rw [eb0] at this
      cases this
      obtain ⟨c0, d0, ec0, hc0⟩ := hx7
      cases ec0
      rw [s9 _ _ hc0] at hb0
      cases hb0
    refine for_it walk_list (fun j σ H10 => (∃ x4 x5 x6, σ = [some v, some (.ref ap), some (.ref d), some (.ref D), some (.ref O), some (.ref Rw), some (.int (s0 : Int)), some (.ref RW), some (.int (wsum ((prs dd).take j) : Nat)), x4, x5, x6, none, none]) ∧ Same H5 H10 ∧ (∀ b o, b ≠ RW → H9 b = some o → H10 b = some o) ∧ ∃ ws r, H10 RW = some (.lst ws) ∧ All2 (IsR K H10) ws r ∧ RowI os.length (wsum ((prs dd).take j)) r ∧ Part os far ((prs dd).take j) r)
      ⟨⟨x4, x5, x6, rfl⟩, s78.trans s9, fun _ _ _ h => h, _, _, eR9, a8.imp fun x y z => z.n (same_n s9), LC.rowI_zero _, LC.part_zero _⟩ (fun j σ H10 _ p => .inl (.inl (p.2.2.1 _ _ nRpp.symm epp))) ?_ ?_
    · rintro j x' σ H10 H11 hj ⟨⟨y4, y5, y6, rfl⟩, s10, sx, ws, r, eRW, aw, RI, PT⟩ ⟨rfl, hx'⟩
      obtain ⟨⟨t, od⟩, hp, b, rfl, eb⟩ := app.get' hx'
      have okt : od ≤ 900 := by
        obtain ⟨o, ho, e⟩ := List.mem_map.mp (List.mem_of_getElem? hp)
        have := okd.outs o ho
        cases e
        exact this.o2
      have bRW : b ≠ RW := fun z => by subst z; rw [eR9] at eb; cases eb
      have tk : (prs dd).take (j + 1) = (prs dd).take j ++ [(t, od)] := by rw [List.take_add_one, hp]; rfl
      have wj := wsum_le okd j
      have wj1 : wsum ((prs dd).take j) ≤ 4500 := by
        have := wsum_le okd 5
        rw [List.take_of_length_le (by omega)] at this
        have h2 : wsum ((prs dd).take j) ≤ 900 * j := wj
        omega
      have od4 : Sz 10 0 ((od : Int) : Rat) := LC.sz_int (by show od ≤ 2 ^ 10; omega)
      have SRW : SqL K H11 RW ws := .inl (.inl eRW)
      have wl : ws.length = os.length + 1 := aw.1.trans RI.len
      have s311 : Same H3 H11 := s4.trans s10
      have sH11 := s23.trans s311
      -- the heap behind a turn
      have nxt : ∀ {H12 : Hp} {q' : Rat} {v' : V} {jj : Nat}, Same H11 H12 → IsR K H12 v' q' → RowI os.length (wsum ((prs dd).take j) + od) (r.set jj q') → Part os far ((prs dd).take j ++ [(t, od)]) (r.set jj q') →
          Same H5 (upd H12 RW (.lst (ws.set jj v'))) ∧ (∀ b o, b ≠ RW → H9 b = some o → upd H12 RW (.lst (ws.set jj v')) b = some o) ∧ ∃ ws2 r2, upd H12 RW (.lst (ws.set jj v')) RW = some (.lst ws2) ∧ All2 (IsR K (upd H12 RW (.lst (ws.set jj v')))) ws2 r2 ∧ RowI os.length (wsum ((prs dd).take (j + 1))) r2 ∧ Part os far ((prs dd).take (j + 1)) r2 := fun {H12 q' v' jj} s12 hv' hR hP => by
        have sn : SameN H12 (upd H12 RW (.lst (ws.set jj v'))) := sameN_upd (s12 _ _ eRW) (fun z => z)
        refine ⟨same_at (s10.trans s12) nRW, fun b o hb e => by rw [upd_ne hb]; exact s12 _ _ (sx b o hb e), ws.set jj v', r.set jj q', upd_same, all2_set (aw.imp fun x y z => z.n ((same_n s12).trans sn)) jj (hv'.n sn), ?_, ?_⟩
        · rw [tk, wsum_snoc]; exact hR
        · rw [tk]; exact hP
      have sg : (V.int ((wsum ((prs dd).take j) : Nat) + (od : Int))) = V.int (wsum ((prs dd).take (j + 1)) : Nat) := by rw [tk, wsum_snoc, Int.natCast_add]
      refine ⟨b, _, rfl, .inl (.inl (sx b _ bRW eb)), rfl, _, _, rfl, _, _, rfl, rfl, ?_⟩
      refine ⟨_, rfl, _, rfl, _, _, rfl, rfl, ?_⟩
      refine ⟨_, rfl, _, rfl, O, intV os, rfl, .inl (SO s311), rfl, all_flat _, _, rfl, ite2 (fun h0 => ?_) (fun h0 => ?_)⟩
      · have h0 : inV (V.int (t : Int)) (intV os) = true := h0
        rw [inV_ints] at h0
        have to := of_decide_eq_true h0
        have il : os.idxOf t < os.length := List.idxOf_lt_length_of_mem to
        obtain ⟨q1, hq1⟩ : ∃ q1, r[os.idxOf t]? = some q1 := ⟨_, List.getElem?_eq_getElem (by rw [RI.len]; omega)⟩
        obtain ⟨y, hy, ry⟩ := aw.get hq1
        refine ⟨_, rfl, _, rfl, .inl ⟨rfl, _, SO s311⟩, _, rfl, O, intV os, .int (t : Int), os.idxOf t, .int (t : Int), rfl, rfl, SO s311, rfl, all_flat os, (idx_f to).1, (idx_f to).2.1, (idx_f to).2.2, ⟨RW, ws, _, y, rfl, rfl, SRW, atI_nat hy, _, rfl, ?_⟩⟩
        refine ⟨q1, (od : Int), 13, 0, 10, 0, ry, .inr ⟨_, rfl, rfl⟩, RI.sz (t := 13) (by omega) hq1, od4, by omega, by omega, fun H12 v' s12 hv' => ?_⟩
        refine ⟨_, rfl, _, rfl, .inl ⟨rfl, _, SO (s311.trans s12)⟩, _, rfl, O, intV os, .int (t : Int), os.idxOf t, .int (t : Int), rfl, rfl, SO (s311.trans s12), rfl, all_flat os, (idx_f to).1, (idx_f to).2.1, (idx_f to).2.2, ⟨RW, ws, _, os.idxOf t, rfl, rfl, s12 _ _ eRW, ix_nat (by omega), ?_⟩⟩
        exact ⟨⟨_, _, _, by rw [← sg]; rfl⟩, nxt s12 hv' (RI.sub hq1) (PT.open_ to rfl hq1)⟩
      · have h0 : ¬ inV (V.int (t : Int)) (intV os) = true := h0
        rw [inV_ints] at h0
        have to : t ∉ os := fun z => h0 (decide_eq_true z)
        have efB := (s311) _ _ ef3
        refine ⟨_, rfl, _, rfl, D, _, rfl, .inl ⟨fk, keyN t, .inl efB, rfl, rfl⟩, _, rfl, ite2 (fun h1 => ?_) (fun h1 => ?_)⟩
        · have ft : far t ≠ none := fun e => by rw [fd t, e] at h1; cases h1
          have ft0 : far t = some 0 := by
            cases e : far t with
            | none => exact absurd e ft
            | some m =>
              cases m with
              | zero => rfl
              | succ m => exact absurd ((om t).mpr ⟨m, e⟩) to
          obtain ⟨tg, _⟩ := (fo.f0 t).mp ft0
          obtain ⟨uw, hw1, hw2⟩ := ew t tg
          obtain ⟨q1, hq1⟩ : ∃ q1, r[os.length]? = some q1 := ⟨_, List.getElem?_eq_getElem (by rw [RI.len]; omega)⟩
          obtain ⟨y, hy, ry⟩ := aw.get hq1
          refine ⟨_, rfl, _, rfl, RW, ws, _, y, rfl, rfl, SRW, atI_last' wl hy, ?_⟩
          refine ⟨_, rfl, _, rfl, d, uw, rfl, .inl ⟨kvs, keyN t, .inl (sH11 _ _ ed), rfl, hw1.symm⟩, _, rfl, ?_⟩
          refine ⟨1, (od : Int), 0, 0, 10, 0, hw2.n (same_n sH11), .inr ⟨_, rfl, rfl⟩, LC.sz_int (i := 1) (t := 0) (by decide), od4, by omega, by omega, fun H12 m s12 hm => ?_⟩
          refine ⟨q1, 1 * (od : Rat), 13, 0, 10, 0, ry.n (same_n s12), .inl hm, RI.sz (t := 13) (by omega) hq1, by rw [Rat.one_mul]; exact od4, by omega, by omega, fun H13 v' s13 hv' => ?_⟩
          refine ⟨_, rfl, _, rfl, RW, ws, _, os.length, rfl, rfl, (s12.trans s13) _ _ eRW, ?_, ?_⟩
          · unfold ixN
            rw [if_neg (by omega), if_pos (by omega), wl]
            congr 1
            omega
          · exact ⟨⟨_, _, _, by rw [← sg]; rfl⟩, nxt (s12.trans s13) hv' (RI.last hq1) (PT.far_ to ft hq1)⟩
        · have ft : far t = none := by
            cases e : far t with
            | none => rfl
            | some m => rw [fd t, e] at h1; exact absurd rfl h1
          refine ⟨⟨_, _, _, by rw [← sg]; rfl⟩, s10, sx, ws, r, eRW, aw, ?_, ?_⟩
          · rw [tk, wsum_snoc]; exact RI.more
          · rw [tk]; exact PT.none_ to ft
    · rintro σ H10 ⟨⟨y4, y5, y6, rfl⟩, s10, sx, ws, r, eRW, aw, RI, PT⟩
      rw [ul, List.take_length] at RI PT
      rw [ul, List.take_length]
      have s310 : Same H3 H10 := s4.trans s10
      have W40 : wsum (prs dd) ≤ 4500 := by
        have := wsum_le okd 5
        rw [List.take_of_length_le pl4] at this
        exact this
      obtain ⟨q1, hq1⟩ : ∃ q1, r[i]? = some q1 := ⟨_, List.getElem?_eq_getElem (by rw [RI.len]; omega)⟩
      obtain ⟨y, hy, ry⟩ := aw.get hq1
      have wl : ws.length = os.length + 1 := aw.1.trans RI.len
      refine ⟨_, rfl, .inl ⟨rfl, _, SO s310⟩, _, rfl, O, intV os, .int (s0 : Int), os.idxOf s0, .int (s0 : Int), rfl, rfl, SO s310, rfl, all_flat os, (idx_f so).1, (idx_f so).2.1, (idx_f so).2.2, ?_⟩
      rw [ix0]
      refine ⟨_, rfl, _, rfl, RW, ws, _, y, rfl, rfl, .inl (.inl eRW), atI_nat hy, _, rfl, ?_⟩
      refine ⟨q1, ((wsum (prs dd) : Nat) : Int), 13, 0, 13, 0, ry, .inr ⟨_, rfl, rfl⟩, RI.sz (t := 13) (by omega) hq1, LC.sz_int (by show wsum (prs dd) ≤ 2 ^ 13; omega), by omega, by omega, fun H12 v' s12 hv' => ?_⟩
      refine ⟨_, rfl, _, rfl, RW, ws, _, i, rfl, rfl, s12 _ _ eRW, ix_nat (by omega), ?_⟩
      have sn : SameN H12 (upd H12 RW (.lst (ws.set i v'))) := sameN_upd (s12 _ _ eRW) (fun z => z)
      have s13 : Same H5 (upd H12 RW (.lst (ws.set i v'))) := same_at (s10.trans s12) nRW
      have n13 : NumsL K (upd H12 RW (.lst (ws.set i v'))) (.ref RW) (r.set i (q1 + (wsum (prs dd) : Rat))) := ⟨RW, _, rfl, upd_same, all2_set (aw.imp fun x y z => z.n ((same_n s12).trans sn)) i (hv'.n sn)⟩
      have eRw13 := s13 _ _ eRw
      generalize upd H12 RW (.lst (ws.set i v')) = H13 at s13 n13 eRw13
      have rwl : rws.length ≤ 7 := by have := aR.1; omega
      refine ⟨_, rfl, .inl ⟨rfl, _, .inl (.inl eRw13)⟩, _, rfl, Rw, rws, _, rfl, rfl, eRw13, Nat.lt_of_le_of_lt rwl (by decide), ?_⟩
      have neR : V.ref RW ≠ .ref Rw := fun z => nR5 (by cases z; rfl)
      refine ⟨⟨_, _, _, _, _, _, rfl⟩, same_at (s4.trans s13) hRw, rws ++ [.ref RW], rs ++ [r.set i (q1 + (wsum (prs dd) : Rat))], upd_same, ?_, by rw [List.length_append, rl]; rfl, fun r' hr' => ?_, fun r' hr' => ?_, fun jj s r' hs hr' => ?_⟩
      · exact (aR.imp fun x y z => ⟨(z.1.s s13).upd_ z.2 eRw13, z.2⟩).snoc ⟨n13.upd_ neR eRw13, neR⟩
      · rcases List.mem_append.mp hr' with z | z
        · exact rlen r' z
        · rw [List.mem_singleton.mp z, List.length_set]
          exact RI.len
      · rcases List.mem_append.mp hr' with z | z
        · exact rsz r' z
        · rw [List.mem_singleton.mp z]
          exact RI.finT hiN hq1 (by show wsum (prs dd) ≤ 2 ^ 13; omega)
      · by_cases hj : jj < rs.length
        · rw [List.getElem?_append_left hj] at hr'
          exact rok jj s r' hs hr'
        · have ej : jj = rs.length := by
            have := (List.getElem?_eq_some_iff.mp hr').1
            rw [List.length_append] at this
            have h1 : [r.set i (q1 + (wsum (prs dd) : Rat))].length = 1 := rfl
            omega
          subst ej
          rw [List.getElem?_append_right (Nat.le_refl _), Nat.sub_self] at hr'
          cases hr'
          rw [rl, hs0] at hs
          cases hs
          exact PT.own so ix0 hq1 fun b eb => by
            rw [ea0] at eb
            cases eb
            exact out
  · rintro σ H4 ⟨⟨x1, x2, x3, x4, x5, x6, rfl⟩, s4, rws, rs, eRw, aR, rl, rlen, rsz, rok⟩
    have s24 := s23.trans s4
    have S : LC.Sys (hsOf n l) g (pk p) far os rs := ⟨fo, ond, om, ⟨by rw [rl, ol], rlen⟩, rok⟩
    have tr := LC.sys_triv S pok.ok.at_ (hs_ok ok)
    refine ⟨_, rfl, _, rfl, .ref Rw, os.length, rs, rfl, ⟨Rw, rws, rfl, eRw, aR.imp fun x y z => z.1⟩, S.sh, N5, tr, rsz, fun H5 a5 us q s5 e5 aq ql sol qz => ?_⟩
    have ul : us.length = os.length := aq.1.trans ql
    refine ⟨O, a5, (os.map keyN).zip us, rfl, ?_, ?_, fun pf hpf => ?_⟩
    · have e1 : (((os.map keyN).zip us).map fun kv => kV kv.1) = intV os := by
        have : (((os.map keyN).zip us).map fun kv => kV kv.1) = (((os.map keyN).zip us).map (·.1)).map kV := by rw [List.map_map]; rfl
        rw [this, zip_fst os us ul, List.map_map]
        rfl
      rw [e1]
      exact SO (s4.trans s5)
    · rw [zip_snd os us ul]
      exact .inl (.inl e5)
    have fg : ∀ t, valV (mergeK [] ((os.map keyN).zip us)) (keyN t) = valV ((os.map keyN).zip us) (keyN t) := fun t => by
      rw [merge_get _ _ _ (by rw [zip_fst os us ul]; exact List.pairwise_map.mpr (ond.imp fun h e => h (keyN_inj e)))]
      cases valV ((os.map keyN).zip us) (keyN t) <;> rfl
    generalize mergeK [] ((os.map keyN).zip us) = FD at fg
    have s6 := (s24.trans s5).trans (same_upd (o := .dK FD) hpf)
    have s36 := (s4.trans s5).trans (same_upd (o := .dK FD) hpf)
    have s56 := same_upd (o := .dK FD) hpf
    have e6 : upd H5 pf (.dK FD) pf = some (.dK FD) := upd_same
    generalize upd H5 pf (.dK FD) = H6 at s6 s36 s56 e6
    obtain ⟨xh, dxh, mh, vah, vsh, lkh, voh, rfl, eh, hh1, hh2, hh3⟩ := id hv
    refine ⟨_, rfl, xh, _, dxh, _, _, rfl, s6 _ _ eh, T.cl_House, T.na_House_states, rfl, (n : Int), rfl, by omega, by omega, fun To hTo => ?_⟩
    rw [Int.toNat_natCast]
    have xN : solV os.length q os.length = -1 := by unfold solV; rw [if_neg (by omega), if_pos rfl]; grind
    refine lcm walk_range hTo (Nat.le_trans n6 (by decide)) (fun _ => true) (fun i y H1 => IsR K H1 y (LC.X os far (solV os.length q) i)) (fun i y H1 H2 s z => z.n s) (fun H1 s => trivial) (fun i x H8 H1 kN' kY hi s y kn ky => ?_) (fun H7 ys s7 e7 kp => ?_)
    · obtain ⟨rfl, ex⟩ := y
      obtain rfl : x = V.int ((i : Nat) : Int) := ex.trans (congrArg V.int (Int.zero_add _))
      have s68 := s6.trans s
      have ef8 := (s36.trans s) _ _ ef3
      refine ⟨rfl, yes ⟨_, rfl, D, rfl, .inl ⟨fk, .inl ef8⟩, _, rfl, _, .inl ⟨fk, keyN i, .inl ef8, rfl, rfl⟩, ?_⟩⟩
      rw [fd i]
      cases ef : far i with
      | none =>
        refine ⟨rfl, false, rfl, iteF ?_⟩
        have no : i ∉ os := fun z => by obtain ⟨m, e⟩ := (om i).mp z; rw [ef] at e; cases e
        refine ⟨_, rfl, pf, rfl, .inl ⟨FD, .inl (s _ _ e6)⟩, _, rfl, fun x dx hx hdx ne => mR1 hx hdx ne fun H9 s9 hz => ⟨rfl, ?_⟩⟩
        refine ⟨none, .inl ⟨FD, keyN i, .inl ((s.trans s9) _ _ e6), rfl, by rw [fg i, zip_none no]⟩, ky _ _ s9 rfl ?_⟩
        have e : LC.X os far (solV os.length q) i = 0 := by unfold LC.X; rw [if_neg no, if_neg (by rw [ef]; simp)]
        rw [e]
        exact hz
      | some m =>
        cases m with
        | zero =>
          refine ⟨rfl, true, by rfl, iteT ?_⟩
          obtain ⟨ig, _⟩ := (fo.f0 i).mp ef
          obtain ⟨uw, hw1, hw2⟩ := ew i ig
          have no : i ∉ os := fun z => by obtain ⟨m, e⟩ := (om i).mp z; rw [ef] at e; cases e
          refine ⟨_, rfl, _, rfl, d, uw, rfl, .inl ⟨kvs, keyN i, .inl (s68 _ _ ed), rfl, hw1.symm⟩, ky _ _ (Same.refl _) rfl ?_⟩
          have e : LC.X os far (solV os.length q) i = 1 := by unfold LC.X; rw [if_neg no, if_pos (by rw [ef]; simp), xN]; grind
          rw [e]
          exact hw2.n (same_n s68)
        | succ m =>
          refine ⟨rfl, false, ?_, iteF ?_⟩
          · show V.bl (decide (V.int ((m + 1 : Nat) : Int) = V.int 0)) = V.bl false
            rw [decide_eq_false (fun e => by have := V.int.inj e; omega)]
          have io : i ∈ os := (om i).mpr ⟨m, ef⟩
          have il : os.idxOf i < os.length := List.idxOf_lt_length_of_mem io
          have ie : os[os.idxOf i]? = some i := by rw [List.getElem?_eq_getElem il, List.getElem_idxOf il]
          obtain ⟨g1, hg1⟩ : ∃ g1, q[os.idxOf i]? = some g1 := ⟨_, List.getElem?_eq_getElem (by omega)⟩
          obtain ⟨y1, hy1, ry1⟩ := aq.get hg1
          refine ⟨_, rfl, pf, rfl, .inl ⟨FD, .inl (s _ _ e6)⟩, _, rfl, fun x dx hx hdx ne => mR1 hx hdx ne fun H9 s9 hz => ⟨rfl, ?_⟩⟩
          refine ⟨some y1, .inl ⟨FD, keyN i, .inl ((s.trans s9) _ _ e6), rfl, by rw [fg i, zip_get os us _ i ond ie ul, hy1]⟩, ky _ _ s9 rfl ?_⟩
          have e : LC.X os far (solV os.length q) i = g1 := by
            unfold LC.X solV numN
            rw [if_pos io, if_pos il, if_neg (by omega), hg1, Rat.add_zero]
            rfl
          rw [e]
          exact ry1.n (same_n (s56.trans (s.trans s9)))
    · obtain ⟨l1, l2⟩ := kp.all
      have tl : ((List.range n).map fun i => LC.X os far (solV os.length q) i).length = n := by simp
      have nv : ∀ t, numN ((List.range n).map fun i => LC.X os far (solV os.length q) i) t = LC.X os far (solV os.length q) t := fun t => by
        unfold numN
        by_cases ht : t < n
        · rw [List.getElem?_map, List.getElem?_range ht]
          rfl
        · rw [List.getElem?_eq_none (by rw [tl]; omega)]
          have no : t ∉ os := fun z => ht (osn t z)
          have nf : far t = none := by
            cases e : far t with
            | none => rfl
            | some m => exact absurd (fo.lt t (by rw [e]; simp)) ht
          unfold LC.X
          rw [if_neg no, if_neg (by rw [nf]; simp)]
          rfl
      have aT : All2 (IsR K H7) ys ((List.range n).map fun i => LC.X os far (solV os.length q) i) := all2_of (by rw [l1, tl]) fun i y hy => by
        have hi : i < n := by have := (List.getElem?_eq_some_iff.mp hy).1; omega
        exact ⟨_, by rw [List.getElem?_map, List.getElem?_range hi]; rfl, l2 i y hy⟩
      refine ⟨_, rfl, _, rfl, by show 2 ≤ sizeLine; decide, fun t ht => ?_⟩
      have s8 := s7.trans (same_upd (o := .tup [.ref To, .ref D]) ht)
      refine k _ t To _ D fk far (s6.trans s8) upd_same ⟨To, ys, rfl, same_upd ht _ _ e7, aT.imp fun x y z => z.n (sameN_new ht)⟩ tl ((s36.trans s8) _ _ ef3) kok fd (LC.sys_had S pok.ok (hs_ok ok) xN sol nv) fun x hx => ?_
      obtain ⟨i, hi, rfl⟩ := List.mem_map.mp hx
      unfold LC.X
      split
      · rename_i io
        have il : os.idxOf i < os.length := List.idxOf_lt_length_of_mem io
        unfold solV numN
        rw [if_pos il, if_neg (by omega), List.getElem?_eq_getElem (by omega), Rat.add_zero]
        exact qz _ (List.getElem_mem _)
      · split
        · rw [xN]
          rw [show -(-1 : Rat) = ((1 : Int) : Rat) by grind]
          exact (LC.sz_int (i := 1) (t := 0) (by decide)).mono (by omega) (by omega)
        · exact LC.sz_zero _ _
end
end Lc
set_option Elab.async false
set_option linter.all false
set_option maxRecDepth 100000
set_option maxHeartbeats 4000000
namespace Lc
open PySem PySem.Spec PyProof.Rows L2 LcR
section
variable {X : Cx}
/-- == of two lists of flat things, of one length -/
def rEqFlat (K : PySem.W.Frag) : R2 := fun x y H Q => ∃ a b xs ys, x = .ref a ∧ y = .ref b ∧ SqL K H a xs ∧ SqL K H b ys ∧ xs.length = ys.length ∧ xs.all flatV = true ∧ ys.all flatV = true ∧
  Q (.bl ((List.range xs.length).all fun j => eqV (xs.getD j .non) (ys.getD j .non))) H
theorem op_eqFlat (hu : X.A.units < cLine) : OpR X (compareOp .Eq) (rEqFlat X.K) := by
  intro pins s σ H x y v u Q I rx ry h
  obtain ⟨a, b, xs, ys, rfl, rfl, ha, hb, hl, fx, fy, q⟩ := h
  cases rx
  cases ry
  obtain ⟨us, r1, p1, _⟩ := I.list ha
  obtain ⟨ws, r2, p2, _⟩ := I.list hb
  have hsz : us.toArray.size = ws.toArray.size := by
    rw [List.size_toArray, List.size_toArray, ← r1.length, ← r2.length, hl]
  show wpAny (model X.prog X.w) X.A (richCompare .Eq (.ref a) (.ref b)) (EP X pins σ Q) X.xe s
  refine SeqAt.rcP_lists (e := fun j => eqV (xs.getD j .non) (ys.getD j .non)) p1.isList p2.isList hsz hu (fun j h1 h2 => ?_) X.xe _ ?_
  · have k1 : j < us.length := by simpa using h1
    have k2 : j < ws.length := by simpa using h2
    have k3 : j < xs.length := by rw [r1.length]; exact k1
    have k4 : j < ys.length := by rw [r2.length]; exact k2
    obtain ⟨u1, hu1, g1⟩ := r1.get (List.getElem?_eq_getElem k3)
    obtain ⟨u2, hu2, g2⟩ := r2.get (List.getElem?_eq_getElem k4)
    rw [List.getElem?_eq_getElem k1] at hu1
    rw [List.getElem?_eq_getElem k2] at hu2
    cases hu1
    cases hu2
    rw [List.getD_eq_getElem?_getD, List.getD_eq_getElem?_getD, List.getElem?_eq_getElem k3, List.getElem?_eq_getElem k4]
    have := eqAt_V (A := X.A.in1) (s := s) g1 g2 (List.all_eq_true.mp fx _ (List.getElem_mem k3)) (List.all_eq_true.mp fy _ (List.getElem_mem k4))
    simpa using this.eqP
  · rw [List.size_toArray, ← r1.length]
    exact ⟨.bl _, H, I, rfl, q⟩
end
theorem eqV_pick (a b : Option Nat) : eqV (pickV a) (pickV b) = decide (a = b) := by
  cases a <;> cases b <;> simp [pickV, eqV]
  rename_i x y
  rw [Bool.eq_iff_iff]
  simp
  omega
theorem flat_picks (p : List (Option Nat)) : (p.map pickV).all flatV = true := by
  rw [List.all_eq_true]
  intro x hx
  obtain ⟨t, _, rfl⟩ := List.mem_map.mp hx
  cases t <;> rfl
theorem eq_picks {p q : List (Option Nat)} (h : p.length = q.length) : ((List.range (p.map pickV).length).all fun j => eqV ((p.map pickV).getD j .non) ((q.map pickV).getD j .non)) = decide (p = q) := by
  rw [Bool.eq_iff_iff, List.all_eq_true, decide_eq_true_iff]
  have key : ∀ j, j < p.length → eqV ((p.map pickV).getD j .non) ((q.map pickV).getD j .non) = decide (p[j]? = q[j]?) := fun j hj => by
    rw [List.getD_eq_getElem?_getD, List.getD_eq_getElem?_getD, List.getElem?_map, List.getElem?_map, List.getElem?_eq_getElem hj, List.getElem?_eq_getElem (by omega : j < q.length)]
    show eqV (pickV p[j]) (pickV q[j]) = _
    rw [eqV_pick]
    simp
  constructor
  · intro z
    apply List.ext_getElem?
    intro j
    by_cases hj : j < p.length
    · have := z j (List.mem_range.mpr (by simpa using hj))
      rw [key j hj] at this
      exact of_decide_eq_true this
    · rw [List.getElem?_eq_none (by omega), List.getElem?_eq_none (by omega)]
  · rintro rfl j hj
    rw [key j (by simpa using List.mem_range.mp hj)]
    simp
end Lc
set_option Elab.async false
set_option linter.all false
set_option maxRecDepth 100000
set_option maxHeartbeats 4000000
namespace Lc
open PySem PySem.Spec PyProof.Rows L2 LcR
theorem pk_set {p : List (Option Nat)} {s0 : Nat} {x : Option Nat} (h : s0 < p.length) (s : Nat) : pk (p.set s0 x) s = if s = s0 then x else pk p s := by
  unfold pk
  by_cases e : s = s0
  · subst e
    rw [List.getElem?_set_self h, if_pos rfl]
    rfl
  · rw [List.getElem?_set_ne (Ne.symm e), if_neg e]
/-! ### what it comes to, turn by turn -/
open Classical in
noncomputable def firstStep (l : List ActD) (u : Nat) (st : List (Option Nat) × List Nat × List Nat) (a : Nat) : List (Option Nat) × List Nat × List Nat :=
  match l[a]? with
  | some d => if d.1 ∉ st.2.1 ∧ u ∈ (prs d).map (·.1) then (st.1.set d.1 (some a), st.2.1 ++ [d.1], st.2.2 ++ [d.1]) else st
  | none => st
inductive FirstRun (l : List ActD) : List (Option Nat) × List Nat × List Nat → List (Option Nat) → Prop where
  | nil {p : List (Option Nat)} {kn : List Nat} : FirstRun l (p, kn, []) p
  | cons {p f : List (Option Nat)} {kn r : List Nat} {u : Nat} : FirstRun l ((List.range l.length).foldl (firstStep l u) (p, kn, r)) f → FirstRun l (p, kn, u :: r) f
theorem FirstRun.det {l : List ActD} {st : List (Option Nat) × List Nat × List Nat} {f1 f2 : List (Option Nat)} (h1 : FirstRun l st f1) (h2 : FirstRun l st f2) : f1 = f2 := by
  induction h1 with
  | nil => cases h2; rfl
  | cons _ ih => cases h2 with | cons h => exact ih h
theorem firstStep_no {l : List ActD} {u a : Nat} {d : ActD} {p : List (Option Nat)} {kn ls : List Nat} (hd : l[a]? = some d) (h : ¬ (d.1 ∉ kn ∧ u ∈ (prs d).map (·.1))) : firstStep l u (p, kn, ls) a = (p, kn, ls) := by
  unfold firstStep
  rw [hd]
  exact if_neg h
theorem firstStep_yes {l : List ActD} {u a : Nat} {d : ActD} {p : List (Option Nat)} {kn ls : List Nat} (hd : l[a]? = some d) (h1 : d.1 ∉ kn) (h2 : u ∈ (prs d).map (·.1)) : firstStep l u (p, kn, ls) a = (p.set d.1 (some a), kn ++ [d.1], ls ++ [d.1]) := by
  unfold firstStep
  rw [hd]
  exact if_pos ⟨h1, h2⟩
section
variable {P : Program} {w : World} {K : PySem.W.Frag} {mg : Str → Option Value} {base : Heap}
def sp_first_picks (K : PySem.W.Frag) : Sp := fun vs H Q _ => ∃ (v : V) (n : Nat) (l : List ActD) (y : V) (g : List Nat), vs = [v, y] ∧ HouseV K H v n l ∧ OkActs n l ∧ WorthsV K H y g ∧ (∀ s ∈ g, s < n) ∧ g.Nodup ∧
  ∀ H' a p, Same H H' → H' a = some (.lst (p.map pickV)) → PkOk n l g p → FirstRun l (List.replicate n none, g, g) p → Q (.ref a) H'
theorem c_first_picks (T : Tx K mg) : C8.Cal P w K mg base 6 "first_picks" (sp_first_picks K) [] := by
  obtain ⟨fd, F⟩ := T.f_first_picks
  refine calD F T.g_first_picks sc_first_picks (fun _ _ _ _ _ _ us hl => match us, hl with | [_, _], _ => rfl) (fun vs H Q E h => ?_) (fun cdv A outer s H vs Q E hr h => ?_)
  · obtain ⟨_, _, _, _, _, rfl, _⟩ := h; rfl
  obtain ⟨v, n, l, y, g, rfl, hv, ok, ⟨d, kvs, rfl, ed, ek, ew⟩, gn, gd, k⟩ := h
  refine ⟨_, (pss_cons (ps_set (i := 2) sc_first_picks.nd rfl (Or.inl rfl) (pe_op op_rep (pe_lst (pa_cons pe_non pa_nil)) (pe_fld (pv 0) rfl)))
      (pss_cons (ps_par (i := 3) (j := 4) (by rfl) sc_first_picks.nd rfl rfl (by decide) rfl rfl (pa_cons (pe_callTy (call_listD rfl) (by rfl) T.b_list (by decide +kernel) (pa_cons (pv 1) pa_nil)) (pa_cons (pe_callTy (call_listD rfl) (by rfl) T.b_list (by decide +kernel) (pa_cons (pv 1) pa_nil)) pa_nil)) (by rfl))
      (pss_cons (ps_while PassesOwn.never (pt_cmpR (op_neNil hr.units0) (pv 4) (pe_lst pa_nil) (nomark _))
      (pss_cons (ps_set (i := 5) sc_first_picks.nd rfl (Or.inl rfl) (pe_bm PySem.F.plainAttrs_list PySem.F.slot_list_pop PySem.F.type_list_pop mt_popAt (pv 4) (pa_cons pe_int pa_nil)))
      (pss_one (ps_for PassesOwn.never rfl (pi_range1 (by rfl) T.b_range (pa_cons (pe_callB call_len (by rfl) T.b_len (by decide +kernel) (pa_cons (pe_fld (pv 0) rfl) pa_nil)) pa_nil)) (pg_name (i := 6) sc_first_picks.nd rfl (Or.inl rfl))
      (pss_cons (ps_set (i := 7) sc_first_picks.nd rfl (Or.inl rfl) (pe_fld (pe_ix ix_tup (pe_fld (pv 0) rfl) (pe_ix ix_tup (C8.pe_mt (m_steps_of T) hr (by decide) (pv 0) (pa_cons (pv 6) pa_nil)) pe_int (fun _ _ => rfl)) (fun _ _ => rfl)) rfl))
      (pss_one (ps_if (PW.pt (pw_and (pt_cmpR op_notIn_seq (pv 7) (pv 3) (by rfl)) (pw_and1 (pt_cmpR op_in_seq (pv 5) (pe_lc (own := [("target", 8), ("odds", 9)]) (g := gTup K 2 (gCons (gName 8) (gCons (gName 9) (gNil)))) (by rfl) sc_first_picks.nd (pi_list (C8.pe_c (c_targets_of T) hr (by decide) (by rfl) (pa_cons (pv 0) (pa_cons (pv 6) pa_nil)))) (blkOk_by (own := [("target", 8), ("odds", 9)]) (N := N_first_picks) (sc := defScope s_first_picks) (by decide +kernel)) (fun _ _ _ _ _ => (pg_tup rfl (pgs_cons (pg_name (i := 8) sc_first_picks.nd rfl (Or.inl rfl)) (pgs_cons (pg_name (i := 9) sc_first_picks.nd rfl (Or.inl rfl)) pgs_nil)))) (fun _ _ _ _ _ => pts_nil) (fun _ _ _ _ _ => (pv 8))) (by rfl))))) (pss_cons (ps_asg (pv 6) (pg_sub (pv 2) (pv 7) set_list))
      (pss_cons (ps_expr (pe_bm PySem.F.plainAttrs_list PySem.F.slot_list_append PySem.F.type_list_append mt_append (pv 3) (pa_cons (pv 7) pa_nil)))
      (pss_one (ps_expr (pe_bm PySem.F.plainAttrs_list PySem.F.slot_list_append PySem.F.type_list_append mt_append (pv 4) (pa_cons (pv 7) pa_nil)))))) pss_nil)))))))
      (pss_one (ps_ret (pv 2)))))), ?_⟩
  obtain ⟨xh, dxh, mh, vah, vsh, lkh, voh, rfl, eh, ⟨aa, us, rfl, ea, al⟩, ⟨ps, ss, rfl, es, as⟩, hh3⟩ := id hv
  have n2 := ok.n2
  have ul : us.length = l.length := al.1
  have ll := ok.len
  refine ⟨by show 1 ≤ sizeLine; decide, fun Z hZ => ?_⟩
  have s1 := same_upd (o := .lst [.non]) hZ
  refine ⟨_, rfl, xh, _, dxh, _, _, rfl, s1 _ _ eh, T.cl_House, T.na_House_states, rfl, Z, (n : Int), [.non], rfl, rfl, upd_same, by omega, by omega, ?_, fun Pk hPk => ?_⟩
  · rw [Int.toNat_natCast]
    exact Nat.le_trans (by simp; omega : [V.non].length * n ≤ 10) (by decide)
  rw [Int.toNat_natCast]
  have fl : (List.replicate n [V.non]).flatten = (List.replicate n (none : Option Nat)).map pickV := by simp [pickV]
  rw [fl]
  have s2 := s1.trans (same_upd (o := .lst ((List.replicate n (none : Option Nat)).map pickV)) hPk)
  have eP : upd (upd H Z (.lst [.non])) Pk (.lst ((List.replicate n (none : Option Nat)).map pickV)) Pk = some (.lst ((List.replicate n (none : Option Nat)).map pickV)) := upd_same
  have hPkH : H Pk = none := none_back s1 hPk
  generalize upd (upd H Z (.lst [.non])) Pk (.lst ((List.replicate n (none : Option Nat)).map pickV)) = H2 at s2 eP
  have ev : (kvs.map fun kv => kV kv.1) = intV g := by
    have : (kvs.map fun kv => kV kv.1) = (kvs.map (·.1)).map kV := by rw [List.map_map]; rfl
    rw [this, ek, List.map_map]
    rfl
  refine ⟨_, rfl, d, kvs, rfl, .inl (s2 _ _ ed), fun Kn hKn => ?_⟩
  rw [ev]
  have s3 := s2.trans (same_upd (o := .lst (intV g)) hKn)
  have nPK : Pk ≠ Kn := fun z => by subst z; rw [eP] at hKn; cases hKn
  refine ⟨_, rfl, d, kvs, rfl, .inl (s3 _ _ ed), fun L hL => ?_⟩
  rw [ev]
  have s4 := s3.trans (same_upd (o := .lst (intV g)) hL)
  have nKL : Kn ≠ L := fun z => by subst z; rw [upd_same] at hL; cases hL
  have nPL : Pk ≠ L := fun z => by subst z; rw [upd_ne nPK, eP] at hL; cases hL
  have hKnH : H Kn = none := none_back s2 hKn
  have hLH : H L = none := none_back s3 hL
  have eP4 : upd (upd H2 Kn (.lst (intV g))) L (.lst (intV g)) Pk = some (.lst ((List.replicate n (none : Option Nat)).map pickV)) := by rw [upd_ne nPL, upd_ne nPK]; exact eP
  have eK4 : upd (upd H2 Kn (.lst (intV g))) L (.lst (intV g)) Kn = some (.lst (intV g)) := by rw [upd_ne nKL]; exact upd_same
  have eL4 : upd (upd H2 Kn (.lst (intV g))) L (.lst (intV g)) L = some (.lst (intV g)) := upd_same
  generalize upd (upd H2 Kn (.lst (intV g))) L (.lst (intV g)) = H4 at s4 eP4 eK4 eL4
  refine ⟨_, _, rfl, ?_⟩
  have pk0 : ∀ s, pk (List.replicate n none) s = none := fun s => by
    unfold pk
    cases e : (List.replicate n (none : Option Nat))[s]? with
    | none => rfl
    | some x =>
      rw [(List.mem_replicate.mp (List.mem_of_getElem? e)).2]
      rfl
  refine ⟨fun m σ H6 => (∃ x1 x2 x3, σ = [some (.ref xh), some (.ref d), some (.ref Pk), some (.ref Kn), some (.ref L), x1, x2, x3, none, none]) ∧ ∃ p kn ls, Same H H6 ∧ H6 Pk = some (.lst (p.map pickV)) ∧ H6 Kn = some (.lst (intV kn)) ∧ H6 L = some (.lst (intV ls)) ∧ PkOk n l g p ∧ kn.Nodup ∧ (∀ s ∈ kn, s < n) ∧ (∀ s ∈ g, s ∈ kn) ∧ (∀ f, FirstRun l (p, kn, ls) f → FirstRun l (List.replicate n none, g, g) f) ∧ m = 2 * (n - kn.length) + ls.length ∧ m ≤ 100,
    ⟨_, ⟨none, none, none, rfl⟩, _, g, g, s4, eP4, eK4, eL4, ⟨List.length_replicate, fun s a e => by (rw [pk0 s] at e; cases e), fun s _ => pk0 s⟩, gd, gn, fun _ h => h, fun _ h => h, rfl, ?_⟩, ?_⟩
  · have := nodup_len gd (m := List.range n) fun x hx => List.mem_range.mpr (gn x hx)
    rw [List.length_range] at this
    omega
  rintro m σ H6 ⟨⟨z1, z2, z3, rfl⟩, p, kn, ls, s6, eP6, eK6, eL6, pok, kd, kl, gk, R1, rfl, mb⟩
  refine ⟨_, rfl, Nat.zero_le _, fun Z2 hZ2 => ?_⟩
  have b1 : Pk ≠ Z2 := fun z => by subst z; rw [eP6] at hZ2; cases hZ2
  have b2 : Kn ≠ Z2 := fun z => by subst z; rw [eK6] at hZ2; cases hZ2
  have b3 : L ≠ Z2 := fun z => by subst z; rw [eL6] at hZ2; cases hZ2
  have s7 := s6.trans (same_upd (o := .lst []) hZ2)
  have eP7 : upd H6 Z2 (.lst []) Pk = some (.lst (p.map pickV)) := by rw [upd_ne b1]; exact eP6
  have eK7 : upd H6 Z2 (.lst []) Kn = some (.lst (intV kn)) := by rw [upd_ne b2]; exact eK6
  have eL7 : upd H6 Z2 (.lst []) L = some (.lst (intV ls)) := by rw [upd_ne b3]; exact eL6
  refine ⟨L, Z2, _, rfl, rfl, .inl (.inl eL7), .inl (.inl upd_same), _, rfl, ite2 (fun h0 => ?_) (fun h0 => ?_)⟩
  · generalize upd H6 Z2 (.lst []) = H7 at s7 eP7 eK7 eL7
    cases ls with
    | nil => cases h0
    | cons u r =>
    refine ⟨fun σ' H' => (∃ x1 x2 x3, σ' = [some (.ref xh), some (.ref d), some (.ref Pk), some (.ref Kn), some (.ref L), x1, x2, x3, none, none]) ∧ ∃ p kn' ls', Same H H' ∧ H' Pk = some (.lst (p.map pickV)) ∧ H' Kn = some (.lst (intV kn')) ∧ H' L = some (.lst (intV ls')) ∧ PkOk n l g p ∧ kn'.Nodup ∧ (∀ s ∈ kn', s < n) ∧ (∀ s ∈ g, s ∈ kn') ∧ (∀ f, FirstRun l (p, kn', ls') f → FirstRun l (List.replicate n none, g, g) f) ∧ 2 * (n - kn'.length) + ls'.length < 2 * (n - kn.length) + (u :: r).length,
      fun σ' H' ⟨a1, p', kn', ls', b1, b2, b3, b4, b5, b6, b7, b8, b8r, b9⟩ => ⟨_, b9, a1, p', kn', ls', b1, b2, b3, b4, b5, b6, b7, b8, b8r, rfl, by omega⟩, ?_⟩
    refine ⟨_, rfl, .inl ⟨rfl, _, .inl (.inl eL7)⟩, L, _, 0, 0, .int (u : Int), rfl, rfl, eL7, by decide, by decide, by simp [seqIndex?, intV], rfl, ?_⟩
    have s8 : Same H (upd H7 L (.lst ((intV (u :: r)).eraseIdx 0))) := same_at s7 hLH
    have eP8 : upd H7 L (.lst ((intV (u :: r)).eraseIdx 0)) Pk = some (.lst (p.map pickV)) := by rw [upd_ne nPL]; exact eP7
    have eK8 : upd H7 L (.lst ((intV (u :: r)).eraseIdx 0)) Kn = some (.lst (intV kn)) := by rw [upd_ne nKL]; exact eK7
    have eL8 : upd H7 L (.lst ((intV (u :: r)).eraseIdx 0)) L = some (.lst (intV r)) := by rw [upd_same]; rfl
    generalize upd H7 L (.lst ((intV (u :: r)).eraseIdx 0)) = H8 at s8 eP8 eK8 eL8
    refine ⟨_, rfl, xh, _, dxh, _, _, rfl, s8 _ _ eh, T.cl_House, T.na_House_acts, rfl, _, us.length, rfl, .inr ⟨us, .inl (.inl (s8 _ _ ea)), rfl⟩, (us.length : Int), rfl, by omega, by omega, ?_⟩
    rw [Int.toNat_natCast]
    refine for_it walk_range (fun i σ H9 => (∃ x2 x3, σ = [some (.ref xh), some (.ref d), some (.ref Pk), some (.ref Kn), some (.ref L), some (.int (u : Int)), x2, x3, none, none]) ∧ ∃ p kn' ls', Same H H9 ∧ H9 Pk = some (.lst (p.map pickV)) ∧ H9 Kn = some (.lst (intV kn')) ∧ H9 L = some (.lst (intV ls')) ∧ PkOk n l g p ∧ kn'.Nodup ∧ (∀ s ∈ kn', s < n) ∧ (∀ s ∈ g, s ∈ kn') ∧ (∀ f, FirstRun l (((List.range l.length).drop i).foldl (firstStep l u) (p, kn', ls')) f → FirstRun l (List.replicate n none, g, g) f) ∧ 2 * (n - kn'.length) + ls'.length ≤ 2 * (n - kn.length) + r.length)
      ⟨⟨z2, z3, rfl⟩, p, kn, r, s8, eP8, eK8, eL8, pok, kd, kl, gk, fun f hf => R1 f (.cons hf), Nat.le_refl _⟩ (fun i σ H2 _ p => trivial) ?_ ?_
    · rintro i x σ H9 H10 hi ⟨⟨y2, y3, rfl⟩, p, kn', ls', s9, eP9, eK9, eL9, pok, kd, kl, gk, R9, m9⟩ ⟨rfl, ex⟩
      obtain rfl : x = V.int ((i : Nat) : Int) := ex.trans (congrArg V.int (Int.zero_add _))
      obtain ⟨dd, hdd⟩ : ∃ dd, l[i]? = some dd := ⟨_, List.getElem?_eq_getElem (by omega)⟩
      have okd := ok.acts dd (List.mem_of_getElem? hdd)
      rw [drop_range (by omega : i < l.length)] at R9
      simp only [List.foldl_cons] at R9
      have Rno : ¬ (dd.1 ∉ kn' ∧ u ∈ (prs dd).map (·.1)) → ∀ f, FirstRun l (((List.range l.length).drop (i + 1)).foldl (firstStep l u) (p, kn', ls')) f → FirstRun l (List.replicate n none, g, g) f := fun hno => by
        rw [firstStep_no hdd hno] at R9
        exact R9
      have dl : 0 < dd.2.length := List.length_pos_iff.mpr okd.ne
      have d4 := okd.len
      have ho := List.getElem?_eq_getElem dl
      obtain ⟨uu, hu, yy, dyy, pw, rfl, eyy⟩ := as.get (flat_get hdd ho)
      refine ⟨_, rfl, xh, _, dxh, _, _, rfl, s9 _ _ eh, T.cl_House, T.na_House_steps, rfl, ?_⟩
      refine ⟨_, rfl, xh, dxh, _, rfl, s9 _ _ eh, rfl, _, rfl, .ref xh, n, l, i, dd, rfl, hv.n (same_n s9), hdd, fun q hq => ?_⟩
      refine ⟨q, _, 0, .int ((off l i : Nat) : Int), rfl, rfl, .inl (.inl hq), ?_, ?_⟩
      · refine atI_nat (j := 0) ?_
        unfold rgV
        rw [List.getElem?_map, List.getElem?_range (by omega)]
        simp
      refine ⟨ps, ss, _, .ref yy, rfl, rfl, .inl (.inl (s9 _ _ es)), atI_nat (by simpa using hu), ?_⟩
      refine ⟨yy, _, dyy, _, _, rfl, s9 _ _ eyy, T.cl_Step, T.na_Step_source, rfl, ?_⟩
      refine ⟨_, rfl, _, rfl, Kn, _, rfl, .inl (.inl (.inl eK9)), rfl, all_flat _, _, rfl, ite2 (fun h1 => ?_) (fun h1 => iteF ?_)⟩
      · refine ⟨_, rfl, _, rfl, _, rfl, .ref xh, n, l, i, dd, rfl, hv.n (same_n s9), ok, hdd, fun H11 pp us' s11 epp app => ?_⟩
        have ul' : us'.length = dd.2.length := app.1.trans (List.length_map _)
        refine ⟨pp, rfl, ⟨us', .inl (.inl epp)⟩, fun D3 hD3 => ?_⟩
        refine lcm walk_list hD3 (Nat.le_trans (by omega : us'.length ≤ 5) (by decide)) (fun _ => true) (fun j y _ => ∃ z, (prs dd)[j]? = some z ∧ y = V.int (z.1 : Int)) (fun _ _ _ _ _ h => h) (fun H1 s => .inl (.inl (s _ _ epp))) (fun j x H12 H1 kN' kY hj s y kn ky => ?_) (fun H12 ys s12 e12 kp => ?_)
        · obtain ⟨rfl, hx⟩ := y
          obtain ⟨z, hz, q, rfl, eq⟩ := app.get' hx
          exact ⟨q, _, rfl, .inl (.inl (s _ _ eq)), rfl, _, _, rfl, _, _, rfl, rfl, rfl, yes ⟨_, rfl, ky _ _ (Same.refl _) rfl ⟨z, hz, rfl⟩⟩⟩
        obtain ⟨l1, l2⟩ := kp.all
        have eys : ys = intV ((prs dd).map (·.1)) := by
          apply List.ext_getElem?
          intro j
          unfold intV
          rw [List.map_map, List.getElem?_map]
          by_cases hj : j < ys.length
          · obtain ⟨z, hz, e⟩ := l2 j _ (List.getElem?_eq_getElem hj)
            rw [List.getElem?_eq_getElem hj, hz, e]
            rfl
          · rw [List.getElem?_eq_none (by omega), List.getElem?_eq_none (by rw [← app.1]; omega)]
            rfl
        have sA := s9.trans (s11.trans s12)
        have ePA := (s11.trans s12) _ _ eP9
        have eKA := (s11.trans s12) _ _ eK9
        have eLA := (s11.trans s12) _ _ eL9
        refine ⟨D3, ys, rfl, .inl (.inl (.inl e12)), rfl, by rw [eys]; exact all_flat _, _, rfl, ite2 (fun h3 => ?_) (fun h3 => ?_)⟩
        · have h1 : (!inV (V.int (dd.1 : Int)) (intV kn')) = true := h1
          rw [inV_ints] at h1
          have nk : dd.1 ∉ kn' := by simpa using h1
          have dn : dd.1 < n := okd.s
          have pl := pok.len
          have kl5 := nodup_len (l := dd.1 :: kn') (m := List.range n) (List.nodup_cons.mpr ⟨nk, kd⟩) fun x hx => by
            rcases List.mem_cons.mp hx with rfl | hx
            · exact List.mem_range.mpr dn
            · exact List.mem_range.mpr (kl x hx)
          rw [List.length_range, List.length_cons] at kl5
          rw [List.length_cons] at mb
          refine ⟨_, rfl, _, rfl, _, rfl, Pk, _, (dd.1 : Int), dd.1, rfl, rfl, ePA, ix_nat (by rw [List.length_map]; omega), ?_⟩
          have sB : Same H (upd H12 Pk (.lst ((p.map pickV).set dd.1 (.int (i : Int))))) := same_at sA hPkH
          have ePB : upd H12 Pk (.lst ((p.map pickV).set dd.1 (.int (i : Int)))) Pk = some (.lst ((p.set dd.1 (some i)).map pickV)) := by rw [upd_same, List.map_set]; rfl
          have eKB : upd H12 Pk (.lst ((p.map pickV).set dd.1 (.int (i : Int)))) Kn = some (.lst (intV kn')) := by rw [upd_ne nPK.symm]; exact eKA
          have eLB : upd H12 Pk (.lst ((p.map pickV).set dd.1 (.int (i : Int)))) L = some (.lst (intV ls')) := by rw [upd_ne nPL.symm]; exact eLA
          generalize upd H12 Pk (.lst ((p.map pickV).set dd.1 (.int (i : Int)))) = HB at sB ePB eKB eLB
          refine ⟨_, rfl, .inl ⟨rfl, _, .inl (.inl eKB)⟩, _, rfl, Kn, _, _, rfl, rfl, eKB, Nat.lt_of_le_of_lt (by simp; omega : (intV kn').length ≤ 10) (by decide), ?_⟩
          have eLC : upd HB Kn (.lst (intV kn' ++ [.int (dd.1 : Int)])) L = some (.lst (intV ls')) := by rw [upd_ne nKL.symm]; exact eLB
          refine ⟨_, rfl, .inl ⟨rfl, _, .inl (.inl eLC)⟩, _, rfl, L, _, _, rfl, rfl, eLC, Nat.lt_of_le_of_lt (by simp; omega : (intV ls').length ≤ 100) (by decide), ?_⟩
          refine ⟨⟨_, _, rfl⟩, p.set dd.1 (some i), kn' ++ [dd.1], ls' ++ [dd.1], same_at (same_at sB hKnH) hLH, ?_, ?_, ?_, ⟨by rw [List.length_set]; exact pl, fun s a e => ?_, fun s hs => ?_⟩, ?_, fun s hs => ?_, fun s hs => List.mem_append_left _ (gk s hs), ?_, ?_⟩
          · rw [upd_ne nPL, upd_ne nPK]; exact ePB
          · rw [upd_ne nKL, upd_same]; unfold intV; rw [List.map_append]; rfl
          · rw [upd_same]; unfold intV; rw [List.map_append]; rfl
          · rw [pk_set (by omega)] at e
            by_cases q : s = dd.1
            · rw [if_pos q] at e
              cases e
              exact ⟨dd, hdd, q.symm⟩
            · rw [if_neg q] at e
              exact pok.at_ s a e
          · rw [pk_set (by omega), if_neg (fun z => nk (by rw [← z]; exact gk s hs))]
            exact pok.gn s hs
          · rw [List.nodup_append]
            exact ⟨kd, by simp, fun a ha b hb => by rw [List.mem_singleton.mp hb]; exact fun z => nk (by rw [← z]; exact ha)⟩
          · rcases List.mem_append.mp hs with z | z
            · exact kl s z
            · rw [List.mem_singleton.mp z]; exact dn
          · have h3 : inV (V.int (u : Int)) ys = true := h3
            rw [eys] at h3
            unfold intV at h3
            rw [inV_ints] at h3
            rw [firstStep_yes hdd nk (of_decide_eq_true h3)] at R9
            exact R9
          · simp only [List.length_append, List.length_cons, List.length_nil]
            omega
        · refine ⟨⟨_, _, rfl⟩, p, kn', ls', sA, ePA, eKA, eLA, pok, kd, kl, gk, Rno fun z => h3 ?_, m9⟩
          show inV (V.int (u : Int)) ys = true
          rw [eys]
          unfold intV
          rw [inV_ints]
          exact decide_eq_true z.2
      · refine ⟨⟨_, _, rfl⟩, p, kn', ls', s9, eP9, eK9, eL9, pok, kd, kl, gk, Rno fun z => h1 ?_, m9⟩
        show (!inV (V.int (dd.1 : Int)) (intV kn')) = true
        unfold intV
        rw [inV_ints]
        simpa using z.1
    · rintro σ H9 ⟨⟨y2, y3, rfl⟩, p, kn', ls', s9, eP9, eK9, eL9, pok, kd, kl, gk, R9, m9⟩
      rw [List.drop_of_length_le (by rw [List.length_range]; omega)] at R9
      exact ⟨⟨_, _, _, rfl⟩, p, kn', ls', s9, eP9, eK9, eL9, pok, kd, kl, gk, R9, by simp only [List.length_cons]; omega⟩
  · have e0 : ls = [] := by
      cases ls with
      | nil => rfl
      | cons a b => exact absurd rfl h0
    subst e0
    exact ⟨_, rfl, k _ Pk p s7 eP7 pok (R1 p .nil)⟩
end
end Lc
set_option Elab.async false
set_option linter.all false
set_option maxRecDepth 100000
set_option maxHeartbeats 4000000
namespace Lc
open PySem PySem.Spec PyProof.Rows L2 LcR
open LC (Sz mean psum wsum)
def pb : Nat → Nat × Nat
  | 0 => (0, 0)
  | i + 1 => (max ((pb i).1 + 1780) (1810 + (pb i).2) + 1, (pb i).2 + 1780)
theorem psum_sz {q : List Rat} (h : ∀ x ∈ q, Sz 1800 1780 x) {d : ActD} {n : Nat} (ok : OkAct n d) : ∀ i, Sz (pb i).1 (pb i).2 (psum (numN q) ((prs d).take i)) := by
  have nz : ∀ t, Sz 1800 1780 (numN q t) := fun t => by
    unfold numN
    cases e : q[t]? with
    | none => exact LC.sz_zero _ _
    | some x => exact h x (List.mem_of_getElem? e)
  intro i
  induction i with
  | zero => exact LC.sz_zero _ _
  | succ i ih =>
    by_cases hi : i < (prs d).length
    · have e : (prs d).take (i + 1) = (prs d).take i ++ [(prs d)[i]] := by rw [List.take_add_one, List.getElem?_eq_getElem hi]; rfl
      rw [e, psum_snoc]
      have od : (prs d)[i].2 ≤ 900 := by
        obtain ⟨o, ho, e⟩ := List.mem_map.mp (List.getElem_mem hi)
        have := (ok.outs o ho).o2
        rw [← e]
        exact this
      have so : Sz 10 0 (((prs d)[i].2 : Nat) : Rat) := LC.sz_int (i := (((prs d)[i].2 : Nat) : Int)) (by show (prs d)[i].2 ≤ 2 ^ 10; omega)
      exact ih.add ((nz _).mul so)
    · rw [List.take_of_length_le (by omega)] at ih ⊢
      exact ih.mono (by show _ ≤ max _ _ + 1; omega) (by show _ ≤ (pb i).2 + 1780; omega)
theorem pb_le : ∀ i, i ≤ 5 → (pb i).1 ≤ 8935 ∧ (pb i).2 ≤ 8900 := by decide
theorem pb_le3 : ∀ i, i ≤ 4 → (pb i).1 ≤ 7154 ∧ (pb i).2 ≤ 7120 := by decide
theorem meanOk_of {q : List Rat} (h : ∀ x ∈ q, Sz 1800 1780 x) {d : ActD} {n : Nat} (ok : OkAct n d) : MeanOk (numN q) (prs d) := by
  have pl : (prs d).length ≤ 5 := by have := ok.len; unfold prs; rw [List.length_map]; exact this
  refine ⟨fun i p hp => ?_, ?_⟩
  · have hi : i ≤ 4 := by have := (List.getElem?_eq_some_iff.mp hp).1; omega
    have b := pb_le3 i hi
    have nz : Sz 1800 1780 (numN q p.1) := by
      unfold numN
      cases e : q[p.1]? with
      | none => exact LC.sz_zero _ _
      | some x => exact h x (List.mem_of_getElem? e)
    exact ⟨_, _, 1800, 1780, psum_sz h ok i, nz, by omega, by omega⟩
  · have b := pb_le _ pl
    have := psum_sz h ok (prs d).length
    rw [List.take_length] at this
    exact ⟨_, _, this, by omega, by omega⟩
theorem mean_sz {q : List Rat} (h : ∀ x ∈ q, Sz 1800 1780 x) {d : ActD} {n : Nat} (ok : OkAct n d) : Sz 8935 8913 (mean (numN q) (prs d)) := by
  have pl : (prs d).length ≤ 5 := by have := ok.len; unfold prs; rw [List.length_map]; exact this
  have b := pb_le _ pl
  have h1 := psum_sz h ok (prs d).length
  rw [List.take_length] at h1
  have w4 := wsum_le ok 5
  rw [List.take_of_length_le pl] at w4
  have h2 : Sz 13 0 ((wsum (prs d) : Nat) : Rat) := LC.sz_int (i := ((wsum (prs d) : Nat) : Int)) (by show wsum (prs d) ≤ 2 ^ 13; omega)
  have wp := LC.wsumQ_pos (outsOk ok)
  exact (h1.div h2 (by grind)).mono (by omega) (by omega)
section
variable {P : Program} {w : World} {K : PySem.W.Frag} {mg : Str → Option Value} {base : Heap}
/-- what better_pick finds -/
def Bet (l : List ActD) (q : List Rat) (s : Nat) (x0 x : Option Nat) : Prop :=
  (x = x0 ∧ ∀ (a : Nat) (d : ActD), l[a]? = some d → d.1 = s → mean (numN q) (prs d) ≤ numN q s) ∨ ∃ (a : Nat) (d : ActD), x = some a ∧ l[a]? = some d ∧ d.1 = s ∧ numN q s < mean (numN q) (prs d)
def betS (l : List ActD) (q : List Rat) (st : Rat × Option Nat) (a : Nat) : Rat × Option Nat := match l[a]? with
  | some d => if st.1 < mean (numN q) (prs d) then (mean (numN q) (prs d), some a) else st
  | none => st
def betF (l : List ActD) (q : List Rat) (s : Nat) (x0 : Option Nat) : Option Nat := ((actsAt l s).foldl (betS l q) (numN q s, x0)).2
theorem bet_snoc {l : List ActD} {q : List Rat} {as : List Nat} {i a : Nat} {d : ActD} {z : Rat × Option Nat} (h : as[i]? = some a) (hd : l[a]? = some d) : (as.take (i + 1)).foldl (betS l q) z = if ((as.take i).foldl (betS l q) z).1 < mean (numN q) (prs d) then (mean (numN q) (prs d), some a) else (as.take i).foldl (betS l q) z := by
  rw [List.take_add_one, h, List.foldl_append]
  show betS l q _ a = _
  unfold betS
  rw [hd]
def sp_better_pick (K : PySem.W.Frag) : Sp := fun vs H Q _ => ∃ (v : V) (n : Nat) (l : List ActD) (s : Nat) (x0 : Option Nat) (u : V) (q : List Rat) (y : V) (g : List Nat), vs = [v, .int (s : Int), pickV x0, u, y] ∧ HouseV K H v n l ∧ OkActs n l ∧ s < n ∧ NumsL K H u q ∧ q.length = n ∧ (∀ x ∈ q, Sz 1800 1780 x) ∧ WorthsV K H y g ∧ (s ∈ g → numN q s = 1) ∧
  ∀ x H', Same H H' → Bet l q s x0 x → x = betF l q s x0 → Q (pickV x) H'
theorem mem_actsAt {l : List ActD} {s a : Nat} : a ∈ actsAt l s ↔ ∃ d, l[a]? = some d ∧ d.1 = s := by
  unfold actsAt
  rw [List.mem_filter, List.mem_range]
  constructor
  · rintro ⟨h1, h2⟩
    have h2 := of_decide_eq_true h2
    rw [List.getElem?_eq_getElem h1] at h2
    exact ⟨l[a], List.getElem?_eq_getElem h1, by simpa using h2⟩
  · rintro ⟨d, h1, h2⟩
    exact ⟨(List.getElem?_eq_some_iff.mp h1).1, decide_eq_true (by rw [h1]; simp [h2])⟩
theorem c_better_pick (T : Tx K mg) : C8.Cal P w K mg base 7 "better_pick" (sp_better_pick K) [] := by
  obtain ⟨fd, F⟩ := T.f_better_pick
  refine calD F T.g_better_pick sc_better_pick (fun _ _ _ _ _ _ us hl => match us, hl with | [_, _, _, _, _], _ => rfl) (fun vs H Q E h => ?_) (fun cdv A outer s H vs Q E hr h => ?_)
  · obtain ⟨_, _, _, _, _, _, _, _, _, rfl, _⟩ := h; rfl
  obtain ⟨v, n, l, st, x0, u, q, y, g, rfl, hv, ok, sn, hu, ql, qz, hy, g1, k⟩ := h
  refine ⟨_, (pss_cons (ps_par (i := 5) (j := 6) (by rfl) sc_better_pick.nd rfl rfl (by decide) rfl rfl (pa_cons (pe_ix ix_list (pv 3) (pv 1) (fun _ _ => rfl)) (pa_cons (pv 2) pa_nil)) (by rfl))
      (pss_cons (ps_if (PW.pt (pw_and (pt_cmp (pc_din (hu1 hr) (pv 1) (pv 4))) (pw_and1 (pt_val (C8.pe_mt (m_is_below T) hr (by decide) (pv 5) (pa_cons (pe_dget (hu1 hr) (pv 4) (pv 1) (fun _ _ => rfl)) pa_nil)))))) (pss_one (ps_par (i := 5) (j := 6) (by rfl) sc_better_pick.nd rfl rfl (by decide) rfl rfl (pa_cons (pe_dget (hu1 hr) (pv 4) (pv 1) (fun _ _ => rfl)) (pa_cons pe_non pa_nil)) (by rfl))) pss_nil)
      (pss_cons (ps_for PassesOwn.never rfl (pi_tup (C8.pe_mt (m_acts_at T) hr (by decide) (pv 0) (pa_cons (pv 1) pa_nil))) (pg_name (i := 7) sc_better_pick.nd rfl (Or.inl rfl))
      (pss_cons (ps_set (i := 8) sc_better_pick.nd rfl (Or.inl rfl) (C8.pe_c (c_mean_at T) hr (by decide) (by rfl) (pa_cons (pv 0) (pa_cons (pv 7) (pa_cons (pv 3) pa_nil)))))
      (pss_one (ps_if (pt_val (C8.pe_mt (m_is_below T) hr (by decide) (pv 5) (pa_cons (pv 8) pa_nil))) (pss_one (ps_par (i := 5) (j := 6) (by rfl) sc_better_pick.nd rfl rfl (by decide) rfl rfl (pa_cons (pv 8) (pa_cons (pv 7) pa_nil)) (by rfl))) pss_nil))))
      (pss_one (ps_ret (pv 6)))))), ?_⟩
  obtain ⟨au, us, rfl, eu, aq⟩ := id hu
  obtain ⟨d, kvs, rfl, ed, ek, ew⟩ := id hy
  obtain ⟨q0, hq0⟩ : ∃ q0, q[st]? = some q0 := ⟨_, List.getElem?_eq_getElem (by omega)⟩
  have e0 : numN q st = q0 := by unfold numN; rw [hq0]; rfl
  have z0 := qz q0 (List.mem_of_getElem? hq0)
  obtain ⟨y0, hy0, ry0⟩ := aq.get hq0
  refine ⟨_, rfl, _, rfl, au, us, _, y0, rfl, rfl, .inl (.inl eu), atI_nat hy0, ?_⟩
  refine ⟨_, rfl, ?_⟩
  refine ⟨_, _, rfl, ?_⟩
  refine ⟨_, rfl, _, rfl, d, _, rfl, .inl ⟨kvs, keyN st, .inl ed, rfl, rfl⟩, _, rfl, ?_⟩
  obtain ⟨xh, dxh, mh, vah, vsh, lkh, voh, rfl, eh, hh1, hh2, hh3⟩ := id hv
  -- the loop
  have loop : ∀ D : Ends, (∀ σ H2 b, (∃ z0 z1 z2 x, σ = [some (.ref xh), some (.int (st : Int)), z0, some (.ref au), some (.ref d), some b, some (pickV x), z1, z2] ∧ Bet l q st x0 x ∧ x = betF l q st x0) → Same H H2 → D.nx σ H2) →
      tFor (iTup K (tMeth (CHouse K) "acts_at" (sp_acts_at K) [] C8.E0 (tVar 0) (tCons (tVar 1) tNil))) (gName 7) (tSeq (tAsg (tCall (sp_mean_at K) [] C8.E0 (tCons (tVar 0) (tCons (tVar 7) (tCons (tVar 3) tNil)))) (gName 8))
        (tIfS (tTest (tMeth (CRatio K) "is_below" (sp_is_below K) [] C8.E0 (tVar 5) (tCons (tVar 8) tNil))) (tPar 5 6 (tCons (tVar 8) (tCons (tVar 7) tNil))) tNext)) D [some (.ref xh), some (.int (st : Int)), some (pickV x0), some (.ref au), some (.ref d), some y0, some (pickV x0), none, none] H := by
    intro D hD
    refine ⟨_, rfl, xh, dxh, _, rfl, eh, rfl, _, rfl, .ref xh, n, l, st, rfl, hv, ok, sn, fun H1 pa s1 epa => ?_⟩
    refine ⟨pa, rfl, ⟨_, .inl (.inl epa)⟩, ?_⟩
    refine for_it walk_tup (fun i σ H2 => (∃ b x z1 z2 bq, σ = [some (.ref xh), some (.int (st : Int)), some (pickV x0), some (.ref au), some (.ref d), some b, some (pickV x), z1, z2] ∧ IsR K H2 b bq ∧ Sz 8935 8913 bq ∧ ((x = x0 ∧ bq = q0 ∧ ∀ (j a : Nat) (dd : ActD), j < i → (actsAt l st)[j]? = some a → l[a]? = some dd → mean (numN q) (prs dd) ≤ q0) ∨ ∃ (a : Nat) (dd : ActD), x = some a ∧ l[a]? = some dd ∧ dd.1 = st ∧ bq = mean (numN q) (prs dd) ∧ q0 < bq) ∧ ((actsAt l st).take i).foldl (betS l q) (q0, x0) = (bq, x)) ∧ Same H1 H2)
      ⟨⟨y0, x0, none, none, q0, rfl, ry0.n (same_n s1), z0.mono (by omega) (by omega), .inl ⟨rfl, rfl, fun j a dd hj => absurd hj (Nat.not_lt_zero _)⟩, rfl⟩, Same.refl _⟩ (fun i σ H2 _ p => .inl (.inl (p.2 _ _ epa))) ?_ ?_
    · rintro i x' σ H2 H3 hi ⟨⟨b, x, z1, z2, bq, rfl, rb, zb, hx, hF⟩, s2⟩ ⟨rfl, hx'⟩
      rw [List.getElem?_map] at hx'
      obtain ⟨a, ha, rfl⟩ := Option.map_eq_some_iff.mp hx'
      obtain ⟨dd, hdd, hds⟩ := mem_actsAt.mp (List.mem_of_getElem? ha)
      have okd := ok.acts dd (List.mem_of_getElem? hdd)
      have s12 := s1.trans s2
      have hF1 := bet_snoc (q := q) (z := (q0, x0)) ha hdd
      rw [hF] at hF1
      refine ⟨_, rfl, _, rfl, _, rfl, .ref xh, n, l, a, dd, .ref au, q, rfl, hv.n (same_n s12), ok, hdd, (hu.s s12).toS, ql, meanOk_of qz okd, fun H4 ym s4 rm => ?_⟩
      have zm := mean_sz qz okd
      obtain ⟨bx, bdx, rfl, ebx⟩ := (rb.n (same_n s4))
      refine ⟨_, rfl, bx, bdx, _, rfl, ebx, rfl, _, rfl, _, _, bq, mean (numN q) (prs dd), _, _, _, _, rfl, rb.n (same_n s4), .inl rm, zb, zm, by omega, _, rfl, ite2 (fun h0 => ?_) (fun h0 => ?_)⟩
      · have h0 := of_decide_eq_true h0
        refine ⟨_, rfl, _, rfl, _, _, rfl, ⟨ym, some a, _, _, mean (numN q) (prs dd), rfl, rm, zm, .inr ⟨a, dd, rfl, hdd, hds, rfl, ?_⟩, by rw [hF1, if_pos h0]⟩, s2.trans s4⟩
        rcases hx with ⟨_, e, _⟩ | ⟨_, _, _, _, _, _, e⟩
        · rw [← e]; exact h0
        · grind
      · have h0 : ¬ bq < mean (numN q) (prs dd) := fun z => h0 (decide_eq_true z)
        refine ⟨⟨_, x, _, _, bq, rfl, rb.n (same_n s4), zb, ?_, by rw [hF1, if_neg h0]⟩, s2.trans s4⟩
        rcases hx with ⟨e1, e2, e3⟩ | hx
        · refine .inl ⟨e1, e2, fun j a' d' hj ha' hd' => ?_⟩
          by_cases q1 : j = i
          · subst q1
            rw [ha] at ha'
            cases ha'
            rw [hdd] at hd'
            cases hd'
            grind
          · exact e3 j a' d' (by omega) ha' hd'
        · exact .inr hx
    · rintro σ H2 ⟨⟨b, x, z1, z2, bq, rfl, rb, zb, hx, hF⟩, s2⟩
      refine hD _ H2 b ⟨_, _, _, x, rfl, ?_, ?_⟩ (s1.trans s2)
      rotate_left
      · unfold betF
        rw [List.length_map, List.take_length] at hF
        rw [e0, hF]
      rcases hx with ⟨e1, e2, e3⟩ | ⟨a, dd, e1, e2, e3, e4, e5⟩
      · refine .inl ⟨e1, fun a dd h1 h2 => ?_⟩
        obtain ⟨j, hj, e⟩ := List.getElem_of_mem (mem_actsAt.mpr ⟨dd, h1, h2⟩)
        rw [e0]
        exact e3 j a dd (by rw [List.length_map]; exact hj) (by rw [List.getElem?_eq_getElem hj, e]) h1
      · exact .inr ⟨a, dd, e1, e2, e3, by rw [e0, ← e4]; exact e5⟩
  have fin : ∀ σ H2 b, (∃ z0 z1 z2 x, σ = [some (.ref xh), some (.int (st : Int)), z0, some (.ref au), some (.ref d), some b, some (pickV x), z1, z2] ∧ Bet l q st x0 x ∧ x = betF l q st x0) → Same H H2 → tRet (tVar 6) { nx := fun _ H' => Q .non H', rt := Q } σ H2 := by
    rintro σ H2 b ⟨w0, w1, w2, x, rfl, hb, hb2⟩ s2
    exact ⟨_, rfl, k x H2 s2 hb hb2⟩
  refine ite2 (fun h0 => ?_) (fun h0 => iteF ?_)
  · have sg : st ∈ g := by
      have h5 := mem_keys h0
      rw [ek] at h5
      obtain ⟨t, ht, e⟩ := List.mem_map.mp h5
      rw [← keyN_inj e]
      exact ht
    obtain ⟨uw, hw1, hw2⟩ := ew st sg
    have e1 := g1 sg
    rw [e0] at e1
    obtain ⟨bx, bdx, rfl, ebx⟩ := id ry0
    refine ⟨_, rfl, bx, bdx, _, rfl, ebx, rfl, _, rfl, _, rfl, d, uw, rfl, .inl ⟨kvs, keyN st, .inl ed, rfl, hw1.symm⟩, _, _, q0, 1, _, _, 0, 0, rfl, ry0, .inl hw2, z0, LC.sz_int (i := 1) (t := 0) (by decide), by omega, false, ?_, iteF ?_⟩
    · rw [decide_eq_false (by rw [e1]; grind)]
    · exact loop _ fin
  · exact loop _ fin
end
end Lc
set_option linter.all false
namespace LC
/-! ### there are finitely many picks, so they cannot grow better for ever -/
def pols (m : Nat) : Nat → List (List (Option Nat))
  | 0 => [[]]
  | n + 1 => ((none :: (List.range m).map some).flatMap fun o => (pols m n).map (o :: ·))
theorem mem_pols {m : Nat} : ∀ {n : Nat} {p : List (Option Nat)}, p.length = n → (∀ a, some a ∈ p → a < m) → p ∈ pols m n
  | 0, [], _, _ => by simp [pols]
  | 0, _ :: _, h, _ => by simp at h
  | n + 1, [], h, _ => by simp at h
  | n + 1, o :: p, h, ha => by
    have ih := mem_pols (m := m) (n := n) (p := p) (by simpa using h) fun a q => ha a (List.mem_cons_of_mem _ q)
    unfold pols
    rw [List.mem_flatMap]
    refine ⟨o, ?_, List.mem_map.mpr ⟨p, ih, rfl⟩⟩
    cases o with
    | none => exact List.mem_cons_self
    | some a => exact List.mem_cons_of_mem _ (List.mem_map.mpr ⟨a, List.mem_range.mpr (ha a List.mem_cons_self), rfl⟩)
def total (v : Nat → Rat) : Nat → Rat
  | 0 => 0
  | n + 1 => total v n + v n
theorem total_le {u v : Nat → Rat} : ∀ {n : Nat}, (∀ s, s < n → u s ≤ v s) → total u n ≤ total v n
  | 0, _ => Rat.le_refl
  | n + 1, h => by
    have a := total_le (n := n) fun s hs => h s (by omega)
    have b := h n (by omega)
    simp only [total]
    grind
theorem total_lt {u v : Nat → Rat} : ∀ {n : Nat}, (∀ s, s < n → u s ≤ v s) → (∃ s, s < n ∧ u s < v s) → total u n < total v n
  | 0, _, ⟨s, hs, _⟩ => absurd hs (Nat.not_lt_zero s)
  | n + 1, h, ⟨s, hs, e⟩ => by
    have b := h n (by omega)
    simp only [total]
    by_cases c : s = n
    · subst c
      have a := total_le (n := s) fun t ht => h t (by omega)
      grind
    · have a := total_lt (n := n) (fun t ht => h t (by omega)) ⟨s, by omega, e⟩
      grind
theorem total_congr {u v : Nat → Rat} {n : Nat} (h : ∀ s, s < n → u s = v s) : total u n = total v n := by
  have a := total_le (u := u) (v := v) (n := n) fun s hs => by rw [h s hs]; exact Rat.le_refl
  have b := total_le (u := v) (v := u) (n := n) fun s hs => by rw [h s hs]; exact Rat.le_refl
  grind
open Classical in
/-- the sum of the numbers that picks have -/
noncomputable def valOf (h : Hs) (g : List Nat) (p : Pk) : Rat := if H : ∃ v far, Had h g p v far then total (Classical.choose H) h.n else 0
theorem val_eq {h : Hs} {g : List Nat} {p : Pk} {v : Nat → Rat} {far : Nat → Option Nat} (ok : h.Ok) (hp : p.Ok h g) (H : Had h g p v far) : valOf h g p = total v h.n := by
  have ex : ∃ v far, Had h g p v far := ⟨v, far, H⟩
  unfold valOf
  rw [dif_pos ex]
  obtain ⟨f2, H2⟩ := Classical.choose_spec ex
  exact total_congr (had_unique ok hp H2 H)
open Classical in
noncomputable def rankOf (h : Hs) (g : List Nat) (m : Nat) (pk : List (Option Nat) → Pk) (p : Pk) : Nat := ((pols m h.n).filter fun x => decide (valOf h g p < valOf h g (pk x))).length
theorem filter_lt {α : Type} {f g : α → Bool} : ∀ {l : List α}, (∀ x ∈ l, f x = true → g x = true) → (∃ x ∈ l, g x = true ∧ f x = false) → (l.filter f).length < (l.filter g).length
  | [], _, ⟨_, h, _⟩ => by simp at h
  | a :: l, hs, ⟨x, hx, h1, h2⟩ => by
    have le : ∀ {l : List α}, (∀ x ∈ l, f x = true → g x = true) → (l.filter f).length ≤ (l.filter g).length := by
      intro l
      induction l with
      | nil => intro _; exact Nat.le_refl _
      | cons b l ih =>
        intro hs
        have i := ih fun x hx => hs x (List.mem_cons_of_mem _ hx)
        have hb := hs b List.mem_cons_self
        simp only [List.filter_cons]
        cases e : f b with
        | true => rw [hb e]; simp; exact i
        | false => cases g b <;> simp <;> omega
    have la := le fun x hx => hs x (List.mem_cons_of_mem a hx)
    simp only [List.filter_cons]
    rcases List.mem_cons.mp hx with rfl | hx
    · rw [h1, h2]
      simp
      omega
    · have i := filter_lt (l := l) (fun x hx => hs x (List.mem_cons_of_mem _ hx)) ⟨x, hx, h1, h2⟩
      have ha := hs a List.mem_cons_self
      cases e : f a with
      | true => rw [ha e]; simp; exact i
      | false => cases g a <;> simp <;> omega
theorem rank_lt {h : Hs} {g : List Nat} {m : Nat} {pk : List (Option Nat) → Pk} {p : Pk} {x : List (Option Nat)} (hx : x ∈ pols m h.n) (lt : valOf h g p < valOf h g (pk x)) : rankOf h g m pk (pk x) < rankOf h g m pk p := by
  unfold rankOf
  refine filter_lt (fun y _ hy => ?_) ⟨x, hx, decide_eq_true lt, decide_eq_false (by grind)⟩
  have := of_decide_eq_true hy
  exact decide_eq_true (by grind)
theorem rank_le {h : Hs} {g : List Nat} {m : Nat} {pk : List (Option Nat) → Pk} {p : Pk} : rankOf h g m pk p ≤ (pols m h.n).length := List.length_filter_le _ _
/-- a better one has a lower rank -/
theorem rank_imp {h : Hs} {g : List Nat} {m : Nat} {pk : List (Option Nat) → Pk} {p : Pk} {x : List (Option Nat)} {v v' : Nat → Rat} {far far' : Nat → Option Nat} (ok : h.Ok) (hp : p.Ok h g) (hp' : (pk x).Ok h g) (H : Had h g p v far) (H' : Had h g (pk x) v' far')
    (st : ∀ s, s < h.n → pk x s = p s ∨ ∃ a, pk x s = some a ∧ v s < mean v (h.out a)) (ne : ∃ s, s < h.n ∧ pk x s ≠ p s) (hx : x ∈ pols m h.n) : rankOf h g m pk (pk x) < rankOf h g m pk p := by
  refine rank_lt hx ?_
  rw [val_eq ok hp H, val_eq ok hp' H']
  obtain ⟨s, hs, e⟩ := ne
  exact total_lt (improve ok hp hp' H H' st) ⟨s, hs, improve_lt ok hp hp' H H' st hs e⟩
end LC
set_option Elab.async false
set_option linter.all false
set_option maxRecDepth 100000
set_option maxHeartbeats 4000000
namespace Lc
open PySem PySem.Spec PyProof.Rows L2 LcR
open LC (Sz Had mean)
theorem pol_of {n : Nat} {l : List ActD} {g : List Nat} {p : List (Option Nat)} (h : PkOk n l g p) : p ∈ LC.pols l.length n := by
  refine LC.mem_pols h.len fun a ha => ?_
  obtain ⟨s, hs, e⟩ := List.getElem_of_mem ha
  exact h.lt s a (by unfold pk; rw [List.getElem?_eq_getElem hs, e]; rfl)
theorem had_out {n : Nat} {l : List ActD} {a : Nat} {d : ActD} (v : Nat → Rat) (h : l[a]? = some d) : mean v ((hsOf n l).out a) = mean v (prs d) := by rw [out_of h]
/-- later picks fit as well -/
theorem bet_ok {n : Nat} {l : List ActD} {g : List Nat} {p p' : List (Option Nat)} {q : List Rat} {far : Nat → Option Nat} (ok : OkActs n l) (pok : PkOk n l g p) (hd : Had (hsOf n l) g (pk p) (numN q) far) (hl : p'.length = n)
    (hb : ∀ s, s < n → Bet l q s (pk p s) (pk p' s)) : PkOk n l g p' := by
  have low : ∀ (a : Nat) (d : ActD), l[a]? = some d → mean (numN q) (prs d) ≤ 1 := fun a d hd' => by
    have oko := outsOk (ok.acts d (List.mem_of_getElem? hd'))
    have := LC.mean_mono (u := numN q) (v := fun _ => 1) oko fun t ht => hd.le_one (hs_ok ok) pok.ok t.1 (oko.2 t ht).1
    rw [LC.mean_const 1 oko] at this
    exact this
  refine ⟨hl, fun s a e => ?_, fun s hs => ?_⟩
  · have sn : s < n := by have := pk_lt e; omega
    rcases hb s sn with ⟨h1, _⟩ | ⟨b, d, h1, h2, h3, _⟩
    · exact pok.at_ s a (h1 ▸ e)
    · rw [e] at h1
      cases h1
      exact ⟨d, h2, h3⟩
  · by_cases sn : s < n
    · rcases hb s sn with ⟨h1, _⟩ | ⟨b, d, h1, h2, h3, h4⟩
      · rw [h1]; exact pok.gn s hs
      · have := hd.goal hs
        have := low b d h2
        grind
    · unfold pk
      rw [List.getElem?_eq_none (by omega)]
      rfl
/-- how far the picks may still grow -/
def Left (n : Nat) (l : List ActD) (g : List Nat) (p : List (Option Nat)) (m : Nat) : Prop := m = (LC.pols l.length n).length + 1 ∨ ∃ p0 q0 far0, PkOk n l g p0 ∧ Had (hsOf n l) g (pk p0) (numN q0) far0 ∧
  (∀ s, s < n → pk p s = pk p0 s ∨ ∃ a, pk p s = some a ∧ numN q0 s < mean (numN q0) ((hsOf n l).out a)) ∧ (∃ s, s < n ∧ pk p s ≠ pk p0 s) ∧ m = LC.rankOf (hsOf n l) g l.length pk (pk p0)
theorem left_lt {n : Nat} {l : List ActD} {g : List Nat} {p : List (Option Nat)} {m : Nat} {q : List Rat} {far : Nat → Option Nat} (ok : OkActs n l) (pok : PkOk n l g p) (h : Left n l g p m) (hd : Had (hsOf n l) g (pk p) (numN q) far) : LC.rankOf (hsOf n l) g l.length pk (pk p) < m := by
  rcases h with rfl | ⟨p0, q0, far0, pok0, hd0, st, ne, rfl⟩
  · exact Nat.lt_succ_of_le LC.rank_le
  · exact LC.rank_imp (hs_ok ok) pok0.ok pok.ok hd0 hd st ne (pol_of pok)
def nextP (n : Nat) (l : List ActD) (q : List Rat) (p : List (Option Nat)) : List (Option Nat) := (List.range n).map fun s => betF l q s (pk p s)
theorem num_same {q q' : List Rat} {n : Nat} (h1 : q.length = n) (h2 : q'.length = n) (h : ∀ s, s < n → numN q s = numN q' s) : q = q' := by
  apply List.ext_getElem (h1.trans h2.symm)
  intro i a b
  have := h i (by omega)
  unfold numN at this
  rw [List.getElem?_eq_getElem a, List.getElem?_eq_getElem b] at this
  exact this
theorem had_det {n : Nat} {l : List ActD} {g : List Nat} {p : List (Option Nat)} {q q' : List Rat} {far far' : Nat → Option Nat} (ok : OkActs n l) (pok : PkOk n l g p) (h : Had (hsOf n l) g (pk p) (numN q) far) (h' : Had (hsOf n l) g (pk p) (numN q') far') (e : q.length = n) (e' : q'.length = n) : q = q' := num_same e e' fun s hs => LC.had_unique (hs_ok ok) pok.ok h h' s hs
inductive BestRun (n : Nat) (l : List ActD) (g : List Nat) : List (Option Nat) → List (Option Nat) → Prop where
  | stop {p : List (Option Nat)} {q : List Rat} {far : Nat → Option Nat} : PkOk n l g p → Had (hsOf n l) g (pk p) (numN q) far → q.length = n → nextP n l q p = p → BestRun n l g p p
  | step {p f : List (Option Nat)} {q : List Rat} {far : Nat → Option Nat} : PkOk n l g p → Had (hsOf n l) g (pk p) (numN q) far → q.length = n → nextP n l q p ≠ p → BestRun n l g (nextP n l q p) f → BestRun n l g p f
theorem BestRun.det {n : Nat} {l : List ActD} {g : List Nat} (ok : OkActs n l) {p f1 f2 : List (Option Nat)} (h1 : BestRun n l g p f1) (h2 : BestRun n l g p f2) : f1 = f2 := by
  induction h1 with
  | stop pok had ql e =>
    cases h2 with
    | stop => rfl
    | step pok' had' ql' e' r => rw [had_det ok pok had had' ql ql'] at e; exact absurd e e'
  | step pok had ql e _ ih =>
    cases h2 with
    | stop pok' had' ql' e' => rw [had_det ok pok had had' ql ql'] at e; exact absurd e' e
    | step pok' had' ql' e' r => rw [← had_det ok pok had had' ql ql'] at r; exact ih r
section
variable {P : Program} {w : World} {K : PySem.W.Frag} {mg : Str → Option Value} {base : Heap}
def sp_best_picks (K : PySem.W.Frag) : Sp := fun vs H Q _ => ∃ (v : V) (n : Nat) (l : List ActD) (y : V) (g : List Nat), vs = [v, y] ∧ HouseV K H v n l ∧ OkActs n l ∧ n ≤ 8 ∧ WorthsV K H y g ∧ (∀ s ∈ g, s < n) ∧ g.Nodup ∧
  ∀ H' t a b c q p far p0, Same H H' → H' t = some (.tup [.ref a, .ref b, .ref c]) → NumsL K H' (.ref a) q → q.length = n → H' b = some (.lst (p.map pickV)) → PkOk n l g p → Had (hsOf n l) g (pk p) (numN q) far → (∀ x ∈ q, Sz 1800 1780 x) →
    (∀ (i : Nat) (d : ActD), l[i]? = some d → mean (numN q) (prs d) ≤ numN q d.1) → FirstRun l (List.replicate n none, g, g) p0 → BestRun n l g p0 p → Q (.ref t) H'
theorem c_best_picks (T : Tx K mg) : C8.Cal P w K mg base 8 "best_picks" (sp_best_picks K) [] := by
  obtain ⟨fd, F⟩ := T.f_best_picks
  refine calD F T.g_best_picks sc_best_picks (fun _ _ _ _ _ _ us hl => match us, hl with | [_, _], _ => rfl) (fun vs H Q E h => ?_) (fun cdv A outer s H vs Q E hr h => ?_)
  · obtain ⟨_, _, _, _, _, rfl, _⟩ := h; rfl
  obtain ⟨v, n, l, y, g, rfl, hv, ok, n6, hy, gn, gd, k⟩ := h
  refine ⟨_, (pss_cons (ps_set (i := 2) sc_best_picks.nd rfl (Or.inr rfl) (C8.pe_c (c_first_picks T) hr (by decide) (by rfl) (pa_cons (pv 0) (pa_cons (pv 1) pa_nil))))
      (pss_one (ps_while PassesOwn.never (pt_val pe_bl)
      (pss_cons (ps_asg (C8.pe_c (c_had_by T) hr (by decide) (by rfl) (pa_cons (pv 0) (pa_cons (pv 2) (pa_cons (pv 1) pa_nil)))) (pg_tup rfl (pgs_cons (pg_name (i := 3) sc_best_picks.nd rfl (Or.inr rfl)) (pgs_cons (pg_name (i := 4) sc_best_picks.nd rfl (Or.inl rfl)) pgs_nil))))
      (pss_cons (ps_setLc (i := 5) (own := [("state", 6)]) (g := gName 6) (te := (tCall (sp_better_pick K) [] C8.E0 (tCons (tVar 0) (tCons (tVar 6) (tCons (tOp (rIxL K) (tVar 2) (tVar 6)) (tCons (tVar 3) (tCons (tVar 1) tNil))))))) (by rfl) sc_best_picks.nd rfl rfl (sw_true rfl rfl rfl (by decide +kernel)) (pi_range1 (by rfl) T.b_range (pa_cons (pe_fld (pv 0) rfl) pa_nil)) (blkOk_by (own := [("state", 6)]) (N := N_best_picks) (sc := defScope s_best_picks) (by decide +kernel)) (fun _ _ _ _ _ => (pg_name (i := 6) sc_best_picks.nd rfl (Or.inl rfl))) (fun _ _ _ _ _ => pts_nil) (fun _ _ _ _ _ => (C8.pe_c (c_better_pick T) hr (by decide) (by rfl) (pa_cons (pv 0) (pa_cons (pv 6) (pa_cons (pe_ix ix_list (pv 2) (pv 6) (fun _ _ => rfl)) (pa_cons (pv 3) (pa_cons (pv 1) pa_nil))))))))
      (pss_cons (ps_if (pt_cmpR (op_eqFlat hr.units0) (pv 5) (pv 2) (nomark _)) (pss_one (ps_ret (pe_tup (pa_cons (pv 3) (pa_cons (pv 2) (pa_cons (pv 4) pa_nil)))))) pss_nil)
      (pss_one (ps_set (i := 2) sc_best_picks.nd rfl (Or.inr rfl) (pv 5))))))))), ?_⟩
  refine ⟨_, rfl, _, rfl, v, n, l, y, g, rfl, hv, ok, hy, gn, gd, fun H1 ap p0 s1 eap pok fr => ?_⟩
  obtain ⟨xh, dxh, mh, vah, vsh, lkh, voh, rfl, eh, hh1, hh2, hh3⟩ := id hv
  refine ⟨fun m σ H2 => (∃ b x1 x2 x3 p, σ = [some (.ref xh), some y, some (.ref b), x1, x2, x3, none] ∧ H2 b = some (.lst (p.map pickV)) ∧ PkOk n l g p ∧ Left n l g p m ∧ ∀ f, BestRun n l g p f → BestRun n l g p0 f) ∧ Same H H2,
    ⟨_, ⟨ap, none, none, none, p0, rfl, eap, pok, .inl rfl, fun _ h => h⟩, s1⟩, ?_⟩
  rintro m σ H2 ⟨⟨b, x1, x2, x3, p, rfl, eb, pok, lf, R1⟩, s2⟩
  refine ⟨true, rfl, iteT ?_⟩
  refine ⟨fun σ' H' => (∃ b x1 x2 x3 p', σ' = [some (.ref xh), some y, some (.ref b), x1, x2, x3, none] ∧ H' b = some (.lst (p'.map pickV)) ∧ PkOk n l g p' ∧ ∃ m', m' < m ∧ Left n l g p' m' ∧ ∀ f, BestRun n l g p' f → BestRun n l g p0 f) ∧ Same H H',
    fun σ' H' ⟨⟨b', z1, z2, z3, p', e1, e2, e3, m', e4, e6, e7⟩, e5⟩ => ⟨m', e4, ⟨b', z1, z2, z3, p', e1, e2, e3, e6, e7⟩, e5⟩, ?_⟩
  refine ⟨_, rfl, _, rfl, _, rfl, .ref xh, n, l, .ref b, p, y, g, rfl, hv.n (same_n s2), ok, n6, ⟨b, rfl, eb⟩, pok, hy.s s2, gn, gd, fun H3 t a q D fk far s3 et hq ql eD kok fd had qz => ?_⟩
  have s23 := s2.trans s3
  refine ⟨t, _, rfl, .inl (.inl et), rfl, _, _, rfl, _, _, rfl, rfl, ?_⟩
  refine ⟨_, rfl, xh, _, dxh, _, _, rfl, s23 _ _ eh, T.cl_House, T.na_House_states, rfl, (n : Int), rfl, by omega, by omega, fun Dl hDl => ?_⟩
  rw [Int.toNat_natCast]
  refine lcm walk_range hDl (Nat.le_trans n6 (by decide)) (fun _ => true) (fun i y1 H1 => ∃ x, y1 = pickV x ∧ Bet l q i (pk p i) x ∧ x = betF l q i (pk p i)) (fun i y1 H1 H2 s z => z) (fun H1 s => trivial) (fun i x H8 H1 kN' kY hi s y1 kn ky => ?_) (fun H7 ys s7 e7 kp => ?_)
  · obtain ⟨rfl, ex⟩ := y1
    obtain rfl : x = V.int ((i : Nat) : Int) := ex.trans (congrArg V.int (Int.zero_add _))
    have s38 := s3.trans s
    have s28 := s23.trans s
    refine ⟨rfl, yes ⟨_, rfl, _, rfl, _, rfl, _, rfl, b, _, _, _, rfl, rfl, .inl (.inl (s38 _ _ eb)), atI_nat (pk_at (by rw [pok.len]; exact hi)), _, rfl, _, rfl, ?_⟩⟩
    refine ⟨.ref xh, n, l, i, pk p i, .ref a, q, y, g, rfl, hv.n (same_n s28), ok, hi, hq.s s, ql, qz, hy.s s28, fun hg => had.goal hg, fun x H9 s9 hb hb2 => ?_⟩
    exact ky _ _ s9 rfl ⟨x, rfl, hb, hb2⟩
  obtain ⟨l1, l2⟩ := kp.all
  obtain ⟨p', ep', bet⟩ : ∃ p' : List (Option Nat), ys = p'.map pickV ∧ p'.length = n ∧ ∀ s, s < n → Bet l q s (pk p s) (pk p' s) ∧ pk p' s = betF l q s (pk p s) := by
    have : ∀ m, m ≤ n → ∃ p' : List (Option Nat), ys.take m = p'.map pickV ∧ p'.length = m ∧ ∀ s, s < m → Bet l q s (pk p s) (pk p' s) ∧ pk p' s = betF l q s (pk p s) := by
      intro m
      induction m with
      | zero => exact fun _ => ⟨[], by simp, rfl, fun s hs => absurd hs (Nat.not_lt_zero s)⟩
      | succ m ih =>
        intro hm
        obtain ⟨p', e1, e2, e3⟩ := ih (by omega)
        have hmy : m < ys.length := by omega
        obtain ⟨x, ex, hb⟩ := l2 m _ (List.getElem?_eq_getElem hmy)
        refine ⟨p' ++ [x], ?_, by rw [List.length_append, e2]; rfl, fun s hs => ?_⟩
        · rw [List.take_add_one, List.getElem?_eq_getElem hmy, e1, ex, List.map_append]
          rfl
        · by_cases c : s < m
          · have : pk (p' ++ [x]) s = pk p' s := by unfold pk; rw [List.getElem?_append_left (by omega)]
            rw [this]
            exact e3 s c
          · have c2 : s = m := by omega
            subst c2
            have : pk (p' ++ [x]) s = x := by unfold pk; rw [List.getElem?_append_right (by omega), e2, Nat.sub_self]; rfl
            rw [this]
            exact hb
    obtain ⟨p', e1, e2, e3⟩ := this n (Nat.le_refl n)
    rw [List.take_of_length_le (by omega)] at e1
    exact ⟨p', e1, e2, e3⟩
  obtain ⟨pl', bet⟩ := bet
  subst ep'
  have enx : p' = nextP n l q p := by
    apply List.ext_getElem?
    intro i
    unfold nextP
    rw [List.getElem?_map]
    by_cases hi : i < n
    · have h1 := (bet i hi).2
      rw [List.getElem?_range hi, List.getElem?_eq_getElem (by omega)]
      unfold pk at h1
      rw [List.getElem?_eq_getElem (by omega)] at h1
      exact congrArg some h1
    · rw [List.getElem?_eq_none (by omega), List.getElem?_eq_none (by simp; omega)]
      rfl
  replace bet := fun s hs => (bet s hs).1
  have s27 := s23.trans s7
  have pok' := bet_ok ok pok had pl' bet
  refine ⟨_, rfl, _, rfl, Dl, b, _, _, rfl, rfl, .inl (.inl e7), .inl (.inl ((s3.trans s7) _ _ eb)), by simp [pl', pok.len], flat_picks _, flat_picks _, _, rfl, ?_⟩
  rw [eq_picks (by rw [pl', pok.len])]
  refine ite2 (fun h0 => ?_) (fun h0 => ?_)
  · have h0 := of_decide_eq_true h0
    subst h0
    refine ⟨_, rfl, _, rfl, _, rfl, by show 3 ≤ sizeLine; decide, fun t' ht' => ?_⟩
    have s8 := s7.trans (same_upd (o := .tup [.ref a, .ref b, .ref D]) ht')
    refine k _ t' a b D q p' far p0 (s23.trans s8) upd_same (hq.s s8) ql ((s3.trans s8) _ _ eb) pok had qz (fun i d hd => ?_) fr (R1 _ (.stop pok had ql enx.symm))
    have okd := ok.acts d (List.mem_of_getElem? hd)
    rcases bet d.1 okd.s with ⟨_, h⟩ | ⟨a', d', h1, h2, h3, h4⟩
    · exact h i d hd rfl
    · have := had.pick pok.ok h1
      rw [had_out (numN q) h2] at this
      grind
  · have h0 : p' ≠ p := fun e => h0 (decide_eq_true e)
    refine ⟨_, rfl, ⟨Dl, _, _, _, p', rfl, e7, pok', _, left_lt ok pok lf had, .inr ⟨p, q, far, pok, had, fun s hs => ?_, ?_, rfl⟩, fun f hf => R1 f (.step pok had ql (fun e => h0 (enx.trans e)) (enx ▸ hf))⟩, s27⟩
    · rcases bet s hs with ⟨h1, _⟩ | ⟨a', d', h1, h2, h3, h4⟩
      · exact .inl h1
      · exact .inr ⟨a', h1, by rw [had_out (numN q) h2]; exact h4⟩
    · apply Classical.byContradiction
      intro hc
      apply h0
      apply List.ext_getElem?
      intro i
      by_cases hi : i < n
      · have : pk p' i = pk p i := Classical.byContradiction fun z => hc ⟨i, hi, z⟩
        unfold pk at this
        have i1 : i < p'.length := by omega
        have i2 : i < p.length := by rw [pok.len]; exact hi
        rw [List.getElem?_eq_getElem i1, List.getElem?_eq_getElem i2] at this ⊢
        exact congrArg some this
      · rw [List.getElem?_eq_none (by omega), List.getElem?_eq_none (by rw [pok.len]; omega)]
end
end Lc
set_option Elab.async false
set_option linter.all false
set_option maxRecDepth 100000
set_option maxHeartbeats 4000000
namespace Lc
open PySem PySem.Spec PyProof.Rows L2 LcR
theorem same_unlock {H H3 : Hp} {d : Addr} {od : Obj} {u : HO} (ed : H d = some u) (s : Same (upd H d (.frz od u)) H3) : Same H (upd H3 d u) := fun b o hb => by
  by_cases e : b = d
  · subst e; rw [upd_same, ← ed]; exact hb
  · rw [upd_ne e]; exact s _ _ (by rw [upd_ne e]; exact hb)
/-- the picks at states with a number -/
def keptP (n : Nat) (q : List Rat) (p : List (Option Nat)) : List (Option Nat) := (List.range n).map fun i => if numN q i = 0 then none else pk p i
theorem keptP_len (n : Nat) (q : List Rat) (p : List (Option Nat)) : (keptP n q p).length = n := by unfold keptP; simp
theorem keptP_at {n : Nat} {q : List Rat} {p : List (Option Nat)} {i : Nat} (h : i < n) : pk (keptP n q p) i = if numN q i = 0 then none else pk p i := by
  unfold keptP
  rw [pk, List.getElem?_map, List.getElem?_range h]
  rfl
theorem keptP_some {n : Nat} {q : List Rat} {p : List (Option Nat)} {i a : Nat} (h : pk (keptP n q p) i = some a) : i < n ∧ numN q i ≠ 0 ∧ pk p i = some a := by
  have hi : i < n := by have := pk_lt h; rw [keptP_len] at this; exact this
  rw [keptP_at hi] at h
  split at h
  · cases h
  · exact ⟨hi, by assumption, h⟩
def ranksV (n : Nat) (far : Nat → Option Nat) : List V := (List.range n).map fun i => V.int (((far i).getD 0 : Nat) : Int)
theorem map_of {n : Nat} {ys : List V} {f : Nat → V} (h1 : ys.length = n) (h2 : ∀ (i : Nat) y, ys[i]? = some y → y = f i) : ys = (List.range n).map f := by
  apply List.ext_getElem?
  intro i
  rw [List.getElem?_map]
  by_cases hi : i < n
  · rw [List.getElem?_range hi, List.getElem?_eq_getElem (by omega)]
    exact congrArg some (h2 i _ (List.getElem?_eq_getElem (by omega)))
  · rw [List.getElem?_eq_none (by omega), List.getElem?_eq_none (by simp; omega)]
    rfl
section
variable {P : Program} {w : World} {K : PySem.W.Frag} {mg : Str → Option Value} {base : Heap}
def sp_ranked (K : PySem.W.Frag) : Sp := fun vs H Q _ => ∃ (v : V) (n : Nat) (l : List ActD) (u : V) (q : List Rat) (x : V) (p : List (Option Nat)) (y : V) (g : List Nat), vs = [v, u, x, y] ∧ HouseV K H v n l ∧ OkActs n l ∧ NumsL K H u q ∧ q.length = n ∧ PicksL H x p ∧ PkOk n l g p ∧ WorthsV K H y g ∧ (∀ s ∈ g, s < n) ∧ g.Nodup ∧ (∀ s ∈ g, numN q s = 1) ∧
  ∀ H' a far, Same H H' → H' a = some (.tup (ranksV n far)) → LC.FarOk (hsOf n l) g (pk (keptP n q p)) far → LedRun n l (keptP n q p) (farOf g (pk (keptP n q p)), g.filter fun s => (pk (keptP n q p) s).isNone) far → Q (.ref a) H'
theorem c_ranked (T : Tx K mg) : C8.Cal P w K mg base 7 "ranked" (sp_ranked K) [] := by
  obtain ⟨fd, F⟩ := T.f_ranked
  refine calD F T.g_ranked sc_ranked (fun _ _ _ _ _ _ us hl => match us, hl with | [_, _, _, _], _ => rfl) (fun vs H Q E h => ?_) (fun cdv A outer s H vs Q E hr h => ?_)
  · obtain ⟨_, _, _, _, _, _, _, _, _, rfl, _⟩ := h; rfl
  obtain ⟨v, n, l, u, q, x, p, y, g, rfl, hv, ok, hu, ql, ⟨ap, rfl, eap⟩, pok, ⟨d, kvs, rfl, ed, ek, ew⟩, gn, gd, g1, k⟩ := h
  refine ⟨_, (pss_cons (ps_lock (LcD.ps_setDc (i := 4) (own := [("state", 7)]) (g := gName 7) (tt := (tAnd (tB (tIsN (tOp (rIxL K) (tVar 2) (tVar 7)))) (tB (tOp (rNeR K) (tOp (rIxL K) (tVar 1) (tVar 7)) (tMake (CRatio K) (sp_Ratio_init K) [.int 1] C8.E0 (tCons (tC (.int 0)) tNil)))))) (by rfl) sc_ranked.nd rfl rfl (LcD.sw_trueD rfl rfl rfl (by decide +kernel)) (pi_keys (pv 3)) (blkOk_by (own := [("state", 7)]) (N := N_ranked) (sc := defScope s_ranked) (by decide +kernel)) (fun _ _ _ _ _ => (pg_name (i := 7) sc_ranked.nd rfl (Or.inl rfl))) (fun _ _ _ _ _ => (pts_one (PW.pt (pw_and (pt_cmp (pc_isN (pe_ix ix_list (pv 2) (pv 7) (fun _ _ => rfl)))) (pw_and1 (pt_cmpR (op_Rne T hr (by decide)) (pe_ix ix_list (pv 1) (pv 7) (fun _ _ => rfl)) (C8.pe_mk (c_Ratio_1 T) hr (by decide) (by rfl) (pa_cons pe_int pa_nil)) (nomark _))))))) (fun _ _ _ _ _ => (pv 7)) (fun _ _ _ _ _ => (pe_dget (hu1 hr) (pv 3) (pv 7) (fun _ _ => rfl)))))
      (pss_cons (ps_setLc (i := 5) (own := [("state", 7), ("pick", 8)]) (g := gTup K 2 (gCons (gName 7) (gCons (gName 8) (gNil)))) (te := (tIf (tB (tOp (rNeR K) (tOp (rIxL K) (tVar 1) (tVar 7)) (tMake (CRatio K) (sp_Ratio_init K) [.int 1] C8.E0 (tCons (tC (.int 0)) tNil)))) (tVar 8) (tC .non))) (by rfl) sc_ranked.nd rfl rfl (sw_true rfl rfl rfl (by decide +kernel)) (pi_enum (by rfl) T.b_enumerate (pa_cons (pv 2) pa_nil)) (blkOk_by (own := [("state", 7), ("pick", 8)]) (N := N_ranked) (sc := defScope s_ranked) (by decide +kernel)) (fun _ _ _ _ _ => (pg_tup rfl (pgs_cons (pg_name (i := 7) sc_ranked.nd rfl (Or.inl rfl)) (pgs_cons (pg_name (i := 8) sc_ranked.nd rfl (Or.inl rfl)) pgs_nil)))) (fun _ _ _ _ _ => pts_nil) (fun _ _ _ _ _ => (pe_ifExp (pt_cmpR (op_Rne T hr (by decide)) (pe_ix ix_list (pv 1) (pv 7) (fun _ _ => rfl)) (C8.pe_mk (c_Ratio_1 T) hr (by decide) (by rfl) (pa_cons pe_int pa_nil)) (nomark _)) (pv 8) pe_non)))
      (pss_cons (ps_set (i := 6) sc_ranked.nd rfl (Or.inr rfl) (C8.pe_c (c_led_to T) hr (by decide) (by rfl) (pa_cons (pv 0) (pa_cons (pv 5) (pa_cons (pv 4) pa_nil)))))
      (pss_one (ps_ret (pe_callTy call_tuple_of (by rfl) T.b_tuple (by decide +kernel) (pa_cons (pe_lc (own := [("state", 7)]) (g := gName 7) (by rfl) sc_ranked.nd (pi_range1 (by rfl) T.b_range (pa_cons (pe_fld (pv 0) rfl) pa_nil)) (blkOk_by (own := [("state", 7)]) (N := N_ranked) (sc := defScope s_ranked) (by decide +kernel)) (fun _ _ _ _ _ => (pg_name (i := 7) sc_ranked.nd rfl (Or.inl rfl))) (fun _ _ _ _ _ => pts_nil) (fun _ _ _ _ _ => (pe_dget2 (hu1 hr) (pv 6) (pv 7) pe_int ⟨rfl, rfl, rfl, rfl⟩))) pa_nil))))))), ?_⟩
  obtain ⟨au, us, rfl, eu, aq⟩ := id hu
  have n2 := ok.n2
  have pl := pok.len
  have kl : kvs.length = g.length := by have := congrArg List.length ek; simpa using this
  have gl : g.length ≤ n := by
    have := nodup_len gd (m := List.range n) fun x hx => List.mem_range.mpr (gn x hx)
    rwa [List.length_range] at this
  have kg : ∀ (i : Nat) k v, kvs[i]? = some (k, v) → ∃ s, g[i]? = some s ∧ k = keyN s := fun i k v e => by
    have h1 : (kvs.map (·.1))[i]? = some k := by rw [List.getElem?_map, e]; rfl
    rw [ek, List.getElem?_map] at h1
    obtain ⟨s, h2, h3⟩ := Option.map_eq_some_iff.mp h1
    exact ⟨s, h2, h3.symm⟩
  refine ⟨d, _, ed, trivial, fun od => ?_⟩
  have un := fun {H3} => same_unlock (H3 := H3) (od := od) ed
  generalize hHl : upd H d (.frz od (.dK kvs)) = Hl at un
  have edl : Hl d = some (.frz od (.dK kvs)) := hHl ▸ upd_same
  have kl2 : ∀ b o, b ≠ d → H b = some o → Hl b = some o := fun b o hb e => by rw [← hHl, upd_ne hb]; exact e
  have apd : ap ≠ d := fun z => by subst z; rw [eap] at ed; cases ed
  have aud : au ≠ d := fun z => by subst z; rw [eu] at ed; cases ed
  have fz : SameN H Hl := fun b o hb f => kl2 b o (fun z => by subst z; rw [ed] at hb; cases hb; exact f) hb
  refine ⟨_, rfl, d, od, rfl, .inl ⟨kvs, edl, fun D hD => ?_⟩⟩
  have Dd : D ≠ d := fun z => by subst z; rw [edl] at hD; cases hD
  refine dc_it walk_keys (fun i H' => Same Hl H' ∧ ∃ fk, H' D = some (.dK fk) ∧ fk.map (·.1) = (g.take i).map keyN ∧ ∀ s ∈ g.take i, ∃ u, valV fk (keyN s) = some u ∧ IsR K H' u 1)
    ⟨same_upd hD, [], upd_same, by simp, fun s h => by simp at h⟩ (fun i H' _ p => p.1 _ _ edl) ?_ ?_
  · rintro i x H3 H4 hi ⟨s3, fk, ef, efk, fw⟩ ⟨rfl, kx, vx, hx, rfl⟩
    obtain ⟨s0, hs0, rfl⟩ := kg i kx vx hx
    have sg := List.mem_of_getElem? hs0
    have hsn := gn s0 sg
    have tk : g.take (i + 1) = g.take i ++ [s0] := by rw [List.take_add_one, hs0]; rfl
    obtain ⟨qv, hqv⟩ : ∃ qv, q[s0]? = some qv := ⟨_, List.getElem?_eq_getElem (by omega)⟩
    have q1 : qv = 1 := by have := g1 s0 sg; unfold numN at this; rw [hqv] at this; exact this
    obtain ⟨yq, hyq, rq⟩ := aq.get hqv
    obtain ⟨uw, hw1, hw2⟩ := ew s0 sg
    refine ⟨rfl, ⟨_, rfl, _, rfl, ap, _, _, _, rfl, rfl, .inl (.inl (s3 _ _ (kl2 _ _ apd eap))), atI_nat (pk_at (by omega)), true, by rw [pick_non, pok.gn s0 sg]; rfl, iteT ?_⟩⟩
    refine ⟨_, rfl, _, rfl, au, us, _, yq, rfl, rfl, .inl (.inl (s3 _ _ (kl2 _ _ aud eu))), atI_nat hyq, fun x dx hx hdx ne => mR1 hx hdx ne fun H5 s5 hz => ⟨rfl, ?_⟩⟩
    have fz5 := fz.trans ((same_n s3).trans (same_n s5))
    refine ⟨qv, 0, rq.n fz5, hz, true, ?_, iteT ?_⟩
    · rw [q1, decide_eq_false (by grind)]; rfl
    have ef5 := s5 _ _ ef
    have nk : s0 ∉ g.take i := fun hm => by
      have e1 : g.take i ++ [s0] = g.take (i + 1) := tk.symm
      have nd : (g.take (i + 1)).Nodup := gd.sublist (List.take_sublist _ _)
      rw [← e1, List.nodup_append] at nd
      exact nd.2.2 s0 hm s0 (by simp) rfl
    have vn : valV fk (keyN s0) = none := by
      cases e : valV fk (keyN s0) with
      | none => rfl
      | some z =>
        have := valV_in e
        rw [efk] at this
        obtain ⟨t, ht, e2⟩ := List.mem_map.mp this
        exact absurd (by rw [← keyN_inj e2]; exact ht) nk
    have fl : fk.length ≤ 10 := by
      have := congrArg List.length efk
      rw [List.length_map, List.length_map, List.length_take] at this
      omega
    refine ⟨_, rfl, _, rfl, _, rfl, d, uw, rfl, .inl ⟨kvs, keyN s0, .inr ⟨od, (s3.trans s5) _ _ edl⟩, rfl, hw1.symm⟩, ?_⟩
    refine ⟨fk, keyN s0, rfl, ef5, Nat.lt_of_le_of_lt fl (by decide), ?_⟩
    have sn : SameN H5 (upd H5 D (.dK (putK fk (keyN s0) uw))) := sameN_upd ef5 (fun z => z)
    refine ⟨fun b o hb => by rw [upd_ne (ne_of_none hb hD)]; exact (s3.trans s5) _ _ hb, _, upd_same, ?_, fun s hs => ?_⟩
    · unfold putK
      rw [valV_any, vn, tk]
      simp [efk]
    · rw [valV_put]
      by_cases e : s = s0
      · subst e
        exact ⟨uw, by rw [if_pos rfl], hw2.n (fz5.trans sn)⟩
      · rw [if_neg (fun z => e (keyN_inj z))]
        rw [tk] at hs
        rcases List.mem_append.mp hs with z | z
        · obtain ⟨u', h1, h2⟩ := fw s z
          exact ⟨u', h1, h2.n ((same_n s5).trans sn)⟩
        · exact absurd (List.mem_singleton.mp z) e
  rintro H3 ⟨s3, fk, ef, efk, fw⟩
  refine ⟨s3 _ _ edl, ?_⟩
  have s4 : Same H (upd H3 d (.dK kvs)) := un s3
  have ef4 : upd H3 d (.dK kvs) D = some (.dK fk) := by rw [upd_ne Dd]; exact ef
  rw [kl, List.take_length] at efk fw
  have W4 : WorthsV K (upd H3 d (.dK kvs)) (.ref D) g := ⟨D, fk, rfl, ef4, efk, fun s hs => by
    obtain ⟨u', h1, h2⟩ := fw s hs
    obtain ⟨c1, c2, rfl, c3⟩ := h2
    exact ⟨_, h1, c1, c2, rfl, by rw [upd_ne (fun z => by subst z; rw [s3 _ _ edl] at c3; cases c3)]; exact c3⟩⟩
  generalize upd H3 d (.dK kvs) = H4 at s4 W4
  clear s3 ef4 ef efk fw
  refine ⟨_, rfl, ap, _, rfl, .inl (.inl (s4 _ _ eap)), fun Kl hKl => ?_⟩
  have pml : (p.map pickV).length = n := by rw [List.length_map]; exact pl
  refine lcm walk_enum hKl (Nat.le_trans (by omega : (p.map pickV).length ≤ 10) (by decide)) (fun _ => true) (fun i y _ => y = pickV (if numN q i = 0 then none else pk p i)) (fun i y1 H1 H2 s z => z) (fun H1 s => .inl (.inl ((s4.trans s) _ _ eap))) (fun i x H8 H1 kN' kY hi s y1 kn ky => ?_) (fun H7 ys s7 e7 kp => ?_)
  · obtain ⟨Tp, x1, y1', rfl, hT, rfl, hx, hy⟩ := y1
    cases hx
    have hy : (p.map pickV)[i]? = some y1' := hy
    rw [pk_at (by omega)] at hy
    cases hy
    have s8 := (s4.trans s).trans (same_upd (o := .tup [V.int (i : Nat), pickV (pk p i)]) hT)
    obtain ⟨qv, hqv⟩ : ∃ qv, q[i]? = some qv := ⟨_, List.getElem?_eq_getElem (by omega)⟩
    obtain ⟨yq, hyq, rq⟩ := aq.get hqv
    refine ⟨_, _, rfl, .inl (.inl upd_same), rfl, _, _, rfl, _, _, rfl, rfl, rfl, yes ?_⟩
    refine ⟨_, rfl, _, rfl, au, us, _, yq, rfl, rfl, .inl (.inl (s8 _ _ eu)), atI_nat hyq, fun x dx hx hdx ne => mR1 hx hdx ne fun H5 s5 hz => ⟨rfl, ?_⟩⟩
    refine ⟨qv, 0, rq.n (same_n (s8.trans s5)), hz, _, rfl, ite2 (fun h0 => ?_) (fun h0 => ?_)⟩
    · refine ⟨_, rfl, ky _ _ ((same_upd hT).trans s5) rfl ?_⟩
      rw [if_neg]
      intro e
      unfold numN at e
      rw [hqv] at e
      have e : qv = 0 := e
      rw [e] at h0
      simp at h0
    · refine ky _ _ ((same_upd hT).trans s5) rfl ?_
      rw [if_pos]
      · rfl
      · unfold numN
        rw [hqv]
        have h0 : ¬ (!decide (qv = 0)) = true := h0
        simpa using h0
  obtain ⟨l1, l2⟩ := kp.all
  have eys := map_of (l1.trans pml) l2
  have eys : ys = (keptP n q p).map pickV := by rw [eys]; unfold keptP; rw [List.map_map]; rfl
  subst eys
  have pl' := keptP_len n q p
  have pa' : ∀ s a, pk (keptP n q p) s = some a → a < l.length := fun s a e => pok.lt s a (keptP_some e).2.2
  have s47 := s4.trans s7
  refine ⟨_, rfl, _, rfl, _, rfl, v, n, l, .ref Kl, keptP n q p, .ref D, g, rfl, hv.n (same_n s47), ok, ⟨Kl, rfl, e7⟩, pl', pa', W4.s s7, gn, gd, fun H9 Df fk far s9 ef kok fd fo lr => ?_⟩
  obtain ⟨xh, dxh, mh, vah, vsh, lkh, voh, rfl, eh, hh1, hh2, hh3⟩ := id hv
  have s49 := s47.trans s9
  refine ⟨_, rfl, xh, _, dxh, _, _, rfl, s49 _ _ eh, T.cl_House, T.na_House_states, rfl, (n : Int), rfl, by omega, by omega, fun Dl hDl => ?_⟩
  rw [Int.toNat_natCast]
  refine lcm walk_range hDl (Nat.le_trans n2 (by decide)) (fun _ => true) (fun i y1 H1 => y1 = V.int (((far i).getD 0 : Nat) : Int)) (fun i y1 H1 H2 s z => z) (fun H1 s => trivial) (fun i x H8 H1 kN' kY hi s y1 kn ky => ?_) (fun H10 ys s10 e10 kp2 => ?_)
  · obtain ⟨rfl, ex⟩ := y1
    obtain rfl : x = V.int ((i : Nat) : Int) := ex.trans (congrArg V.int (Int.zero_add _))
    refine ⟨rfl, yes ⟨_, rfl, Df, rfl, .inl ⟨fk, .inl (s _ _ ef)⟩, _, rfl, _, .inl ⟨fk, keyN i, .inl (s _ _ ef), rfl, rfl⟩, ky _ _ (Same.refl _) rfl ?_⟩⟩
    rw [fd i]
    cases far i with
    | none => rfl
    | some m => rfl
  obtain ⟨l3, l4⟩ := kp2.all
  have ey2 := map_of l3 l4
  subst ey2
  refine ⟨Dl, _, rfl, .inl ⟨.inl (.inl e10), fun t ht => ?_⟩⟩
  exact k _ t far ((s49.trans s10).trans (same_upd ht)) upd_same fo lr
end
end Lc
set_option Elab.async false
set_option linter.all false
set_option maxRecDepth 100000
set_option maxHeartbeats 4000000
namespace Lc
open PySem PySem.Spec PyProof.Rows L2 LcR
section
variable {X : Cx} {e st : Expr} {te ts : TE} {p2 pos : Pos}
/-- xs[::-1] of a list -/
def tRevL (K : PySem.W.Frag) (te ts : TE) : TE := fun σ H Q => te σ H fun x H1 => tPart ts σ H1 fun u H2 => u = some (-1) ∧ ∃ a xs, x = .ref a ∧ SqL K H2 a xs ∧ ∀ p, H2 p = none → Q (.ref p) (upd H2 p (.lst xs.reverse))
theorem vals_revL : ∀ {xs : List V} {us : List Value}, Vals xs us → Vals xs.reverse us.reverse
  | _, _, .nil => .nil
  | _, _, .cons a r => by
    rw [List.reverse_cons, List.reverse_cons]
    exact (vals_revL r).append (.cons a .nil)
theorem pe_revL (he : PE X e te) (hs : PE X st ts) : PE X (.Subscript e (.Slice none none (some st) p2) pos) (tRevL X.K te ts) := by
  refine ⟨fun pins s σ H Q I h => ?_⟩
  refine Subscript_ (thn (he.run pins s σ H _ I h) fun v s1 ⟨x, H1, I1, r1, q1⟩ => ?_)
  refine wpAny_Slice ?_
  rw [evalPart_none]
  refine wpAny_pure (wpAny_pure ?_)
  refine thn ((po_some hs).run pins s1 σ H1 _ I1 q1) fun vu s3 ⟨u, H3, I3, pu, eu, a, xs, ex, hx, q3⟩ => ?_
  subst eu ex
  cases r1
  have I4 : Inv X pins σ H3 { s3 with heap := s3.heap.push { cls := .type "slice", data := .fields #[.none, .none, vu] } } := I3.kept (t' := s3.toks) fun b ob q => Heap.get?_push_of_some _ q
  obtain ⟨its, r, ht, hz⟩ := I4.list hx
  have hlen := r.length
  show wpAny (model X.prog X.w) X.A (subscriptTail e (.Slice none none (some st) p2) (.ref a) (.ref s3.heap.objs.size)) (EP X pins σ Q) X.xe { s3 with heap := s3.heap.push { cls := .type "slice", data := .fields #[.none, .none, vu] } }
  refine tail_any (ops := [.ref a, .ref s3.heap.objs.size]) ht.isList.typeIs slot_list_getitem.lookup ?_ (by with_unfolding_all rfl)
  refine wpAny_getItem_list_slice ht.isList (Heap.IsSliceOf.new ..) .none .none pu (by simp) ?_ (by rw [List.size_toArray] <;> omega)
  rw [PySem.W.krv_pick]
  refine ⟨.ref _, _, I4.laid (t' := s3.toks) (o := .lst xs.reverse) (fun b ob q => Heap.get?_push_of_some _ q) (Nat.le_refl _) ?_, rfl, q3 _ (I4.hok.fresh (Nat.le_refl _))⟩
  exact ⟨by rw [List.length_reverse]; exact hz, _, 0, vals_revL r, Heap.get?_push_size _ rfl⟩
end
end Lc
set_option Elab.async false
set_option linter.all false
set_option maxRecDepth 100000
set_option maxHeartbeats 4000000
namespace Lc
open PySem PySem.Spec PyProof.Rows L2 LcR
/-- what has no parts -/
def LeafV (K : PySem.W.Frag) (H : Hp) (x : V) : Prop := x = .non ∨ (∃ i, x = .int i) ∨ ∃ q, IsR K H x q
theorem LeafV.n {K : PySem.W.Frag} {H H' : Hp} {x : V} (h : LeafV K H x) (s : SameN H H') : LeafV K H' x := by
  rcases h with h | h | ⟨q, h⟩
  · exact .inl h
  · exact .inr (.inl h)
  · exact .inr (.inr ⟨q, h.n s⟩)
/-- what is left after j nodes of .ref a :: xs -/
def restOf (a : Addr) (xs : List V) : Nat → List (V × Int)
  | 0 => [(.ref a, -1)]
  | j + 1 => (xs.drop j).reverse.map fun x => (x, 0)
def PL (H : Hp) (u : V) (z : V × Int) : Prop := ∃ t, u = .ref t ∧ H t = some (.tup [z.1, .int z.2])
theorem PL.n {H H' : Hp} {u : V} {z : V × Int} (h : PL H u z) (s : SameN H H') : PL H' u z := by
  obtain ⟨t, rfl, e⟩ := h
  exact ⟨t, rfl, s _ _ e trivial⟩
def ints1 (k : Nat) : List V := (List.range k).map fun i : Nat => V.int ((i : Int) + 1)
theorem ints1_succ (k : Nat) : ints1 k ++ [V.int ((k + 1 : Nat) : Int)] = ints1 (k + 1) := by
  unfold ints1
  rw [List.range_succ, List.map_append]
  rfl
def Bel (N B L b0 : Addr) (H : Hp) (bs : List V) : Prop := ∀ (i : Nat) u, 1 ≤ i → bs[i]? = some u → ∃ c, u = .ref c ∧ H c = some (.lst []) ∧ c ≠ N ∧ c ≠ B ∧ c ≠ L ∧ c ≠ b0
def Off (N B L b0 : Addr) (H H' : Hp) : Prop := ∀ b o, b ≠ N → b ≠ B → b ≠ L → b ≠ b0 → H b = some o → H' b = some o
theorem Bel.off {N B L b0 : Addr} {H H' : Hp} {bs : List V} (h : Bel N B L b0 H bs) (s : Off N B L b0 H H') : Bel N B L b0 H' bs := fun i u hi hu => by
  obtain ⟨c, rfl, e, h1, h2, h3, h4⟩ := h i u hi hu
  exact ⟨c, rfl, s c _ h1 h2 h3 h4 e, h1, h2, h3, h4⟩
theorem rest_last {a : Addr} {xs : List V} : ∀ {j : Nat}, j ≤ xs.length → ∃ y i r, restOf a xs j = r ++ [(y, i)] ∧ (V.ref a :: xs)[j]? = some y ∧ i = (if j = 0 then -1 else 0) ∧ (1 ≤ j → r = restOf a xs (j + 1)) ∧ (j = 0 → r = [])
  | 0, _ => ⟨.ref a, -1, [], rfl, rfl, rfl, fun h => absurd h (by omega), fun _ => rfl⟩
  | j + 1, h => by
    have e : xs.drop j = xs[j] :: xs.drop (j + 1) := List.drop_eq_getElem_cons (by omega)
    refine ⟨xs[j], 0, (xs.drop (j + 1)).reverse.map fun x => (x, 0), ?_, ?_, by rw [if_neg (by omega)], fun _ => rfl, fun z => absurd z (by omega)⟩
    · show (xs.drop j).reverse.map _ = _
      rw [e, List.reverse_cons, List.map_append]
      rfl
    · rw [List.getElem?_cons_succ, List.getElem?_eq_getElem]
section
variable {P : Program} {w : World} {K : PySem.W.Frag} {mg : Str → Option Value} {base : Heap}
theorem leaf_ty {H : Hp} {x : V} (T : Tx K mg) (h : LeafV K H x) : ∃ t, TyX K H x t ∧ PySem.W.kitOne K t (.type "list") = some false ∧ PySem.W.kitOne K t (.type "tuple") = some false ∧ PySem.W.kitOne K t (.type "dict") = some false := by
  rcases h with rfl | ⟨i, rfl⟩ | ⟨q, a, dx, rfl, e⟩
  · exact ⟨_, .base .non, kit_ty (by decide +kernel), kit_ty (by decide +kernel), kit_ty (by decide +kernel)⟩
  · exact ⟨_, .base (.int i), kit_ty (by decide +kernel), kit_ty (by decide +kernel), kit_ty (by decide +kernel)⟩
  · exact ⟨_, ty_R T e, T.kr_list, T.kr_tuple, T.kr_dict⟩
theorem kit_any2 {t a b : Value} {r s : Bool} (h1 : PySem.W.kitOne K t a = some r) (h2 : PySem.W.kitOne K t b = some s) : PySem.W.kitAny K t [a, b] = some (r || s) := by
  refine kitAny_cons h1 (fun e => ?_) (fun e => by rw [e]; rfl)
  refine kitAny_cons h2 (fun e2 => ?_) (fun e2 => by rw [e2]; cases r <;> rfl)
  subst e e2
  rfl
def PartsOf (K : PySem.W.Frag) (H : Hp) (x : V) (xs : List V) : Prop := (∃ a, x = .ref a ∧ H a = some (.tup xs)) ∨ (xs = [] ∧ LeafV K H x)
theorem PartsOf.n {H H' : Hp} {x : V} {xs : List V} (h : PartsOf K H x xs) (s : SameN H H') : PartsOf K H' x xs := by
  rcases h with ⟨a, rfl, e⟩ | ⟨rfl, h⟩
  · exact .inl ⟨a, rfl, s _ _ e trivial⟩
  · exact .inr ⟨rfl, h.n s⟩
def sp_parts_in (K : PySem.W.Frag) : Sp := fun vs H Q _ => ∃ x xs, vs = [x] ∧ PartsOf K H x xs ∧ ∀ H' p, Same H H' → H' p = some (.lst xs) → Q (.ref p) H'
theorem c_parts_in (T : Tx K mg) : C8.Cal P w K mg base 1 "parts_in" (sp_parts_in K) [] := by
  obtain ⟨fd, F⟩ := T.f_parts_in
  refine calD F T.g_parts_in sc_parts_in (fun _ _ _ _ _ _ us hl => match us, hl with | [_], _ => rfl) (fun vs H Q E h => ?_) (fun cdv A outer s H vs Q E hr h => ?_)
  · obtain ⟨_, _, rfl, _⟩ := h; rfl
  obtain ⟨x, xs, rfl, hx, k⟩ := h
  refine ⟨_, (pss_cons (ps_if (pt_val (pe_callB call_isiT (by rfl) T.b_isinstance (by decide +kernel) (pa_cons (pv 0) (pa_cons (pe_tup (pa_cons (pe_bltn (v := .ty "list") (by rfl) T.b_list (by decide +kernel) rfl) (pa_cons (pe_bltn (v := .ty "tuple") (by rfl) T.b_tuple (by decide +kernel) rfl) pa_nil))) pa_nil)))) (pss_one (ps_ret (pe_callTy call_list_of (by rfl) T.b_list (by decide +kernel) (pa_cons (pv 0) pa_nil)))) pss_nil)
      (pss_one (ps_ret (pe_ifExp (pt_val (pe_callB call_isi (by rfl) T.b_isinstance (by decide +kernel) (pa_cons (pv 0) (pa_cons (pe_bltn (v := .ty "dict") (by rfl) T.b_dict (by decide +kernel) rfl) pa_nil)))) pe_nope (pe_lst pa_nil))))), ?_⟩
  refine ⟨_, rfl, by show 2 ≤ sizeLine; decide, fun tp htp => ?_⟩
  have s1 := same_upd (o := .tup [.ty "list", .ty "tuple"]) htp
  have cl : Paired ClsV [V.ty "list", V.ty "tuple"] [Value.type "list", Value.type "tuple"] := .cons (.ty _) (.cons (.ty _) .nil)
  rcases hx.n (same_n s1) with ⟨a, rfl, e⟩ | ⟨rfl, lf⟩
  · refine ⟨_, tp, _, _, _, true, rfl, upd_same, cl, .base (.tup e), kit_any2 (r := false) (s := true) (kit_ty (by decide +kernel)) (kit_ty (by decide +kernel)), true, rfl, iteT ?_⟩
    refine ⟨_, rfl, a, xs, rfl, .inr (.inl (.inl e)), fun p hp => ?_⟩
    exact k _ p (s1.trans (same_upd hp)) upd_same
  · obtain ⟨t, ty, h1, h2, h3⟩ := leaf_ty T lf
    refine ⟨_, tp, _, _, _, false, rfl, upd_same, cl, ty, kit_any2 h1 h2, false, rfl, iteF ?_⟩
    refine ⟨_, rfl, _, _, _, _, false, rfl, .ty _, ty, h3, false, rfl, iteF ⟨Nat.zero_le _, fun p hp => ?_⟩⟩
    exact k _ p (s1.trans (same_upd hp)) upd_same
def sp_made_anew (K : PySem.W.Frag) : Sp := fun vs H Q _ => ∃ x b ys, vs = [x, .ref b] ∧ H b = some (.lst ys) ∧
  (((∃ a xs, x = .ref a ∧ H a = some (.tup xs)) ∧ ∀ H' p, Same H H' → H' p = some (.tup ys) → Q (.ref p) H') ∨ (LeafV K H x ∧ Q x H))
theorem c_made_anew (T : Tx K mg) : C8.Cal P w K mg base 1 "made_anew" (sp_made_anew K) [] := by
  obtain ⟨fd, F⟩ := T.f_made_anew
  refine calD F T.g_made_anew sc_made_anew (fun _ _ _ _ _ _ us hl => match us, hl with | [_, _], _ => rfl) (fun vs H Q E h => ?_) (fun cdv A outer s H vs Q E hr h => ?_)
  · obtain ⟨_, _, _, rfl, _⟩ := h; rfl
  obtain ⟨x, b, ys, rfl, eb, hx⟩ := h
  refine ⟨_, (pss_cons (ps_if (pt_val (pe_callB call_isi (by rfl) T.b_isinstance (by decide +kernel) (pa_cons (pv 0) (pa_cons (pe_bltn (v := .ty "tuple") (by rfl) T.b_tuple (by decide +kernel) rfl) pa_nil)))) (pss_one (ps_ret (pe_callTy call_tuple_of (by rfl) T.b_tuple (by decide +kernel) (pa_cons (pv 1) pa_nil)))) pss_nil)
      (pss_cons (ps_if (pt_val (pe_callB call_isi (by rfl) T.b_isinstance (by decide +kernel) (pa_cons (pv 0) (pa_cons (pe_bltn (v := .ty "dict") (by rfl) T.b_dict (by decide +kernel) rfl) pa_nil)))) (pss_one (ps_ret (LcD.pe_dictZip rfl (by rfl) T.b_dict (by rfl) T.b_zip (pa_cons (pv 0) (pa_cons (pv 1) pa_nil))))) pss_nil)
      (pss_one (ps_ret (pe_ifExp (pt_val (pe_callB call_isi (by rfl) T.b_isinstance (by decide +kernel) (pa_cons (pv 0) (pa_cons (pe_bltn (v := .ty "list") (by rfl) T.b_list (by decide +kernel) rfl) pa_nil)))) (pv 1) (pv 0)))))), ?_⟩
  rcases hx with ⟨⟨a, xs, rfl, e⟩, k⟩ | ⟨lf, k⟩
  · refine ⟨_, rfl, _, _, _, _, true, rfl, .ty _, .base (.tup e), kit_ty (by decide +kernel), true, rfl, iteT ?_⟩
    refine ⟨_, rfl, b, ys, rfl, .inl ⟨.inl (.inl eb), fun p hp => ?_⟩⟩
    exact k _ p (same_upd hp) upd_same
  · obtain ⟨t, ty, h1, h2, h3⟩ := leaf_ty T lf
    refine ⟨_, rfl, _, _, _, _, false, rfl, .ty _, ty, h2, false, rfl, iteF ?_⟩
    refine ⟨_, rfl, _, _, _, _, false, rfl, .ty _, ty, h3, false, rfl, iteF ?_⟩
    exact ⟨_, rfl, _, _, _, _, false, rfl, .ty _, ty, h1, false, rfl, iteF ⟨_, rfl, k⟩⟩
def sp_copied (K : PySem.W.Frag) : Sp := fun vs H Q _ => ∃ a xs, vs = [.ref a] ∧ H a = some (.tup xs) ∧ (∀ x ∈ xs, LeafV K H x) ∧ xs.length ≤ 50 ∧ ∀ H' b, Same H H' → H' b = some (.tup xs) → Q (.ref b) H'
theorem c_copied (T : Tx K mg) : C8.Cal P w K mg base 2 "copied" (sp_copied K) [] := by
  obtain ⟨fd, F⟩ := T.f_copied
  refine calD F T.g_copied sc_copied (fun _ _ _ _ _ _ us hl => match us, hl with | [_], _ => rfl) (fun vs H Q E h => ?_) (fun cdv A outer s H vs Q E hr h => ?_)
  · obtain ⟨_, _, rfl, _⟩ := h; rfl
  obtain ⟨a, xs, rfl, e, lf, x50, k⟩ := h
  refine ⟨_, (pss_cons (ps_par3 (i := 1) (j := 2) (l := 3) (by rfl) sc_copied.nd rfl rfl rfl (by decide) (by decide) (by decide) rfl rfl rfl (pa_cons (pe_lst pa_nil) (pa_cons (pe_lst pa_nil) (pa_cons (pe_lst (pa_cons (pe_tup (pa_cons (pv 0) (pa_cons (pe_un un_neg pe_int) pa_nil))) pa_nil)) pa_nil))) (by rfl))
      (pss_cons (ps_while PassesOwn.never (pt_cmpR (op_neNil hr.units0) (pv 3) (pe_lst pa_nil) (nomark _))
      (pss_cons (ps_asg (pe_bm0 PySem.F.plainAttrs_list PySem.F.slot_list_pop PySem.F.type_list_pop mt_pop (pv 3)) (pg_tup rfl (pgs_cons (pg_name (i := 4) sc_copied.nd rfl (Or.inl rfl)) (pgs_cons (pg_name (i := 5) sc_copied.nd rfl (Or.inl rfl)) pgs_nil))))
      (pss_cons (ps_set (i := 6) sc_copied.nd rfl (Or.inr rfl) (pe_callB call_len (by rfl) T.b_len (by decide +kernel) (pa_cons (pv 1) pa_nil)))
      (pss_cons (ps_expr (pe_bm PySem.F.plainAttrs_list PySem.F.slot_list_append PySem.F.type_list_append mt_append (pv 1) (pa_cons (pv 4) pa_nil)))
      (pss_cons (ps_expr (pe_bm PySem.F.plainAttrs_list PySem.F.slot_list_append PySem.F.type_list_append mt_append (pv 2) (pa_cons (pe_lst pa_nil) pa_nil)))
      (pss_cons (ps_if (pt_cmpR op_ge (pv 5) pe_int (nomark _)) (pss_one (ps_expr (pe_bm PySem.F.plainAttrs_list PySem.F.slot_list_append PySem.F.type_list_append mt_append (pe_ix ix_list (pv 2) (pv 5) (fun _ _ => rfl)) (pa_cons (pv 6) pa_nil)))) pss_nil)
      (pss_one (ps_expr (pe_bm PySem.F.plainAttrs_list PySem.F.slot_list_extend PySem.F.type_list_extend mt_extend (pv 3) (pa_cons (pe_lc (own := [("part", 8)]) (g := gName 8) (by rfl) sc_copied.nd (pi_list (pe_revL (C8.pe_c (c_parts_in T) hr (by decide) (by rfl) (pa_cons (pv 4) pa_nil)) (pe_un un_neg pe_int))) (blkOk_by (own := [("part", 8)]) (N := N_copied) (sc := defScope s_copied) (by decide +kernel)) (fun _ _ _ _ _ => (pg_name (i := 8) sc_copied.nd rfl (Or.inl rfl))) (fun _ _ _ _ _ => pts_nil) (fun _ _ _ _ _ => (pe_tup (pa_cons (pv 8) (pa_cons (pv 6) pa_nil))))) pa_nil))))))))))
      (pss_cons (ps_set (i := 7) sc_copied.nd rfl (Or.inr rfl) (pe_callTy call_list_of (by rfl) T.b_list (by decide +kernel) (pa_cons (pv 1) pa_nil)))
      (pss_cons (ps_for PassesOwn.never rfl (pi_range3 (by rfl) T.b_range (pa_cons (pe_op op_sub (pe_callB call_len (by rfl) T.b_len (by decide +kernel) (pa_cons (pv 1) pa_nil)) pe_int) (pa_cons (pe_un un_neg pe_int) (pa_cons (pe_un un_neg pe_int) pa_nil)))) (pg_name (i := 6) sc_copied.nd rfl (Or.inr rfl))
      (pss_one (ps_asg (C8.pe_c (c_made_anew T) hr (by decide) (by rfl) (pa_cons (pe_ix ix_list (pv 1) (pv 6) (fun _ _ => rfl)) (pa_cons (pe_lc (own := [("one", 9)]) (g := gName 9) (te := (tOp (rIxL K) (tVar 7) (tVar 9))) (by rfl) sc_copied.nd (pi_list (pe_ix ix_list (pv 2) (pv 6) (fun _ _ => rfl))) (blkOk_by (own := [("one", 9)]) (N := N_copied) (sc := defScope s_copied) (by decide +kernel)) (fun _ _ _ _ _ => (pg_name (i := 9) sc_copied.nd rfl (Or.inl rfl))) (fun _ _ _ _ _ => pts_nil) (fun _ _ _ _ _ => (pe_ix ix_list (pv 7) (pv 9) (fun _ _ => rfl)))) pa_nil))) (pg_sub (pv 7) (pv 6) set_list))))
      (pss_one (ps_ret (pe_ix ix_list (pv 7) pe_int (fun _ _ => rfl)))))))), ?_⟩
  refine ⟨Nat.zero_le _, fun N hN => ⟨Nat.zero_le _, fun B hB => ⟨_, rfl, 1, rfl, by show 2 ≤ sizeLine; decide, fun t0 ht0 => ⟨by show 1 ≤ sizeLine; decide, fun L hL => ⟨_, _, _, rfl, ?_⟩⟩⟩⟩⟩
  have s1 := ((same_upd (o := .lst []) hN).trans (same_upd (o := .lst []) hB)).trans ((same_upd (o := .tup [.ref a, .int (-1)]) ht0).trans (same_upd (o := .lst [.ref t0]) hL))
  have hBH : H B = none := none_back (same_upd (o := .lst []) hN) hB
  have hLH : H L = none := none_back ((same_upd (o := .lst []) hN).trans ((same_upd (o := .lst []) hB).trans (same_upd (o := .tup [.ref a, .int (-1)]) ht0))) hL
  have nNB : N ≠ B := fun z => by subst z; rw [upd_same] at hB; cases hB
  have nNt : N ≠ t0 := fun z => by subst z; rw [upd_ne nNB, upd_same] at ht0; cases ht0
  have nBt : B ≠ t0 := fun z => by subst z; rw [upd_same] at ht0; cases ht0
  have nNL : N ≠ L := fun z => by subst z; rw [upd_ne nNt, upd_ne nNB, upd_same] at hL; cases hL
  have nBL : B ≠ L := fun z => by subst z; rw [upd_ne nBt, upd_same] at hL; cases hL
  have ntL : t0 ≠ L := fun z => by subst z; rw [upd_same] at hL; cases hL
  have eN1 : upd (upd (upd (upd H N (.lst [])) B (.lst [])) t0 (.tup [.ref a, .int (-1)])) L (.lst [.ref t0]) N = some (.lst []) := by rw [upd_ne nNL, upd_ne nNt, upd_ne nNB, upd_same]
  have eB1 : upd (upd (upd (upd H N (.lst [])) B (.lst [])) t0 (.tup [.ref a, .int (-1)])) L (.lst [.ref t0]) B = some (.lst []) := by rw [upd_ne nBL, upd_ne nBt, upd_same]
  have eL1 : upd (upd (upd (upd H N (.lst [])) B (.lst [])) t0 (.tup [.ref a, .int (-1)])) L (.lst [.ref t0]) L = some (.lst [.ref t0]) := upd_same
  have et1 : upd (upd (upd (upd H N (.lst [])) B (.lst [])) t0 (.tup [.ref a, .int (-1)])) L (.lst [.ref t0]) t0 = some (.tup [.ref a, .int (-1)]) := by rw [upd_ne ntL, upd_same]
  have s1' : Same H (upd (upd (upd (upd H N (.lst [])) B (.lst [])) t0 (.tup [.ref a, .int (-1)])) L (.lst [.ref t0])) := s1
  show tSeq _ _ _ _ (upd (upd (upd (upd H N (.lst [])) B (.lst [])) t0 (.tup [.ref a, .int (-1)])) L (.lst [.ref t0]))
  generalize upd (upd (upd (upd H N (.lst [])) B (.lst [])) t0 (.tup [.ref a, .int (-1)])) L (.lst [.ref t0]) = H1 at s1' eN1 eB1 eL1 et1
  have al : (V.ref a :: xs).length = xs.length + 1 := rfl
  refine ⟨fun m σ H2 => ∃ j bs ls b0, (∃ x4 x5 x6, σ = [some (.ref a), some (.ref N), some (.ref B), some (.ref L), x4, x5, x6, none, none, none]) ∧ j ≤ xs.length + 1 ∧ Same H H2 ∧ H2 N = some (.lst ((V.ref a :: xs).take j)) ∧ H2 B = some (.lst bs) ∧ bs.length = j ∧ H2 L = some (.lst ls) ∧ All2 (PL H2) ls (restOf a xs j) ∧
      (1 ≤ j → bs[0]? = some (.ref b0) ∧ H2 b0 = some (.lst (ints1 (j - 1))) ∧ b0 ≠ N ∧ b0 ≠ B ∧ b0 ≠ L ∧ H b0 = none) ∧ Bel N B L b0 H2 bs ∧ m = xs.length + 1 - j,
    ⟨_, 0, [], [.ref t0], N, ⟨none, none, none, rfl⟩, by omega, s1', eN1, eB1, rfl, eL1, all2_one ⟨t0, rfl, et1⟩, fun h => absurd h (by omega), fun i u _ h => by simp at h, rfl⟩, ?_⟩
  rintro m σ H2 ⟨j, bs, ls, b0, ⟨z4, z5, z6, rfl⟩, hj, s2, eN, eB, bl, eL, aL, hb0, bel, rfl⟩
  refine ⟨_, rfl, Nat.zero_le _, fun Z hZ => ?_⟩
  have nLZ : L ≠ Z := fun z => by subst z; rw [eL] at hZ; cases hZ
  have t3 := same_upd (o := .lst []) hZ
  refine ⟨L, Z, ls, rfl, rfl, .inl (.inl (t3 _ _ eL)), .inl (.inl upd_same), _, rfl, ite2 (fun h0 => ?_) (fun h0 => ?_)⟩
  · have hj' : j ≤ xs.length := by
      apply Classical.byContradiction
      intro hc
      have e1 : j = xs.length + 1 := by omega
      subst e1
      have l0 := aL.1
      have : restOf a xs (xs.length + 1) = [] := by show (xs.drop xs.length).reverse.map _ = []; simp
      rw [this] at l0
      have : ls = [] := List.length_eq_zero_iff.mp l0
      rw [this] at h0
      cases h0
    obtain ⟨y, i, r, er, ey, ei, er2, er0⟩ := rest_last (a := a) hj'
    rw [er] at aL
    have lsl : ls.length = r.length + 1 := by have := aL.1; simpa using this
    obtain ⟨u, hu, t, rfl, et⟩ := aL.get (i := r.length) (y := (y, i)) (by rw [List.getElem?_append_right (Nat.le_refl _), Nat.sub_self]; rfl)
    have aL' : All2 (PL H2) ls.dropLast r := by
      have h1 := all2_take aL r.length
      rw [List.take_left' rfl] at h1
      rw [List.dropLast_eq_take, lsl]
      exact h1
    have leaf_y : 1 ≤ j → LeafV K H y := fun h1 => by
      obtain ⟨j', rfl⟩ : ∃ j', j = j' + 1 := ⟨j - 1, by omega⟩
      rw [List.getElem?_cons_succ] at ey
      exact lf y (List.mem_of_getElem? ey)
    have y0 : j = 0 → y = .ref a := fun h1 => by subst h1; simpa using ey.symm
    refine ⟨fun σ' H' => ∃ bs ls b0, (∃ x4 x5 x6, σ' = [some (.ref a), some (.ref N), some (.ref B), some (.ref L), x4, x5, x6, none, none, none]) ∧ Same H H' ∧ H' N = some (.lst ((V.ref a :: xs).take (j + 1))) ∧ H' B = some (.lst bs) ∧ bs.length = j + 1 ∧ H' L = some (.lst ls) ∧ All2 (PL H') ls (restOf a xs (j + 1)) ∧
        (bs[0]? = some (.ref b0) ∧ H' b0 = some (.lst (ints1 j)) ∧ b0 ≠ N ∧ b0 ≠ B ∧ b0 ≠ L ∧ H b0 = none) ∧ Bel N B L b0 H' bs,
      fun σ' H' ⟨bs', ls', b0', c1, c2, c3, c4, c5, c6, c7, c8, c9⟩ => ⟨xs.length + 1 - (j + 1), by omega, j + 1, bs', ls', b0', c1, by omega, c2, c3, c4, c5, c6, c7, fun _ => c8, c9, rfl⟩, ?_⟩
    have s3 := s2.trans t3
    have eN3 := t3 _ _ eN
    have eB3 := t3 _ _ eB
    have eL3 := t3 _ _ eL
    generalize upd H2 Z (.lst []) = H3 at t3 s3 eN3 eB3 eL3
    refine ⟨_, rfl, .inl ⟨rfl, ls, .inl (.inl eL3)⟩, L, ls, _, rfl, rfl, eL3, by rw [lsl, Nat.add_sub_cancel]; exact hu, ?_⟩
    have sn4 : SameN H3 (upd H3 L (.lst ls.dropLast)) := sameN_upd eL3 (fun z => z)
    have s4 : Same H (upd H3 L (.lst ls.dropLast)) := same_at s3 hLH
    have eN4 : upd H3 L (.lst ls.dropLast) N = some (.lst ((V.ref a :: xs).take j)) := by rw [upd_ne nNL]; exact eN3
    have eB4 : upd H3 L (.lst ls.dropLast) B = some (.lst bs) := by rw [upd_ne nBL]; exact eB3
    have eL4 : upd H3 L (.lst ls.dropLast) L = some (.lst ls.dropLast) := upd_same
    have of4 : Off N B L b0 H2 (upd H3 L (.lst ls.dropLast)) := fun b o _ _ h3 _ e => by rw [upd_ne h3]; exact t3 _ _ e
    have of4' : ∀ b o, b ≠ L → H2 b = some o → upd H3 L (.lst ls.dropLast) b = some o := fun b o h3 e => by rw [upd_ne h3]; exact t3 _ _ e
    have n24 : SameN H2 (upd H3 L (.lst ls.dropLast)) := (same_n t3).trans sn4
    generalize upd H3 L (.lst ls.dropLast) = H4 at s4 eN4 eB4 eL4 of4 of4' n24
    refine ⟨t, _, rfl, .inl (.inl (n24 _ _ et trivial)), rfl, _, _, rfl, _, _, rfl, rfl, ?_⟩
    have ntk : ((V.ref a :: xs).take j).length = j := by rw [List.length_take]; omega
    refine ⟨_, rfl, _, j, rfl, .inl ⟨_, .inl (.inl eN4), ntk.symm⟩, ?_⟩
    refine ⟨_, rfl, .inl ⟨rfl, _, .inl (.inl eN4)⟩, _, rfl, N, _, _, rfl, rfl, eN4, Nat.lt_of_le_of_lt (by omega : ((V.ref a :: xs).take j).length ≤ 51) (by decide), ?_⟩
    have etk : (V.ref a :: xs).take j ++ [y] = (V.ref a :: xs).take (j + 1) := by rw [List.take_add_one, ey]; rfl
    rw [etk]
    have s5 : Same H (upd H4 N (.lst ((V.ref a :: xs).take (j + 1)))) := same_at s4 hN
    have eN5 : upd H4 N (.lst ((V.ref a :: xs).take (j + 1))) N = some (.lst ((V.ref a :: xs).take (j + 1))) := upd_same
    have eB5 : upd H4 N (.lst ((V.ref a :: xs).take (j + 1))) B = some (.lst bs) := by rw [upd_ne nNB.symm]; exact eB4
    have eL5 : upd H4 N (.lst ((V.ref a :: xs).take (j + 1))) L = some (.lst ls.dropLast) := by rw [upd_ne nNL.symm]; exact eL4
    have of5 : ∀ b o, b ≠ N → b ≠ L → H2 b = some o → upd H4 N (.lst ((V.ref a :: xs).take (j + 1))) b = some o := fun b o h1 h3 e => by rw [upd_ne h1]; exact of4' b o h3 e
    have n25 : SameN H2 (upd H4 N (.lst ((V.ref a :: xs).take (j + 1)))) := n24.trans (sameN_upd eN4 (fun z => z))
    generalize upd H4 N (.lst ((V.ref a :: xs).take (j + 1))) = H5 at s5 eN5 eB5 eL5 of5 n25
    refine ⟨_, rfl, .inl ⟨rfl, _, .inl (.inl eB5)⟩, Nat.zero_le _, fun c hc => ⟨B, bs, _, rfl, rfl, same_upd hc _ _ eB5, Nat.lt_of_le_of_lt (by omega : bs.length ≤ 51) (by decide), ?_⟩⟩
    have cN : c ≠ N := fun z => by subst z; rw [eN5] at hc; cases hc
    have cB : c ≠ B := fun z => by subst z; rw [eB5] at hc; cases hc
    have cL : c ≠ L := fun z => by subst z; rw [eL5] at hc; cases hc
    have cH : H c = none := none_back s5 hc
    have s6 : Same H (upd (upd H5 c (.lst [])) B (.lst (bs ++ [.ref c]))) := same_at (s5.trans (same_upd hc)) hBH
    have eN6 : upd (upd H5 c (.lst [])) B (.lst (bs ++ [.ref c])) N = some (.lst ((V.ref a :: xs).take (j + 1))) := by rw [upd_ne nNB, upd_ne cN.symm]; exact eN5
    have eB6 : upd (upd H5 c (.lst [])) B (.lst (bs ++ [.ref c])) B = some (.lst (bs ++ [.ref c])) := upd_same
    have eL6 : upd (upd H5 c (.lst [])) B (.lst (bs ++ [.ref c])) L = some (.lst ls.dropLast) := by rw [upd_ne nBL.symm, upd_ne cL.symm]; exact eL5
    have ec6 : upd (upd H5 c (.lst [])) B (.lst (bs ++ [.ref c])) c = some (.lst []) := by rw [upd_ne cB, upd_same]
    have of6 : ∀ b o, b ≠ N → b ≠ B → b ≠ L → H2 b = some o → upd (upd H5 c (.lst [])) B (.lst (bs ++ [.ref c])) b = some o := fun b o h1 h2 h3 e => by
      have := of5 b o h1 h3 e
      rw [upd_ne h2, upd_ne (fun z => by rw [z, hc] at this; cases this)]
      exact this
    have n26 : SameN H2 (upd (upd H5 c (.lst [])) B (.lst (bs ++ [.ref c]))) := n25.trans ((sameN_new hc).trans (sameN_upd (same_upd hc _ _ eB5) (fun z => z)))
    have cb2 : ∀ b o, b ≠ N → b ≠ L → H2 b = some o → c ≠ b := fun b o h1 h3 e z => by
      subst z
      have := of5 c o h1 h3 e
      rw [hc] at this
      cases this
    generalize upd (upd H5 c (.lst [])) B (.lst (bs ++ [.ref c])) = H6 at s6 eN6 eB6 eL6 ec6 of6 n26
    have bel7 : ∀ (H7 : Hp), (∀ b o, b ≠ N → b ≠ B → b ≠ L → b ≠ b0 → H6 b = some o → H7 b = some o) → 1 ≤ j → Bel N B L b0 H7 (bs ++ [.ref c]) := fun H7 h7 h1j ii u' hi' hu' => by
      obtain ⟨hbs, hb1, hbN, hbB, hbL, hbH⟩ := hb0 h1j
      have ncb : c ≠ b0 := cb2 b0 _ hbN hbL hb1
      by_cases hlt : ii < bs.length
      · rw [List.getElem?_append_left hlt] at hu'
        obtain ⟨c', rfl, e', h1, h2, h3, h4⟩ := bel ii u' hi' hu'
        exact ⟨c', rfl, h7 _ _ h1 h2 h3 h4 (of6 _ _ h1 h2 h3 e'), h1, h2, h3, h4⟩
      · have : ii = bs.length := by
          have := (List.getElem?_eq_some_iff.mp hu').1
          rw [List.length_append] at this
          have h1 : [V.ref c].length = 1 := rfl
          omega
        subst this
        rw [List.getElem?_append_right (Nat.le_refl _), Nat.sub_self] at hu'
        cases hu'
        exact ⟨c, rfl, h7 _ _ cN cB cL ncb ec6, cN, cB, cL, ncb⟩
    rcases Nat.eq_zero_or_pos j with hz | hpos
    · have ei0 : i = -1 := by rw [ei, if_pos hz]
      have yy := y0 hz
      subst ei0
      refine ⟨_, rfl, _, _, rfl, rfl, false, rfl, iteF ?_⟩
      have s7 := s6
      have eN7 := eN6
      have eB7 := eB6
      have eL7 := eL6
      have n27 := n26
      refine ⟨_, rfl, .inl ⟨rfl, _, .inl (.inl eL7)⟩, _, rfl, y, xs, rfl, .inl ⟨a, yy ▸ rfl, s7 _ _ e⟩, fun H8 pp s8 epp => ?_⟩
      refine ⟨_, rfl, _, rfl, rfl, pp, xs, rfl, .inl (.inl epp), fun p2 hp2 => ⟨p2, rfl, ⟨_, .inl (.inl upd_same)⟩, fun D hD => ?_⟩⟩
      have s78 := s8.trans (same_upd (o := .lst (xs).reverse) hp2)
      have ep2 : upd H8 p2 (.lst (xs).reverse) p2 = some (.lst (xs).reverse) := upd_same
      generalize upd H8 p2 (.lst (xs).reverse) = H9 at s78 ep2 hD
      refine lcm walk_list hD (Nat.le_trans (by simp; try omega : (xs).reverse.length ≤ 50) (by decide)) (fun _ => true) (fun jj u H1 => ∃ x, (xs).reverse[jj]? = some x ∧ PL H1 u (x, (j : Int))) (fun jj u H1 H2 s z => ?_) (fun H1 s => .inl (.inl (s _ _ ep2))) (fun jj x H12 H1 kN' kY hjj s u kn ky => ?_) (fun H10 ys s10 e10 kp => ?_)
      · obtain ⟨x, h1, h2⟩ := z
        exact ⟨x, h1, h2.n s⟩
      · obtain ⟨rfl, hx⟩ := u
        exact ⟨rfl, yes ⟨_, rfl, _, rfl, by show 2 ≤ sizeLine; decide, fun q hq => ky _ _ (same_upd hq) rfl ⟨x, hx, q, rfl, upd_same⟩⟩⟩
      obtain ⟨l1, l2⟩ := kp.all
      have s710 := s78.trans s10
      have eL10 := s710 _ _ eL7
      have lys : ls.dropLast.length + ys.length ≤ 200 := by
        have := aL'.1
        have h1 : (xs).reverse.length ≤ 50 := by simp; try omega
        have h2 : r.length ≤ 50 := by
          by_cases hz : j = 0
          · rw [er0 hz]; simp
          · rw [er2 (by omega)]
            show ((xs.drop j).reverse.map _).length ≤ 50
            simp
            omega
        omega
      refine ⟨L, D, _, ys, rfl, rfl, eL10, e10, Nat.le_trans lys (by decide), ⟨bs ++ [.ref c], ls.dropLast ++ ys, c, ⟨_, _, _, rfl⟩, same_at (s7.trans s710) hLH, ?_, ?_, by rw [List.length_append, bl]; rfl, upd_same, ?_, ?_, ?_⟩⟩
      · rw [upd_ne nNL]; exact s710 _ _ eN7
      · rw [upd_ne nBL]; exact s710 _ _ eB7
      · have nn : SameN H2 (upd H10 L (.lst (ls.dropLast ++ ys))) := n27.trans ((same_n s710).trans (sameN_upd eL10 (fun z => z)))
        have aY : All2 (PL (upd H10 L (.lst (ls.dropLast ++ ys)))) ys ((xs).reverse.map fun x => (x, (j : Int))) := all2_of (by rw [l1, List.length_map]) fun jj u hu => by
          obtain ⟨x, h1, h2⟩ := l2 jj u hu
          exact ⟨(x, (j : Int)), by rw [List.getElem?_map, h1]; rfl, h2.n (sameN_upd eL10 (fun z => z))⟩
        have aA := all2_append (aL'.imp fun x y z => z.n nn) aY
        subst hz
        rw [er0 rfl] at aA
        exact aA
      · refine ⟨?_, ?_, cN, cB, cL, cH⟩
        · rw [List.length_eq_zero_iff.mp (bl.trans hz)]; rfl
        · rw [upd_ne cL]
          subst hz
          exact s710 _ _ ec6
      · intro ii u' hi' hu'
        rw [List.length_eq_zero_iff.mp (bl.trans hz)] at hu'
        have := (List.getElem?_eq_some_iff.mp hu').1
        have h1 : ([] ++ [V.ref c]).length = 1 := rfl
        omega
    · have ei0 : i = 0 := by rw [ei, if_neg (by omega)]
      subst ei0
      obtain ⟨hbs, hb1, hbN, hbB, hbL, hbH⟩ := hb0 hpos
      have eb6 := of6 _ _ hbN hbB hbL hb1
      refine ⟨_, rfl, _, _, rfl, rfl, true, rfl, iteT ?_⟩
      have g0 : (bs ++ [V.ref c])[0]? = some (.ref b0) := by rw [List.getElem?_append_left (by omega)]; exact hbs
      refine ⟨_, rfl, _, rfl, B, _, 0, _, rfl, rfl, .inl (.inl eB6), atI_nat g0, .inl ⟨rfl, _, .inl (.inl eb6)⟩, _, rfl, b0, _, _, rfl, rfl, eb6, Nat.lt_of_le_of_lt (by unfold ints1; rw [List.length_map, List.length_range]; omega : (ints1 (j - 1)).length ≤ 51) (by decide), ?_⟩
      have ei1 : ints1 (j - 1) ++ [V.int (j : Int)] = ints1 j := by
        have := ints1_succ (j - 1)
        rw [show j - 1 + 1 = j by omega] at this
        exact this
      rw [ei1]
      have ncb : c ≠ b0 := cb2 b0 _ hbN hbL hb1
      have s7 : Same H (upd H6 b0 (.lst (ints1 j))) := same_at s6 hbH
      have eN7 : upd H6 b0 (.lst (ints1 j)) N = some (.lst ((V.ref a :: xs).take (j + 1))) := by rw [upd_ne hbN.symm]; exact eN6
      have eB7 : upd H6 b0 (.lst (ints1 j)) B = some (.lst (bs ++ [.ref c])) := by rw [upd_ne hbB.symm]; exact eB6
      have eL7 : upd H6 b0 (.lst (ints1 j)) L = some (.lst ls.dropLast) := by rw [upd_ne hbL.symm]; exact eL6
      have n27 : SameN H2 (upd H6 b0 (.lst (ints1 j))) := n26.trans (sameN_upd eb6 (fun z => z))
      have ob7 : ∀ b o, b ≠ N → b ≠ B → b ≠ L → b ≠ b0 → H6 b = some o → upd H6 b0 (.lst (ints1 j)) b = some o := fun b o _ _ _ h4 e => by rw [upd_ne h4]; exact e
      have eb7 : upd H6 b0 (.lst (ints1 j)) b0 = some (.lst (ints1 j)) := upd_same
      generalize upd H6 b0 (.lst (ints1 j)) = H7 at s7 eN7 eB7 eL7 n27 ob7 eb7
      refine ⟨_, rfl, .inl ⟨rfl, _, .inl (.inl eL7)⟩, _, rfl, y, ([] : List V), rfl, .inr ⟨rfl, (leaf_y hpos).n (same_n s7)⟩, fun H8 pp s8 epp => ?_⟩
      refine ⟨_, rfl, _, rfl, rfl, pp, ([] : List V), rfl, .inl (.inl epp), fun p2 hp2 => ⟨p2, rfl, ⟨_, .inl (.inl upd_same)⟩, fun D hD => ?_⟩⟩
      have s78 := s8.trans (same_upd (o := .lst (([] : List V)).reverse) hp2)
      have ep2 : upd H8 p2 (.lst (([] : List V)).reverse) p2 = some (.lst (([] : List V)).reverse) := upd_same
      generalize upd H8 p2 (.lst (([] : List V)).reverse) = H9 at s78 ep2 hD
      refine lcm walk_list hD (Nat.le_trans (by simp; try omega : (([] : List V)).reverse.length ≤ 50) (by decide)) (fun _ => true) (fun jj u H1 => ∃ x, (([] : List V)).reverse[jj]? = some x ∧ PL H1 u (x, (j : Int))) (fun jj u H1 H2 s z => ?_) (fun H1 s => .inl (.inl (s _ _ ep2))) (fun jj x H12 H1 kN' kY hjj s u kn ky => ?_) (fun H10 ys s10 e10 kp => ?_)
      · obtain ⟨x, h1, h2⟩ := z
        exact ⟨x, h1, h2.n s⟩
      · obtain ⟨rfl, hx⟩ := u
        exact ⟨rfl, yes ⟨_, rfl, _, rfl, by show 2 ≤ sizeLine; decide, fun q hq => ky _ _ (same_upd hq) rfl ⟨x, hx, q, rfl, upd_same⟩⟩⟩
      obtain ⟨l1, l2⟩ := kp.all
      have s710 := s78.trans s10
      have eL10 := s710 _ _ eL7
      have lys : ls.dropLast.length + ys.length ≤ 200 := by
        have := aL'.1
        have h1 : (([] : List V)).reverse.length ≤ 50 := by simp; try omega
        have h2 : r.length ≤ 50 := by
          by_cases hz : j = 0
          · rw [er0 hz]; simp
          · rw [er2 (by omega)]
            show ((xs.drop j).reverse.map _).length ≤ 50
            simp
            omega
        omega
      refine ⟨L, D, _, ys, rfl, rfl, eL10, e10, Nat.le_trans lys (by decide), ⟨bs ++ [.ref c], ls.dropLast ++ ys, b0, ⟨_, _, _, rfl⟩, same_at (s7.trans s710) hLH, ?_, ?_, by rw [List.length_append, bl]; rfl, upd_same, ?_, ?_, ?_⟩⟩
      · rw [upd_ne nNL]; exact s710 _ _ eN7
      · rw [upd_ne nBL]; exact s710 _ _ eB7
      · have nn : SameN H2 (upd H10 L (.lst (ls.dropLast ++ ys))) := n27.trans ((same_n s710).trans (sameN_upd eL10 (fun z => z)))
        have aY : All2 (PL (upd H10 L (.lst (ls.dropLast ++ ys)))) ys ((([] : List V)).reverse.map fun x => (x, (j : Int))) := all2_of (by rw [l1, List.length_map]) fun jj u hu => by
          obtain ⟨x, h1, h2⟩ := l2 jj u hu
          exact ⟨(x, (j : Int)), by rw [List.getElem?_map, h1]; rfl, h2.n (sameN_upd eL10 (fun z => z))⟩
        have aA := all2_append (aL'.imp fun x y z => z.n nn) aY
        have y0 : ys = [] := List.length_eq_zero_iff.mp (by rw [l1]; rfl)
        rw [er2 hpos] at aA
        simpa using aA
      · refine ⟨g0, ?_, hbN, hbB, hbL, hbH⟩
        rw [upd_ne hbL]
        exact s710 _ _ eb7
      · refine bel7 _ (fun b o h1 h2 h3 h4 e => ?_) hpos
        rw [upd_ne h3]
        exact s710 _ _ (ob7 b o h1 h2 h3 h4 e)
  · have lsn : ls = [] := by
      cases ls with
      | nil => rfl
      | cons u r => exact absurd rfl h0
    have hjn : j = xs.length + 1 := by
      apply Classical.byContradiction
      intro hc
      obtain ⟨y, i, r, er, _⟩ := rest_last (a := a) (xs := xs) (j := j) (by omega)
      have := aL.1
      rw [er, lsn] at this
      simp at this
    subst hjn
    have s3 := s2.trans t3
    have eN3 := t3 _ _ eN
    have eB3 := t3 _ _ eB
    obtain ⟨hbs, hb1, hbN, hbB, hbL, hbH⟩ := hb0 (by omega)
    have eb3 := t3 _ _ hb1
    have bel3 : Bel N B L b0 (upd H2 Z (.lst [])) bs := bel.off fun b o _ _ _ _ e => t3 _ _ e
    generalize upd H2 Z (.lst []) = H3 at s3 eN3 eB3 eb3 bel3
    have tka : (V.ref a :: xs).take (xs.length + 1) = V.ref a :: xs := List.take_of_length_le (Nat.le_refl _)
    rw [tka] at eN3
    have SN : SqL K H3 N (V.ref a :: xs) := .inl (.inl eN3)
    refine ⟨_, rfl, N, _, rfl, .inl SN, fun Fd hFd => ?_⟩
    have s4 := s3.trans (same_upd (o := .lst (V.ref a :: xs)) hFd)
    have t4 := same_upd (o := .lst (V.ref a :: xs)) hFd
    refine ⟨_, rfl, _, xs.length + 1, rfl, .inl ⟨_, .inl (.inl (t4 _ _ eN3)), rfl⟩, _, _, rfl, rfl, ?_⟩
    refine ⟨1, rfl, 1, rfl, _, _, _, xs.length + 1, rfl, ?_, ?_⟩
    · have := RgC.neg (i := (((xs.length + 1 : Nat) : Int) - 1)) (j := -1) (by omega) (by omega) (by omega) (by omega)
      rw [show ((((xs.length + 1 : Nat) : Int) - 1) - (-1)).toNat = xs.length + 1 by omega] at this
      exact this
    refine for_it walk_rangeC (fun i σ H6 => (∃ x4 x5 x6 x9, σ = [some (.ref a), some (.ref N), some (.ref B), some (.ref L), x4, x5, x6, some (.ref Fd), none, x9]) ∧ Same H3 H6 ∧ ∃ fs, H6 Fd = some (.lst fs) ∧ (i ≤ xs.length → fs = V.ref a :: xs) ∧ (i = xs.length + 1 → ∃ Tt, fs = V.ref Tt :: xs ∧ H6 Tt = some (.tup xs)))
      ⟨⟨z4, z5, z6, none, rfl⟩, t4, _, upd_same, fun _ => rfl, fun h => absurd h (by omega)⟩ (fun i σ H2 _ p => trivial) ?_ ?_
    · rintro i x σ H6 H7 hi ⟨⟨x4, x5, x6, x9, rfl⟩, s6, fs, eF, hf, _⟩ ⟨rfl, ex⟩
      have ef := hf (by omega)
      subst ef
      obtain rfl : x = V.int ((xs.length - i : Nat) : Int) := ex.trans (congrArg V.int (by omega))
      have hg : ∃ y, (V.ref a :: xs)[xs.length - i]? = some y := ⟨_, List.getElem?_eq_getElem (by show _ < xs.length + 1; omega)⟩
      obtain ⟨y, hy⟩ := hg
      have eN6 := s6 _ _ eN3
      have eB6 := s6 _ _ eB3
      have hFH : H Fd = none := none_back s3 hFd
      by_cases hz : i = xs.length
      · subst hz
        rw [Nat.sub_self] at hy ⊢
        obtain rfl : V.ref a = y := by simpa using hy
        have eb6 := s6 _ _ eb3
        refine ⟨_, rfl, _, rfl, N, _, _, _, rfl, rfl, .inl (.inl eN6), atI_nat hy, ?_⟩
        refine ⟨_, rfl, _, rfl, B, bs, _, _, rfl, rfl, .inl (.inl eB6), atI_nat hbs, b0, rfl, ⟨_, .inl (.inl eb6)⟩, fun D hD => ?_⟩
        have il : (ints1 (xs.length + 1 - 1)).length = xs.length := by unfold ints1; rw [List.length_map, List.length_range]; rfl
        refine lcm walk_list hD (Nat.le_trans (by omega : (ints1 (xs.length + 1 - 1)).length ≤ 50) (by decide)) (fun _ => true) (fun jj u _ => xs[jj]? = some u) (fun _ _ _ _ _ h => h) (fun H1 s => .inl (.inl (s _ _ eb6))) (fun jj x H12 H1 kN' kY hjj s u kn ky => ?_) (fun H10 ys s10 e10 kp => ?_)
        · obtain ⟨rfl, hx⟩ := u
          have hjn : jj < xs.length := by omega
          have hxe : x = V.int ((jj + 1 : Nat) : Int) := by
            unfold ints1 at hx
            rw [List.getElem?_map, List.getElem?_range (by omega)] at hx
            cases hx
            rfl
          subst hxe
          have hv := List.getElem?_eq_getElem hjn
          refine ⟨rfl, yes ⟨_, rfl, _, rfl, Fd, _, _, _, rfl, rfl, .inl (.inl (s _ _ eF)), atI_nat (by rw [List.getElem?_cons_succ]; exact hv), ky _ _ (Same.refl _) rfl hv⟩⟩
        obtain ⟨l1, l2⟩ := kp.all
        have eys : ys = xs := by
          apply List.ext_getElem?
          intro jj
          by_cases hh : jj < ys.length
          · rw [List.getElem?_eq_getElem hh]
            exact (l2 jj _ (List.getElem?_eq_getElem hh)).symm
          · rw [List.getElem?_eq_none (by omega), List.getElem?_eq_none (by omega)]
        subst eys
        refine ⟨_, D, _, rfl, e10, .inl ⟨⟨a, _, rfl, (s3.trans (s6.trans s10)) _ _ e⟩, fun H11 Tt s11 eT => ?_⟩⟩
        have eF11 := (s10.trans s11) _ _ eF
        refine ⟨_, rfl, _, rfl, Fd, _, _, 0, rfl, rfl, eF11, ix_nat (by show 0 < _ + 1; omega), ?_⟩
        refine ⟨⟨_, _, _, _, rfl⟩, same_at (s6.trans (s10.trans s11)) hFd, _, upd_same, fun h => absurd h (by omega), fun _ => ⟨Tt, rfl, ?_⟩⟩
        rw [upd_ne (fun z => by subst z; rw [eF11] at eT; cases eT)]
        exact eT
      · have hpos : 1 ≤ xs.length - i := by omega
        have hxy : xs[xs.length - i - 1]? = some y := by
          have : (V.ref a :: xs)[xs.length - i - 1 + 1]? = some y := by rw [show xs.length - i - 1 + 1 = xs.length - i by omega]; exact hy
          rwa [List.getElem?_cons_succ] at this
        have ly := (lf y (List.mem_of_getElem? hxy))
        obtain ⟨u, hu⟩ : ∃ u, bs[xs.length - i]? = some u := ⟨_, List.getElem?_eq_getElem (by omega)⟩
        obtain ⟨c, rfl, ec, _⟩ := bel3 _ u hpos hu
        refine ⟨_, rfl, _, rfl, N, _, _, _, rfl, rfl, .inl (.inl eN6), atI_nat hy, ?_⟩
        refine ⟨_, rfl, _, rfl, B, bs, _, _, rfl, rfl, .inl (.inl eB6), atI_nat hu, c, rfl, ⟨_, .inl (.inl (s6 _ _ ec))⟩, fun D hD => ?_⟩
        refine lcm walk_list hD (Nat.zero_le _) (fun _ => true) (fun jj u _ => True) (fun _ _ _ _ _ h => h) (fun H1 s => .inl (.inl (s _ _ (s6 _ _ ec)))) (fun jj x H12 H1 kN' kY hjj s u kn ky => absurd hjj (Nat.not_lt_zero _)) (fun H10 ys s10 e10 kp => ?_)
        refine ⟨_, D, _, rfl, e10, .inr ⟨ly.n (same_n (s3.trans (s6.trans s10))), ?_⟩⟩
        have eF10 := s10 _ _ eF
        refine ⟨_, rfl, _, rfl, Fd, _, _, xs.length - i, rfl, rfl, eF10, ix_nat (by show _ < xs.length + 1; omega), ?_⟩
        have hset : (V.ref a :: xs).set (xs.length - i) y = V.ref a :: xs := by
          apply List.ext_getElem?
          intro q
          by_cases hq : q = xs.length - i
          · subst hq
            rw [List.getElem?_set_self (by show _ < xs.length + 1; omega), hy]
          · rw [List.getElem?_set_ne (Ne.symm hq)]
        exact ⟨⟨_, _, _, _, rfl⟩, same_at (s6.trans s10) hFd, _, upd_same, fun _ => hset, fun h => absurd h (by omega)⟩
    · rintro σ H6 ⟨⟨x4, x5, x6, x9, rfl⟩, s6, fs, eF, _, hf⟩
      obtain ⟨Tt, rfl, eT⟩ := hf rfl
      refine ⟨_, rfl, Fd, _, 0, .ref Tt, rfl, rfl, .inl (.inl eF), atI_nat (j := 0) rfl, ?_⟩
      exact k H6 Tt (s3.trans s6) eT
end
end Lc
set_option Elab.async false
set_option linter.all false
set_option maxRecDepth 100000
set_option maxHeartbeats 4000000
namespace Lc
open PySem PySem.Spec PyProof.Rows L2 LcR
open LC (Sz Had mean)
section
variable {P : Program} {w : World} {K : PySem.W.Frag} {mg : Str → Option Value} {base : Heap}
theorem LeafV.x {H H' : Hp} {v : V} {x C dx : Addr} {fs : List (Str × V)} (h : LeafV K H v) (s : SameX x H H') (e : H x = some (.ins C dx fs)) (hC : fs.length ≠ 2) : LeafV K H' v := by
  rcases h with h | h | ⟨q, a, d, rfl, ea⟩
  · exact .inl h
  · exact .inr (.inl h)
  · refine .inr (.inr ⟨q, a, d, rfl, s _ _ (fun z => ?_) ea⟩)
    subst z
    rw [ea] at e
    cases e
    exact hC rfl
def sp_Coming_init (K : PySem.W.Frag) : Sp := fun vs H Q _ => ∃ (x dx a1 a2 a3 : Addr) (x1 x2 x3 : List V), vs = [.ref x, .ref a1, .ref a2, .ref a3] ∧ H x = some (.ins (CComing K) dx []) ∧ H a1 = some (.tup x1) ∧ H a2 = some (.tup x2) ∧ H a3 = some (.tup x3) ∧
  (∀ y ∈ x1, LeafV K H y) ∧ (∀ y ∈ x2, LeafV K H y) ∧ (∀ y ∈ x3, LeafV K H y) ∧ x1.length ≤ 50 ∧ x2.length ≤ 50 ∧ x3.length ≤ 50 ∧
  ∀ H' b1 b2 b3, SameX x H H' → H' x = some (.ins (CComing K) dx [("numbers", .ref b1), ("picks", .ref b2), ("ranks", .ref b3)]) → H' b1 = some (.tup x1) → H' b2 = some (.tup x2) → H' b3 = some (.tup x3) → Q .non H'
theorem ok_Coming_init (T : Tx K mg) {f : Addr} {fd : FuncData} (F : FunD K "__init__" "Coming.__init__" (defArgs s_Coming_init) (defBody s_Coming_init) (defScope s_Coming_init) [] [] f fd) : FnOk P w K mg base CX0 3 f fd P_Coming_init (sp_Coming_init K) := by
  refine fnD F sc_Coming_init (fun vs H Q E h => ?_) (fun cdv A outer s H vs Q E hr h => ?_)
  · obtain ⟨_, _, _, _, _, _, _, _, rfl, _⟩ := h; rfl
  obtain ⟨x, dx, a1, a2, a3, x1, x2, x3, rfl, hx, e1, e2, e3, l1, l2, l3, m1, m2, m3, k⟩ := h
  refine ⟨_, (pss_cons (ps_fld (pv 0) (C8.pe_c (c_copied T) hr (by decide) (by rfl) (pa_cons (pv 1) pa_nil)) rfl)
      (pss_cons (ps_fld (pv 0) (C8.pe_c (c_copied T) hr (by decide) (by rfl) (pa_cons (pv 2) pa_nil)) rfl)
      (pss_one (ps_fld (pv 0) (C8.pe_c (c_copied T) hr (by decide) (by rfl) (pa_cons (pv 3) pa_nil)) rfl)))), ?_⟩
  have nt : ∀ {b ys}, H b = some (.tup ys) → b ≠ x := fun {b ys} hb z => by subst z; rw [hb] at hx; cases hx
  refine ⟨_, rfl, a1, x1, rfl, e1, l1, m1, fun H1 b1 s1 f1 => ?_⟩
  refine ⟨_, rfl, x, _, dx, _, rfl, s1 _ _ hx, T.cl_Coming, T.na_Coming_numbers, by decide, ?_⟩
  generalize hG1 : upd H1 x _ = G1
  have u1 : SameX x H G1 := hG1 ▸ (SameX.of s1).trans SameX.at_
  have g1 : G1 x = some (.ins (CComing K) dx [("numbers", .ref b1)]) := hG1 ▸ upd_same
  have nb1 : b1 ≠ x := fun z => by subst z; rw [s1 _ _ hx] at f1; cases f1
  have f1' : G1 b1 = some (.tup x1) := by rw [← hG1, upd_ne nb1]; exact f1
  refine ⟨_, rfl, a2, x2, rfl, u1 _ _ (nt e2) e2, fun y hy => (l2 y hy).x u1 hx (by decide), m2, fun H2 b2 s2 f2 => ?_⟩
  refine ⟨_, rfl, x, _, dx, _, rfl, s2 _ _ g1, T.cl_Coming, T.na_Coming_picks, by show 1 < 1000; decide, ?_⟩
  generalize hG2 : upd H2 x _ = G2
  have u2 : SameX x G1 G2 := hG2 ▸ (SameX.of s2).trans SameX.at_
  have g2 : G2 x = some (.ins (CComing K) dx [("numbers", .ref b1), ("picks", .ref b2)]) := hG2 ▸ upd_same
  have u12 := u1.trans u2
  refine ⟨_, rfl, a3, x3, rfl, u12 _ _ (nt e3) e3, fun y hy => (l3 y hy).x u12 hx (by decide), m3, fun H3 b3 s3 f3 => ?_⟩
  refine ⟨_, rfl, x, _, dx, _, rfl, s3 _ _ g2, T.cl_Coming, T.na_Coming_ranks, by show 2 < 1000; decide, ?_⟩
  have u3 : ∀ o, SameX x G2 (upd H3 x o) := fun o => (SameX.of s3).trans SameX.at_
  have nb2 : b2 ≠ x := fun z => by subst z; rw [s2 _ _ g1] at f2; cases f2
  have nb3 : b3 ≠ x := fun z => by subst z; rw [s3 _ _ g2] at f3; cases f3
  have f2' : G2 b2 = some (.tup x2) := by rw [← hG2, upd_ne nb2]; exact f2
  refine k _ b1 b2 b3 (u12.trans (u3 _)) upd_same ?_ ?_ ?_
  · exact u3 _ _ _ nb1 (u2 _ _ nb1 f1')
  · exact u3 _ _ _ nb2 f2'
  · rw [upd_ne nb3]; exact f3
theorem c_Coming (T : Tx K mg) : C8.Mak P w K mg base 3 "Coming" (CComing K) (sp_Coming_init K) [] := by
  obtain ⟨fd, F⟩ := T.f_Coming_init
  exact ⟨_, fd, P_Coming_init, [], T.mk_Coming, ok_Coming_init T F, T.g_Coming, F.bindsN (fun _ _ _ _ _ _ us hl => match us, hl with | [_, _, _, _], _ => rfl), .nil⟩
theorem asc_lt {g : List Nat} (h : Asc g) : g.Pairwise (· < ·) := by
  have key : ∀ (d i : Nat) x y, g[i]? = some x → g[i + d + 1]? = some y → x < y := by
    intro d
    induction d with
    | zero => exact fun i x y a b => h i x y a b
    | succ d ih =>
      intro i x y hx hy
      have hl := (List.getElem?_eq_some_iff.mp hy).1
      obtain ⟨z, hz⟩ : ∃ z, g[i + d + 1]? = some z := ⟨_, List.getElem?_eq_getElem (by omega)⟩
      have h1 := ih i x z hx hz
      have h2 := h (i + d + 1) z y hz hy
      omega
  rw [List.pairwise_iff_getElem]
  intro i j hi hj hij
  exact key (j - i - 1) i _ _ (List.getElem?_eq_getElem hi) (by rw [show i + (j - i - 1) + 1 = j by omega]; exact List.getElem?_eq_getElem hj)
/-- a Coming with numbers, picks and ranks -/
def ComV (K : PySem.W.Frag) (H : Hp) (v : V) (q : List Rat) (p : List (Option Nat)) (r : List Nat) : Prop := ∃ x dx a b c us, v = .ref x ∧ H x = some (.ins (CComing K) dx [("numbers", .ref a), ("picks", .ref b), ("ranks", .ref c)]) ∧ H a = some (.tup us) ∧ All2 (IsR K H) us q ∧ H b = some (.tup (p.map pickV)) ∧ H c = some (.tup (r.map fun k : Nat => V.int (k : Int)))
theorem ComV.n {K : PySem.W.Frag} {H H' : Hp} {v : V} {q : List Rat} {p : List (Option Nat)} {r : List Nat} (h : ComV K H v q p r) (s : SameN H H') : ComV K H' v q p r := by
  obtain ⟨x, dx, a, b, c, us, rfl, e, ea, al, eb, ec⟩ := h
  exact ⟨x, dx, a, b, c, us, rfl, s _ _ e trivial, s _ _ ea trivial, al.imp fun x y z => z.n s, s _ _ eb trivial, s _ _ ec trivial⟩
/-- what greatest_coming tells -/
structure GreatS (n : Nat) (l : List ActD) (g : List Nat) (q : List Rat) (p : List (Option Nat)) (r : List Nat) : Prop where
  ql : q.length = n
  ex : ∃ p0 far far', PkOk n l g p0 ∧ Had (hsOf n l) g (pk p0) (numN q) far ∧ p = keptP n q p0 ∧ r = ((List.range n).map fun i => (far' i).getD 0) ∧ LC.FarOk (hsOf n l) g (pk p) far'
  sz : ∀ x ∈ q, Sz 1800 1780 x
  up : ∀ (i : Nat) (d : ActD), l[i]? = some d → mean (numN q) (prs d) ≤ numN q d.1
  run : ∃ p0 pf far far', FirstRun l (List.replicate n none, g, g) p0 ∧ BestRun n l g p0 pf ∧ PkOk n l g pf ∧ Had (hsOf n l) g (pk pf) (numN q) far ∧ p = keptP n q pf ∧ LedRun n l (keptP n q pf) (farOf g (pk (keptP n q pf)), g.filter fun s => (pk (keptP n q pf) s).isNone) far' ∧ r = (List.range n).map fun i => (far' i).getD 0
/-- one house and one goal have one greatest coming -/
theorem GreatS.det {n : Nat} {l : List ActD} {g : List Nat} {q q' : List Rat} {p p' : List (Option Nat)} {r r' : List Nat} (ok : OkActs n l) (G : GreatS n l g q p r) (G' : GreatS n l g q' p' r') : q = q' ∧ p = p' ∧ r = r' := by
  obtain ⟨p0, pf, far, fr, a1, a2, a3, a4, a5, a6, a7⟩ := G.run
  obtain ⟨p0', pf', far', fr', b1, b2, b3, b4, b5, b6, b7⟩ := G'.run
  obtain rfl := a1.det b1
  obtain rfl := a2.det ok b2
  obtain rfl := had_det ok a3 a4 b4 G.ql G'.ql
  subst a5 b5
  obtain rfl := a6.det b6
  exact ⟨rfl, rfl, a7.trans b7.symm⟩
def sp_greatest_coming (K : PySem.W.Frag) : Sp := fun vs H Q _ => ∃ (v : V) (n : Nat) (l : List ActD) (u : V) (g : List Nat), vs = [v, u] ∧ HouseV K H v n l ∧ OkActs n l ∧ n ≤ 8 ∧ GoalV K H u g ∧ Asc g ∧ (∀ s ∈ g, s < n) ∧
  ∀ H' x q p r, Same H H' → ComV K H' x q p r → GreatS n l g q p r → Q x H'
theorem ok_greatest_coming (T : Tx K mg) {f : Addr} {fd : FuncData} (F : FunD K "greatest_coming" "greatest_coming" (defArgs s_greatest_coming) (defBody s_greatest_coming) (defScope s_greatest_coming) [] [] f fd) : FnOk P w K mg base CX0 9 f fd P_greatest_coming (sp_greatest_coming K) := by
  refine fnD F sc_greatest_coming (fun vs H Q E h => ?_) (fun cdv A outer s H vs Q E hr h => ?_)
  · obtain ⟨_, _, _, _, _, rfl, _⟩ := h; rfl
  obtain ⟨v, n, l, u, g, rfl, hv, ok, n6, hg, asc, gn, k⟩ := h
  refine ⟨_, (pss_cons (ps_expr (C8.pe_c (c_need_goal T) hr (by decide) (by rfl) (pa_cons (pv 0) (pa_cons (pv 1) pa_nil))))
      (pss_cons (LcD.ps_setDc (i := 2) (own := [("state", 7)]) (g := gName 7) (tv := (tMake (CRatio K) (sp_Ratio_init K) [.int 1] C8.E0 (tCons (tC (.int 1)) tNil))) (by rfl) sc_greatest_coming.nd rfl rfl (LcD.sw_trueD rfl rfl rfl (by decide +kernel)) (pi_tup (pv 1)) (blkOk_by (own := [("state", 7)]) (N := N_greatest_coming) (sc := defScope s_greatest_coming) (by decide +kernel)) (fun _ _ _ _ _ => (pg_name (i := 7) sc_greatest_coming.nd rfl (Or.inl rfl))) (fun _ _ _ _ _ => pts_nil) (fun _ _ _ _ _ => (pv 7)) (fun _ _ _ _ _ => (C8.pe_mk (c_Ratio_1 T) hr (by decide) (by rfl) (pa_cons pe_int pa_nil))))
      (pss_cons (ps_asg (C8.pe_c (c_best_picks T) hr (by decide) (by rfl) (pa_cons (pv 0) (pa_cons (pv 2) pa_nil))) (pg_tup rfl (pgs_cons (pg_name (i := 3) sc_greatest_coming.nd rfl (Or.inr rfl)) (pgs_cons (pg_name (i := 4) sc_greatest_coming.nd rfl (Or.inr rfl)) (pgs_cons (pg_name (i := 5) sc_greatest_coming.nd rfl (Or.inl rfl)) pgs_nil)))))
      (pss_cons (ps_setLc (i := 6) (own := [("state", 7)]) (g := gName 7) (te := (tIf (tB (tOp (rNeR K) (tOp (rIxL K) (tVar 3) (tVar 7)) (tMake (CRatio K) (sp_Ratio_init K) [.int 1] C8.E0 (tCons (tC (.int 0)) tNil)))) (tOp (rIxL K) (tVar 4) (tVar 7)) (tC .non))) (by rfl) sc_greatest_coming.nd rfl rfl (sw_true rfl rfl rfl (by decide +kernel)) (pi_range1 (by rfl) T.b_range (pa_cons (pe_fld (pv 0) rfl) pa_nil)) (blkOk_by (own := [("state", 7)]) (N := N_greatest_coming) (sc := defScope s_greatest_coming) (by decide +kernel)) (fun _ _ _ _ _ => (pg_name (i := 7) sc_greatest_coming.nd rfl (Or.inl rfl))) (fun _ _ _ _ _ => pts_nil) (fun _ _ _ _ _ => (pe_ifExp (pt_cmpR (op_Rne T hr (by decide)) (pe_ix ix_list (pv 3) (pv 7) (fun _ _ => rfl)) (C8.pe_mk (c_Ratio_1 T) hr (by decide) (by rfl) (pa_cons pe_int pa_nil)) (nomark _)) (pe_ix ix_list (pv 4) (pv 7) (fun _ _ => rfl)) pe_non)))
      (pss_one (ps_ret (C8.pe_mk (c_Coming T) hr (by decide) (by rfl) (pa_cons (pe_callTy call_tuple_of (by rfl) T.b_tuple (by decide +kernel) (pa_cons (pv 3) pa_nil)) (pa_cons (pe_callTy call_tuple_of (by rfl) T.b_tuple (by decide +kernel) (pa_cons (pv 6) pa_nil)) (pa_cons (C8.pe_c (c_ranked T) hr (by decide) (by rfl) (pa_cons (pv 0) (pa_cons (pv 3) (pa_cons (pv 4) (pa_cons (pv 2) pa_nil))))) pa_nil)))))))))), ?_⟩
  have plt := asc_lt asc
  have gd : g.Nodup := plt.imp fun h e => by omega
  have gl : g.length ≤ n := by
    have := nodup_len gd (m := List.range n) fun x hx => List.mem_range.mpr (gn x hx)
    rwa [List.length_range] at this
  refine ⟨_, rfl, _, rfl, v, n, l, u, g, rfl, hv, hg, asc, by omega, gn, fun H1 s1 => ?_⟩
  obtain ⟨ag, rfl, eg⟩ := id hg
  have il : (g.map fun n : Nat => V.int (n : Int)).length = g.length := List.length_map _
  have S1 : SqT K H1 ag (g.map fun n : Nat => V.int (n : Int)) := .inl (.inl (s1 _ _ eg))
  refine ⟨_, rfl, ag, rfl, ⟨_, S1⟩, fun D hD => ?_⟩
  refine dc_it walk_tup (fun i H' => Same H1 H' ∧ ∃ fk, H' D = some (.dK fk) ∧ fk.map (·.1) = (g.take i).map keyN ∧ ∀ s ∈ g.take i, ∃ u, valV fk (keyN s) = some u ∧ IsR K H' u 1)
    ⟨same_upd hD, [], upd_same, by simp, fun s h => by simp at h⟩ (fun i H' _ p => same_seqT p.1 S1) ?_ ?_
  · rintro i x H3 H4 hi ⟨s3, fk, ef, efk, fw⟩ ⟨rfl, hx⟩
    rw [List.getElem?_map] at hx
    obtain ⟨s0, hs0, rfl⟩ := Option.map_eq_some_iff.mp hx
    have tk : g.take (i + 1) = g.take i ++ [s0] := by rw [List.take_add_one, hs0]; rfl
    have nk : s0 ∉ g.take i := fun hm => by
      have nd : (g.take (i + 1)).Nodup := gd.sublist (List.take_sublist _ _)
      rw [tk, List.nodup_append] at nd
      exact nd.2.2 s0 hm s0 (by simp) rfl
    have vn : valV fk (keyN s0) = none := by
      cases e : valV fk (keyN s0) with
      | none => rfl
      | some z =>
        have := valV_in e
        rw [efk] at this
        obtain ⟨t, ht, e2⟩ := List.mem_map.mp this
        exact absurd (by rw [← keyN_inj e2]; exact ht) nk
    have fl : fk.length ≤ 10 := by
      have := congrArg List.length efk
      rw [List.length_map, List.length_map, List.length_take] at this
      omega
    refine ⟨rfl, yes ⟨_, rfl, fun x dx hx hdx ne => mR1 hx hdx ne fun H5 s5 hz => ⟨rfl, ?_⟩⟩⟩
    have ef5 := s5 _ _ ef
    refine ⟨fk, keyN s0, rfl, ef5, Nat.lt_of_le_of_lt fl (by decide), ?_⟩
    have sn : SameN H5 (upd H5 D (.dK (putK fk (keyN s0) (.ref x)))) := sameN_upd ef5 (fun z => z)
    refine ⟨fun b o hb => by rw [upd_ne (ne_of_none hb hD)]; exact (s3.trans s5) _ _ hb, _, upd_same, ?_, fun s hs => ?_⟩
    · unfold putK
      rw [valV_any, vn, tk]
      simp [efk]
    · rw [valV_put]
      by_cases e : s = s0
      · subst e
        exact ⟨.ref x, by rw [if_pos rfl], (show IsR K H5 (.ref x) 1 from hz).n sn⟩
      · rw [if_neg (fun z => e (keyN_inj z))]
        rw [tk] at hs
        rcases List.mem_append.mp hs with z | z
        · obtain ⟨u', h1, h2⟩ := fw s z
          exact ⟨u', h1, h2.n ((same_n s5).trans sn)⟩
        · exact absurd (List.mem_singleton.mp z) e
  rintro H3 ⟨s3, fk, ef, efk, fw⟩
  rw [il, List.take_length] at efk fw
  have W3 : WorthsV K H3 (.ref D) g := ⟨D, fk, rfl, ef, efk, fw⟩
  have s13 := s1.trans s3
  refine ⟨_, rfl, _, rfl, v, n, l, .ref D, g, rfl, hv.n (same_n s13), ok, n6, W3, gn, gd, fun H4 t a b c q p far p00 s4 et hq ql eb pok had qz hm fr br => ?_⟩
  refine ⟨t, _, rfl, .inl (.inl et), rfl, _, _, rfl, _, _, rfl, _, _, rfl, rfl, ?_⟩
  obtain ⟨xh, dxh, mh, vah, vsh, lkh, voh, rfl, eh, hh1, hh2, hh3⟩ := id hv
  have s14 := s13.trans s4
  obtain ⟨au, us, eau, eu, aq⟩ := id hq
  cases eau
  have ul : us.length = n := aq.1.trans ql
  have pl := pok.len
  refine ⟨_, rfl, xh, _, dxh, _, _, rfl, s14 _ _ eh, T.cl_House, T.na_House_states, rfl, (n : Int), rfl, by omega, by omega, fun Kl hKl => ?_⟩
  rw [Int.toNat_natCast]
  refine lcm walk_range hKl (Nat.le_trans n6 (by decide)) (fun _ => true) (fun i y _ => y = pickV (if numN q i = 0 then none else pk p i)) (fun i y1 H1 H2 s z => z) (fun H1 s => trivial) (fun i x H8 H1 kN' kY hi s y1 kn ky => ?_) (fun H7 ys s7 e7 kp => ?_)
  · obtain ⟨rfl, ex⟩ := y1
    obtain rfl : x = V.int ((i : Nat) : Int) := ex.trans (congrArg V.int (Int.zero_add _))
    obtain ⟨qv, hqv⟩ : ∃ qv, q[i]? = some qv := ⟨_, List.getElem?_eq_getElem (by omega)⟩
    obtain ⟨yq, hyq, rq⟩ := aq.get hqv
    refine ⟨rfl, yes ?_⟩
    refine ⟨_, rfl, _, rfl, a, us, _, yq, rfl, rfl, .inl (.inl (s _ _ eu)), atI_nat hyq, fun x dx hx hdx ne => mR1 hx hdx ne fun H5 s5 hz => ⟨rfl, ?_⟩⟩
    refine ⟨qv, 0, rq.n (same_n (s.trans s5)), hz, _, rfl, ite2 (fun h0 => ?_) (fun h0 => ?_)⟩
    · refine ⟨_, rfl, _, rfl, b, _, _, _, rfl, rfl, .inl (.inl ((s.trans s5) _ _ eb)), atI_nat (pk_at (by omega)), ky _ _ s5 rfl ?_⟩
      rw [if_neg]
      intro e
      unfold numN at e
      rw [hqv] at e
      have e : qv = 0 := e
      rw [e] at h0
      simp at h0
    · refine ky _ _ s5 rfl ?_
      rw [if_pos]
      · rfl
      · unfold numN
        rw [hqv]
        have h0 : ¬ (!decide (qv = 0)) = true := h0
        simpa using h0
  obtain ⟨l1, l2⟩ := kp.all
  have eys := map_of l1 l2
  have eys : ys = (keptP n q p).map pickV := by rw [eys]; unfold keptP; rw [List.map_map]; rfl
  subst eys
  have kpl := keptP_len n q p
  have kml : ((keptP n q p).map pickV).length = n := by rw [List.length_map]; exact kpl
  have lfy : ∀ y ∈ (keptP n q p).map pickV, ∃ x, y = pickV x := fun y hy => by
    obtain ⟨x, _, e⟩ := List.mem_map.mp hy
    exact ⟨x, e.symm⟩
  have eu7 := s7 _ _ eu
  refine ⟨_, rfl, a, us, rfl, .inl ⟨.inl (.inl eu7), fun t1 ht1 => ?_⟩⟩
  have r1 := same_upd (o := .tup us) ht1
  refine ⟨_, rfl, Kl, _, rfl, .inl ⟨.inl (.inl (r1 _ _ e7)), fun t2 ht2 => ?_⟩⟩
  have r2 := r1.trans (same_upd (o := .tup ((keptP n q p).map pickV)) ht2)
  have et1 : upd (upd H7 t1 (.tup us)) t2 (.tup ((keptP n q p).map pickV)) t1 = some (.tup us) := same_upd ht2 _ _ upd_same
  have et2 : upd (upd H7 t1 (.tup us)) t2 (.tup ((keptP n q p).map pickV)) t2 = some (.tup ((keptP n q p).map pickV)) := upd_same
  generalize upd (upd H7 t1 (.tup us)) t2 (.tup ((keptP n q p).map pickV)) = H9 at r2 et1 et2
  have s49 := s7.trans r2
  have s39 := s4.trans s49
  have s19 := s13.trans s39
  refine ⟨_, rfl, _, rfl, _, rfl, _, rfl, .ref xh, n, l, .ref a, q, .ref b, p, .ref D, g, rfl, hv.n (same_n s19), ok, hq.s s49, ql, ⟨b, rfl, s49 _ _ eb⟩, pok, W3.s s39, gn, gd, fun s hs => had.goal hs, fun H10 t3 far2 s10 e10 fo2 lr2 => ?_⟩
  have aq10 : All2 (IsR K H10) us q := aq.imp fun x y z => z.n (same_n (s49.trans s10))
  intro x dx hx hdx ne
  have sm := same_made (o := .ins (CComing K) dx []) hx hdx
  have s411 := (s49.trans s10).trans sm
  have leafs : ∀ y ∈ us, LeafV K (upd (upd H10 dx (.own x)) x (.ins (CComing K) dx [])) y := fun y hy => by
    obtain ⟨i, hi, e⟩ := List.getElem_of_mem hy
    obtain ⟨qv, hqv, rq⟩ := aq.get' (i := i) (x := y) (by rw [List.getElem?_eq_getElem hi, e])
    exact .inr (.inr ⟨qv, rq.n (same_n s411)⟩)
  refine ⟨x, dx, t1, t2, t3, us, _, ranksV n far2, rfl, upd_same, (s10.trans sm) _ _ et1, (s10.trans sm) _ _ et2, sm _ _ e10, leafs, fun y hy => ?_, fun y hy => ?_, by omega, by omega, by (unfold ranksV; rw [List.length_map, List.length_range]; omega), fun H' b1 b2 b3 sx ex eb1 eb2 eb3 => ⟨rfl, ?_⟩⟩
  · obtain ⟨z, rfl⟩ := lfy y hy
    cases z with
    | none => exact .inl rfl
    | some z => exact .inr (.inl ⟨_, rfl⟩)
  · obtain ⟨z, _, rfl⟩ := List.mem_map.mp hy
    exact .inr (.inl ⟨_, rfl⟩)
  · have sH : ∀ {H0 : Hp}, Same H0 H10 → Same H0 H' := fun {H0} h0 o u e => by
      have e1 := h0 _ _ e
      exact sx _ _ (ne_of_none e1 hx) (sm _ _ e1)
    refine k H' _ q (keptP n q p) ((List.range n).map fun i => (far2 i).getD 0) (sH (s19.trans s10)) ⟨x, dx, b1, b2, b3, us, rfl, ex, eb1, aq10.imp fun x y z => z.n (same_n (sH (Same.refl _))), eb2, ?_⟩ ⟨ql, ⟨p, far, far2, pok, had, rfl, rfl, fo2⟩, qz, hm, p00, p, far, far2, fr, br, pok, had, rfl, lr2, rfl⟩
    rw [eb3]
    unfold ranksV
    rw [List.map_map]
    rfl
theorem c_greatest_coming (T : Tx K mg) : C8.Cal P w K mg base 9 "greatest_coming" (sp_greatest_coming K) [] := by
  obtain ⟨fd, F⟩ := T.f_greatest_coming
  exact ⟨_, fd, P_greatest_coming, [], ok_greatest_coming T F, T.g_greatest_coming, F.kp, F.bindsN (fun _ _ _ _ _ _ us hl => match us, hl with | [_, _], _ => rfl), .nil⟩
end
end Lc
set_option Elab.async false
set_option linter.all false
set_option maxRecDepth 100000
set_option maxHeartbeats 4000000
namespace Lc
open PySem PySem.Spec PyProof.Rows L2 LcR
/-- the pen: its cells, how many were drawn, what is left of a great cell -/
def PenV (H : Hp) (a c : Addr) (m : Nat) : Prop := ∃ (ns : List Int) (at_ : Nat) (rest : Int), H a = some (.lst [.ref c, .int (at_ : Int), .int rest]) ∧ H c = some (.lst (ns.map V.int)) ∧ at_ ≤ m ∧ 0 ≤ rest ∧ ns.length ≤ 100
theorem PenV.x {H H' : Hp} {a c : Addr} {m m' : Nat} (h : PenV H a c m) (s : Same H H') (hm : m ≤ m') : PenV H' a c m' := by
  obtain ⟨ns, at_, rest, e1, e2, h1, h2, h3⟩ := h
  exact ⟨ns, at_, rest, s _ _ e1, s _ _ e2, by omega, h2, h3⟩
theorem SameX.n {a : Addr} {H H' : Hp} {xs : List V} (s : SameX a H H') (e : H a = some (.lst xs)) : SameN H H' := fun b o hb f => s b o (fun z => by subst z; rw [e] at hb; cases hb; exact f) hb
theorem pen_ne {H : Hp} {a c : Addr} {m : Nat} (h : PenV H a c m) : c ≠ a := fun z => by
  obtain ⟨ns, at_, rest, e1, e2, _⟩ := h
  subst z
  rw [e1] at e2
  cases ns with
  | nil => cases e2
  | cons i r => simp at e2
theorem cpow5 (x a : Int) (h0 : 0 ≤ a) (h1 : a < 1000000) : CPow (x.fmod 2147483543 + 30253 * a + 71) 5 := by
  have b1 := Int.fmod_nonneg_of_pos x (b := 2147483543) (by decide)
  have b2 := Int.fmod_lt_of_pos x (b := 2147483543) (by decide)
  exact ⟨by decide, by decide, by omega⟩
theorem cpow3 (x a : Int) (h0 : 0 ≤ a) (h1 : a < 1000000) : CPow (x.fmod 2147483563 * (4 * a + 21) + 10007 * a * a + 31) 3 := by
  have b1 := Int.fmod_nonneg_of_pos x (b := 2147483563) (by decide)
  have b2 := Int.fmod_lt_of_pos x (b := 2147483563) (by decide)
  have c1 : 0 ≤ x.fmod 2147483563 * (4 * a + 21) := Int.mul_nonneg b1 (by omega)
  have c2 : x.fmod 2147483563 * (4 * a + 21) ≤ 2147483563 * 4000021 := Int.mul_le_mul (by omega) (by omega) (by omega) (by decide)
  have c3 : 0 ≤ 10007 * a * a := Int.mul_nonneg (by omega) h0
  have c4 : 10007 * a * a ≤ 10007000000 * 1000000 := Int.mul_le_mul (by omega) (by omega) h0 (by decide)
  refine ⟨by decide, by decide, ?_⟩
  omega
section
variable {P : Program} {w : World} {K : PySem.W.Frag} {mg : Str → Option Value} {base : Heap}
def sp_law_pen (K : PySem.W.Frag) : Sp := fun vs H Q _ => ∃ (a : Addr) (ns : List Int), vs = [.ref a] ∧ SqL K H a (List.map V.int ns) ∧ ∀ H' p c, Same H H' → PenV H' p c 0 → Q (.ref p) H'
theorem c_law_pen (T : Tx K mg) : C8.Cal P w K mg base 1 "_law_pen" (sp_law_pen K) [] := by
  obtain ⟨fd, F⟩ := T.f_law_pen
  refine calD F T.g_law_pen sc_law_pen (fun _ _ _ _ _ _ us hl => match us, hl with | [_], _ => rfl) (fun vs H Q E h => ?_) (fun cdv A outer s H vs Q E hr h => ?_)
  · obtain ⟨_, _, rfl, _⟩ := h; rfl
  obtain ⟨a, ns, rfl, hs, k⟩ := h
  refine ⟨_, (pss_one (ps_ret (pe_lst (pa_cons (pe_callTy call_list_of (by rfl) T.b_list (by decide +kernel) (pa_cons (pe_slice sl_list (pv 0) po_none (po_some pe_int)) pa_nil)) (pa_cons pe_int (pa_cons pe_int pa_nil)))))), ?_⟩
  refine ⟨_, rfl, 63, rfl, a, _, rfl, hs, fun p hp => ?_⟩
  have s1 := same_upd (o := .lst (cutV (ns.map V.int) none (some 63))) hp
  refine ⟨p, _, rfl, .inl (.inl (.inl upd_same)), fun c hc => ⟨by show 3 ≤ sizeLine; decide, fun q hq => ?_⟩⟩
  have s2 := s1.trans ((same_upd (o := .lst (cutV (ns.map V.int) none (some 63))) hc).trans (same_upd (o := .lst [.ref c, .int 0, .int 0]) hq))
  have e : cutV (ns.map V.int) none (some 63) = (ns.take (min 63 (ns.map V.int).length)).map V.int := by
    unfold cutV
    rw [show (some 63 : Option Int) = some ((63 : Nat) : Int) from rfl, HT.sIx_nat, HT.sIx_none, List.drop_zero, Nat.sub_zero, List.map_take]
  refine k _ q c s2 ⟨ns.take (min 63 (ns.map V.int).length), 0, 0, upd_same, ?_, Nat.le_refl _, Int.le_refl _, ?_⟩
  · rw [← e]
    exact same_upd hq _ _ upd_same
  · rw [List.length_take]; omega
def sp_law_draw : Sp := fun vs H Q _ => ∃ (a c : Addr) (m : Nat) (many : Int), vs = [.ref a, .int many] ∧ PenV H a c m ∧ 0 < many ∧ many < 1000000 ∧ m < 1000000 ∧ ∀ H' (r : Int), SameX a H H' → PenV H' a c (m + 1) → 0 ≤ r → r < many → Q (.int r) H'
theorem c_law_draw (T : Tx K mg) : C8.Cal P w K mg base 1 "_law_draw" sp_law_draw [] := by
  obtain ⟨fd, F⟩ := T.f_law_draw
  refine calD F T.g_law_draw sc_law_draw (fun _ _ _ _ _ _ us hl => match us, hl with | [_, _], _ => rfl) (fun vs H Q E h => ?_) (fun cdv A outer s H vs Q E hr h => ?_)
  · obtain ⟨_, _, _, _, rfl, _⟩ := h; rfl
  obtain ⟨a, c, m, many, rfl, hp, h1, h2, hm, k⟩ := h
  refine ⟨_, (pss_cons (ps_if (pt_cmpR op_gt (pe_ix ix_list (pv 0) pe_int (fun _ _ => rfl)) pe_int (nomark _)) (pss_cons (ps_set (i := 2) sc_law_draw.nd rfl (Or.inl rfl) (pe_op op_modN (pe_callTy call_int1 (by rfl) T.b_int (by decide +kernel) (pa_cons (pe_ix ix_list (pv 0) pe_int (fun _ _ => rfl)) pa_nil)) (pv 1)))
      (pss_cons (ps_asg (pe_op op_fdivW (pe_callTy call_int1 (by rfl) T.b_int (by decide +kernel) (pa_cons (pe_ix ix_list (pv 0) pe_int (fun _ _ => rfl)) pa_nil)) (pv 1)) (pg_sub (pv 0) pe_int set_list))
      (pss_one (ps_ret (pv 2))))) pss_nil)
      (pss_cons (ps_set (i := 3) sc_law_draw.nd rfl (Or.inl rfl) (pe_ix ix_list (pv 0) pe_int (fun _ _ => rfl)))
      (pss_cons (ps_asg (pe_op op_add (pv 3) pe_int) (pg_sub (pv 0) pe_int set_list))
      (pss_cons (ps_set (i := 4) sc_law_draw.nd rfl (Or.inl rfl) (pe_op op_add (pe_op op_mul pe_int (pv 3)) pe_int))
      (pss_cons (ps_if (pt_cmpR (op_neNil hr.units0) (pe_ix ix_list (pv 0) pe_int (fun _ _ => rfl)) (pe_lst pa_nil) (nomark _)) (pss_one (ps_set (i := 4) sc_law_draw.nd rfl (Or.inl rfl) (pe_ix ix_list (pe_ix ix_list (pv 0) pe_int (fun _ _ => rfl)) (pe_op op_modN (pe_callTy call_int1 (by rfl) T.b_int (by decide +kernel) (pa_cons (pv 3) pa_nil)) (pe_callB call_len (by rfl) T.b_len (by decide +kernel) (pa_cons (pe_ix ix_list (pv 0) pe_int (fun _ _ => rfl)) pa_nil))) (fun _ _ => rfl)))) pss_nil)
      (pss_cons (ps_if (PW.pt (pw_and (pt_cmpR op_lt (pv 3) (pe_callB call_len (by rfl) T.b_len (by decide +kernel) (pa_cons (pe_ix ix_list (pv 0) pe_int (fun _ _ => rfl)) pa_nil)) (nomark _)) (pw_and1 (pt_cmpR op_ge (pe_callB call_abs (by rfl) T.b_abs (by decide +kernel) (pa_cons (pv 4) pa_nil)) (pe_op op_pow pe_int pe_int) (nomark _))))) (pss_cons (ps_set (i := 5) sc_law_draw.nd rfl (Or.inl rfl) (pe_op op_add (pe_op op_mul pe_int (pe_callB call_abs (by rfl) T.b_abs (by decide +kernel) (pa_cons (pv 4) pa_nil))) (pe_callTy call_int1 (by rfl) T.b_int (by decide +kernel) (pa_cons (pe_cmpR op_lt (pv 4) pe_int (nomark _)) pa_nil))))
      (pss_cons (ps_asg (pe_op op_fdivW (pe_callTy call_int1 (by rfl) T.b_int (by decide +kernel) (pa_cons (pv 5) pa_nil)) (pv 1)) (pg_sub (pv 0) pe_int set_list))
      (pss_one (ps_ret (pe_op op_modN (pe_callTy call_int1 (by rfl) T.b_int (by decide +kernel) (pa_cons (pv 5) pa_nil)) (pv 1)))))) pss_nil)
      (pss_cons (ps_set (i := 6) sc_law_draw.nd rfl (Or.inl rfl) (pe_op op_modN (pe_op op_pow (pe_callTy call_int1 (by rfl) T.b_int (by decide +kernel) (pa_cons (pe_op op_add (pe_op op_add (pe_op op_modN (pe_callTy call_int1 (by rfl) T.b_int (by decide +kernel) (pa_cons (pv 4) pa_nil)) pe_int) (pe_op op_mul pe_int (pv 3))) pe_int) pa_nil)) pe_int) pe_int))
      (pss_cons (ps_set (i := 6) sc_law_draw.nd rfl (Or.inl rfl) (pe_op op_modN (pe_op op_pow (pe_callTy call_int1 (by rfl) T.b_int (by decide +kernel) (pa_cons (pe_op op_add (pe_op op_add (pe_op op_mul (pv 6) (pe_op op_add (pe_op op_mul pe_int (pv 3)) pe_int)) (pe_op op_mul (pe_op op_mul pe_int (pv 3)) (pv 3))) pe_int) pa_nil)) pe_int) pe_int))
      (pss_one (ps_ret (pe_op op_modN (pe_callTy call_int1 (by rfl) T.b_int (by decide +kernel) (pa_cons (pe_op op_fdivW (pv 6) pe_int) pa_nil)) (pv 1)))))))))))), ?_⟩
  have ca := pen_ne hp
  obtain ⟨ns, at_, rest, ea, ec, hat, hrest, hns⟩ := hp
  have cd : ∀ i, CDivW i many := fun i => ⟨h1, by
    have : many.natAbs < 2 ^ 20 := by omega
    have := (Nat.log2_lt (by omega : many.natAbs ≠ 0)).mpr this
    omega⟩
  have mz : many ≠ 0 := by omega
  have fin : ∀ {H1 : Hp} (at2 : Nat) (rest2 r : Int), SameX a H H1 → at2 ≤ m + 1 → 0 ≤ rest2 → 0 ≤ r → r < many → Q (.int r) (upd H1 a (.lst [.ref c, .int (at2 : Int), .int rest2])) := fun {H1} at2 rest2 r s1 b1 b2 b3 b4 =>
    k _ r (s1.trans SameX.at_) ⟨ns, at2, rest2, upd_same, by rw [upd_ne ca]; exact s1 _ _ ca ec, b1, b2, hns⟩ b3 b4
  have dv : ∀ i : Int, 0 ≤ i → 0 ≤ i / many := fun i hi => Int.ediv_nonneg hi (by omega)
  refine ⟨_, rfl, a, _, 2, _, rfl, rfl, .inl (.inl ea), rfl, _, _, rfl, rfl, _, rfl, ite2 (fun h0 => ?_) (fun h0 => ?_)⟩
  · refine ⟨_, rfl, a, _, 2, _, rfl, rfl, .inl (.inl ea), rfl, .inl ⟨_, rfl, _, rfl, _, _, rfl, rfl, mz, ?_⟩⟩
    refine ⟨_, rfl, a, _, 2, _, rfl, rfl, .inl (.inl ea), rfl, .inl ⟨_, rfl, _, rfl, _, _, rfl, rfl, cd _, ?_⟩⟩
    refine ⟨_, rfl, a, _, 2, 2, rfl, rfl, ea, rfl, ?_⟩
    refine ⟨_, rfl, ?_⟩
    exact fin at_ _ _ SameX.refl (by omega) (dv _ hrest) (Int.fmod_nonneg_of_pos _ h1) (Int.fmod_lt_of_pos _ h1)
  · refine ⟨_, rfl, a, _, 1, _, rfl, rfl, .inl (.inl ea), rfl, ?_⟩
    refine ⟨_, rfl, _, _, rfl, rfl, _, rfl, a, _, 1, 1, rfl, rfl, ea, rfl, ?_⟩
    have e1 : upd H a (.lst [.ref c, .int ((at_ : Int) + 1), .int rest]) a = some (.lst [.ref c, .int ((at_ + 1 : Nat) : Int), .int rest]) := upd_same
    have e2 : upd H a (.lst [.ref c, .int ((at_ : Int) + 1), .int rest]) c = some (.lst (ns.map V.int)) := by rw [upd_ne ca]; exact ec
    have s1 : SameX a H (upd H a (.lst [.ref c, .int ((at_ : Int) + 1), .int rest])) := SameX.at_
    show tSeq _ _ _ _ (upd H a (.lst [.ref c, .int ((at_ : Int) + 1), .int rest]))
    generalize upd H a (.lst [.ref c, .int ((at_ : Int) + 1), .int rest]) = H1 at e1 e2 s1
    have at6 : at_ < 1000000 := by omega
    refine ⟨_, rfl, _, _, rfl, rfl, .inl ⟨by decide, by decide⟩, _, _, rfl, rfl, ?_⟩
    refine ⟨_, rfl, a, _, 0, _, rfl, rfl, .inl (.inl e1), rfl, Nat.zero_le _, fun Z hZ => ?_⟩
    have s2 := same_upd (o := .lst []) hZ
    have s02 : SameX a H (upd H1 Z (.lst [])) := s1.trans (SameX.of s2)
    refine ⟨c, Z, ns.map V.int, rfl, rfl, .inl (.inl (s2 _ _ e2)), .inl (.inl upd_same), _, rfl, ?_⟩
    have e3 := s2 _ _ e1
    have e4 := s2 _ _ e2
    generalize upd H1 Z (.lst []) = H2 at s02 e3 e4
    clear s2 hZ e1 e2 s1
    have great0 : ∀ x : Int, 0 ≤ 2 * (if x < 0 then -x else x) + (if decide (x < 0) = true then 1 else 0) := fun x => by
      by_cases hx : x < 0 <;> simp [hx] <;> omega
    refine ite2 (fun hb0 => ?_) (fun hb0 => ?_)
    · have nl : 0 < ns.length := by
        cases ns with
        | nil => cases hb0
        | cons z r => exact Nat.succ_pos _
      have fm0 := Int.fmod_nonneg_of_pos (at_ : Int) (b := (ns.length : Int)) (by omega)
      have fm1 := Int.fmod_lt_of_pos (at_ : Int) (b := (ns.length : Int)) (by omega)
      obtain ⟨kx, hkx⟩ : ∃ kx : Nat, (at_ : Int).fmod (ns.length : Int) = (kx : Int) := ⟨((at_ : Int).fmod (ns.length : Int)).toNat, by omega⟩
      have hkl : kx < ns.length := by omega
      obtain ⟨zz, hzz⟩ : ∃ zz, ns[kx]? = some zz := ⟨_, List.getElem?_eq_getElem hkl⟩
      refine ⟨_, rfl, a, _, 0, _, rfl, rfl, .inl (.inl e3), rfl, _, rfl, .inl ⟨_, rfl, _, rfl, a, _, 0, _, rfl, rfl, .inl (.inl e3), rfl, _, ns.length, rfl, .inl ⟨ns.map V.int, .inl (.inl e4), by rw [List.length_map]⟩, _, _, rfl, rfl, by omega, ?_⟩⟩
      refine ⟨c, ns.map V.int, _, .int zz, rfl, rfl, .inl (.inl e4), by rw [hkx]; exact atI_nat (by rw [List.getElem?_map, hzz]; rfl), ?_⟩
      refine ⟨_, rfl, _, rfl, a, _, 0, _, rfl, rfl, .inl (.inl e3), rfl, _, ns.length, rfl, .inl ⟨ns.map V.int, .inl (.inl e4), by rw [List.length_map]⟩, _, _, rfl, rfl, _, rfl, ?_⟩
      refine ite2 (fun hb => ?_) (fun hb => iteF ?_)
      · refine ⟨_, rfl, _, rfl, 10, 18, rfl, rfl, ⟨by decide, by decide, by decide⟩, _, _, rfl, rfl, _, rfl, ite2 (fun hd => ?_) (fun hd => ?_)⟩
        · refine ⟨_, rfl, _, rfl, 2, _, rfl, rfl, .inl ⟨by decide, by decide⟩, _, rfl, _, _, rfl, rfl, .inr ⟨_, rfl, _, _, rfl, rfl, ?_⟩⟩
          refine ⟨_, rfl, .inl ⟨_, rfl, _, rfl, _, _, rfl, rfl, cd _, _, rfl, a, _, 2, 2, rfl, rfl, e3, rfl, ?_⟩⟩
          refine ⟨_, rfl, .inl ⟨_, rfl, _, rfl, _, _, rfl, rfl, mz, ?_⟩⟩
          exact fin (at_ + 1) _ _ s02 (by omega) (dv _ (great0 _)) (Int.fmod_nonneg_of_pos _ h1) (Int.fmod_lt_of_pos _ h1)
        · refine ⟨_, rfl, .inl ⟨_, rfl, _, _, rfl, rfl, (by show (2147483543 : Int) ≠ 0; decide), _, rfl, _, _, rfl, rfl, .inl ⟨by decide, by decide⟩, _, _, rfl, rfl, _, _, rfl, rfl, .inl ⟨_, rfl, _, _, rfl, rfl, cpow5 _ _ (by omega) (by omega), _, _, rfl, rfl, (by show (2147483563 : Int) ≠ 0; decide), ?_⟩⟩⟩
          refine ⟨_, rfl, _, rfl, _, _, rfl, rfl, .inl ⟨by decide, by decide⟩, _, _, rfl, rfl, _, _, rfl, rfl, .inr ⟨by omega, by omega⟩, _, rfl, _, _, rfl, rfl, .inl ⟨by decide, by decide⟩, _, rfl, _, _, rfl, rfl, .inr ⟨by omega, by omega⟩, _, _, rfl, rfl, _, _, rfl, rfl, .inl ⟨_, rfl, _, _, rfl, rfl, cpow3 _ _ (by omega) (by omega), _, _, rfl, rfl, (by show (2147483587 : Int) ≠ 0; decide), ?_⟩⟩
          refine ⟨_, rfl, _, _, rfl, rfl, ⟨by decide, by decide⟩, .inl ⟨_, rfl, _, rfl, _, _, rfl, rfl, mz, ?_⟩⟩
          exact k _ _ s02 ⟨ns, at_ + 1, rest, e3, e4, by omega, hrest, hns⟩ (Int.fmod_nonneg_of_pos _ h1) (Int.fmod_lt_of_pos _ h1)
      · refine ⟨_, rfl, .inl ⟨_, rfl, _, _, rfl, rfl, (by show (2147483543 : Int) ≠ 0; decide), _, rfl, _, _, rfl, rfl, .inl ⟨by decide, by decide⟩, _, _, rfl, rfl, _, _, rfl, rfl, .inl ⟨_, rfl, _, _, rfl, rfl, cpow5 _ _ (by omega) (by omega), _, _, rfl, rfl, (by show (2147483563 : Int) ≠ 0; decide), ?_⟩⟩⟩
        refine ⟨_, rfl, _, rfl, _, _, rfl, rfl, .inl ⟨by decide, by decide⟩, _, _, rfl, rfl, _, _, rfl, rfl, .inr ⟨by omega, by omega⟩, _, rfl, _, _, rfl, rfl, .inl ⟨by decide, by decide⟩, _, rfl, _, _, rfl, rfl, .inr ⟨by omega, by omega⟩, _, _, rfl, rfl, _, _, rfl, rfl, .inl ⟨_, rfl, _, _, rfl, rfl, cpow3 _ _ (by omega) (by omega), _, _, rfl, rfl, (by show (2147483587 : Int) ≠ 0; decide), ?_⟩⟩
        refine ⟨_, rfl, _, _, rfl, rfl, ⟨by decide, by decide⟩, .inl ⟨_, rfl, _, rfl, _, _, rfl, rfl, mz, ?_⟩⟩
        exact k _ _ s02 ⟨ns, at_ + 1, rest, e3, e4, by omega, hrest, hns⟩ (Int.fmod_nonneg_of_pos _ h1) (Int.fmod_lt_of_pos _ h1)
    · skip
      refine ⟨_, rfl, _, rfl, a, _, 0, _, rfl, rfl, .inl (.inl e3), rfl, _, ns.length, rfl, .inl ⟨ns.map V.int, .inl (.inl e4), by rw [List.length_map]⟩, _, _, rfl, rfl, _, rfl, ?_⟩
      refine ite2 (fun hb => ?_) (fun hb => iteF ?_)
      · refine ⟨_, rfl, _, rfl, 10, 18, rfl, rfl, ⟨by decide, by decide, by decide⟩, _, _, rfl, rfl, _, rfl, ite2 (fun hd => ?_) (fun hd => ?_)⟩
        · refine ⟨_, rfl, _, rfl, 2, _, rfl, rfl, .inl ⟨by decide, by decide⟩, _, rfl, _, _, rfl, rfl, .inr ⟨_, rfl, _, _, rfl, rfl, ?_⟩⟩
          refine ⟨_, rfl, .inl ⟨_, rfl, _, rfl, _, _, rfl, rfl, cd _, _, rfl, a, _, 2, 2, rfl, rfl, e3, rfl, ?_⟩⟩
          refine ⟨_, rfl, .inl ⟨_, rfl, _, rfl, _, _, rfl, rfl, mz, ?_⟩⟩
          exact fin (at_ + 1) _ _ s02 (by omega) (dv _ (great0 _)) (Int.fmod_nonneg_of_pos _ h1) (Int.fmod_lt_of_pos _ h1)
        · refine ⟨_, rfl, .inl ⟨_, rfl, _, _, rfl, rfl, (by show (2147483543 : Int) ≠ 0; decide), _, rfl, _, _, rfl, rfl, .inl ⟨by decide, by decide⟩, _, _, rfl, rfl, _, _, rfl, rfl, .inl ⟨_, rfl, _, _, rfl, rfl, cpow5 _ _ (by omega) (by omega), _, _, rfl, rfl, (by show (2147483563 : Int) ≠ 0; decide), ?_⟩⟩⟩
          refine ⟨_, rfl, _, rfl, _, _, rfl, rfl, .inl ⟨by decide, by decide⟩, _, _, rfl, rfl, _, _, rfl, rfl, .inr ⟨by omega, by omega⟩, _, rfl, _, _, rfl, rfl, .inl ⟨by decide, by decide⟩, _, rfl, _, _, rfl, rfl, .inr ⟨by omega, by omega⟩, _, _, rfl, rfl, _, _, rfl, rfl, .inl ⟨_, rfl, _, _, rfl, rfl, cpow3 _ _ (by omega) (by omega), _, _, rfl, rfl, (by show (2147483587 : Int) ≠ 0; decide), ?_⟩⟩
          refine ⟨_, rfl, _, _, rfl, rfl, ⟨by decide, by decide⟩, .inl ⟨_, rfl, _, rfl, _, _, rfl, rfl, mz, ?_⟩⟩
          exact k _ _ s02 ⟨ns, at_ + 1, rest, e3, e4, by omega, hrest, hns⟩ (Int.fmod_nonneg_of_pos _ h1) (Int.fmod_lt_of_pos _ h1)
      · refine ⟨_, rfl, .inl ⟨_, rfl, _, _, rfl, rfl, (by show (2147483543 : Int) ≠ 0; decide), _, rfl, _, _, rfl, rfl, .inl ⟨by decide, by decide⟩, _, _, rfl, rfl, _, _, rfl, rfl, .inl ⟨_, rfl, _, _, rfl, rfl, cpow5 _ _ (by omega) (by omega), _, _, rfl, rfl, (by show (2147483563 : Int) ≠ 0; decide), ?_⟩⟩⟩
        refine ⟨_, rfl, _, rfl, _, _, rfl, rfl, .inl ⟨by decide, by decide⟩, _, _, rfl, rfl, _, _, rfl, rfl, .inr ⟨by omega, by omega⟩, _, rfl, _, _, rfl, rfl, .inl ⟨by decide, by decide⟩, _, rfl, _, _, rfl, rfl, .inr ⟨by omega, by omega⟩, _, _, rfl, rfl, _, _, rfl, rfl, .inl ⟨_, rfl, _, _, rfl, rfl, cpow3 _ _ (by omega) (by omega), _, _, rfl, rfl, (by show (2147483587 : Int) ≠ 0; decide), ?_⟩⟩
        refine ⟨_, rfl, _, _, rfl, rfl, ⟨by decide, by decide⟩, .inl ⟨_, rfl, _, rfl, _, _, rfl, rfl, mz, ?_⟩⟩
        exact k _ _ s02 ⟨ns, at_ + 1, rest, e3, e4, by omega, hrest, hns⟩ (Int.fmod_nonneg_of_pos _ h1) (Int.fmod_lt_of_pos _ h1)
end
theorem PenV.le {H : Hp} {a c : Addr} {m m' : Nat} (h : PenV H a c m) (hm : m ≤ m') : PenV H a c m' := h.x (Same.refl _) hm
theorem PenV.at_ {H : Hp} {a c : Addr} {m : Nat} (h : PenV H a c m) : ∃ xs, H a = some (.lst xs) := by
  obtain ⟨ns, at_, rest, e1, _⟩ := h
  exact ⟨_, e1⟩
/-- another list turns, the pen stays -/
theorem PenV.other {H : Hp} {a c b : Addr} {m : Nat} {o : HO} (h : PenV H a c m) (h1 : b ≠ a) (h2 : b ≠ c) : PenV (upd H b o) a c m := by
  obtain ⟨ns, at_, rest, e1, e2, r⟩ := h
  exact ⟨ns, at_, rest, by rw [upd_ne h1.symm]; exact e1, by rw [upd_ne h2.symm]; exact e2, r⟩
theorem PenV.same {H H' : Hp} {a c : Addr} {m : Nat} (h : PenV H a c m) (s : Same H H') : PenV H' a c m := h.x s (Nat.le_refl _)
theorem samex_at {a b : Addr} {H H' : Hp} {o : HO} (s : SameX a H H') (h : H b = none) : SameX a H (upd H' b o) := fun x u hx e => by
  rw [upd_ne (ne_of_none e h)]
  exact s x u hx e
end Lc
set_option Elab.async false
set_option linter.all false
set_option maxRecDepth 100000
set_option maxHeartbeats 4000000
namespace Lc
open PySem PySem.Spec PyProof.Rows L2 LcR
theorem seq_any {s rest : TS} {D : Ends} {σ : L2.St} {H : Hp} (C : L2.St → Hp → Prop) (h1 : ∀ K : L2.St → Hp → Prop, (∀ σ' H', C σ' H' → K σ' H') → s { D with nx := K } σ H) (h2 : ∀ σ' H', C σ' H' → rest D σ' H') : tSeq s rest D σ H := h1 _ h2
theorem exp_any {t : TE} {σ : L2.St} {H : Hp} {Q : VK} (C : V → Hp → Prop) (h1 : ∀ Q' : VK, (∀ x H', C x H' → Q' x H') → t σ H Q') (h2 : ∀ x H', C x H' → Q x H') : t σ H Q := h1 Q h2
theorem for2_any {r : List V → Hp → VK → Prop} {ta : TE} {tA : TA} {g : TG} {tb : TS} {D : Ends} {σ : L2.St} {H : Hp} (C : V → Hp → Prop) (h1 : ∀ Q' : VK, (∀ x H', C x H' → Q' x H') → ta σ H Q')
    (h2 : ∀ x H', C x H' → tFor (iRng2 (tCons (tCB r (tCons (fun _ _ Q => Q x H') tNil)) tA)) g tb D σ H) : tFor (iRng2 (tCons (tCB r (tCons ta tNil)) tA)) g tb D σ H := h1 _ h2
theorem for1_any {ta : TE} {g : TG} {tb : TS} {D : Ends} {σ : L2.St} {H : Hp} (C : V → Hp → Prop) (h1 : ∀ Q' : VK, (∀ x H', C x H' → Q' x H') → ta σ H Q')
    (h2 : ∀ x H', C x H' → tFor (iRng1 (tCons (fun _ _ Q => Q x H') tNil)) g tb D σ H) : tFor (iRng1 (tCons ta tNil)) g tb D σ H := h1 _ h2
theorem rgV0 (n : Nat) : rgV 0 (n : Int) = intV (List.range n) := by
  unfold rgV intV
  rw [show ((n : Int) - 0).toNat = n by omega]
  exact List.map_congr_left fun i _ => by simp
section
variable {P : Program} {w : World} {K : PySem.W.Frag} {mg : Str → Option Value} {base : Heap}
def sp_law_pick (K : PySem.W.Frag) : Sp := fun vs H Q _ => ∃ (a c : Addr) (m : Nat) (b : Addr) (xs : List V), vs = [.ref a, .ref b] ∧ PenV H a c m ∧ m < 1000000 ∧ H b = some (.lst xs) ∧ b ≠ a ∧ xs ≠ [] ∧ xs.length < 1000 ∧ ∀ H' x, SameX a H H' → PenV H' a c (m + 1) → x ∈ xs → Q x H'
theorem c_law_pick (T : Tx K mg) : C8.Cal P w K mg base 2 "_law_pick" (sp_law_pick K) [] := by
  obtain ⟨fd, F⟩ := T.f_law_pick
  refine calD F T.g_law_pick sc_law_pick (fun _ _ _ _ _ _ us hl => match us, hl with | [_, _], _ => rfl) (fun vs H Q E h => ?_) (fun cdv A outer s H vs Q E hr h => ?_)
  · obtain ⟨_, _, _, _, _, rfl, _⟩ := h; rfl
  obtain ⟨a, c, m, b, xs, rfl, hp, hm, eb, ba, xn, xl, k⟩ := h
  refine ⟨_, (pss_one (ps_ret (pe_ix ix_list (pv 1) (C8.pe_c (c_law_draw T) hr (by decide) (by rfl) (pa_cons (pv 0) (pa_cons (pe_callB call_len (by rfl) T.b_len (by decide +kernel) (pa_cons (pv 1) pa_nil)) pa_nil))) (fun _ _ => rfl)))), ?_⟩
  have xp : 0 < xs.length := List.length_pos_iff.mpr xn
  refine ⟨_, rfl, _, rfl, _, rfl, _, xs.length, rfl, .inl ⟨xs, .inl (.inl eb), rfl⟩, a, c, m, (xs.length : Int), rfl, hp, by omega, by omega, hm, fun H1 r s1 p1 r0 r1 => ?_⟩
  obtain ⟨j, rfl⟩ : ∃ j : Nat, r = (j : Int) := ⟨r.toNat, by omega⟩
  have hj : j < xs.length := by omega
  exact ⟨b, xs, _, xs[j], rfl, rfl, .inl (.inl (s1 _ _ ba eb)), atI_nat (List.getElem?_eq_getElem hj), k H1 _ s1 p1 (List.getElem_mem hj)⟩
/-- small acts -/
def OkAct4 (n : Nat) (d : ActD) : Prop := OkAct n d ∧ d.2.length ≤ 4 ∧ ∀ o ∈ d.2, o.odds ≤ 3
def sp_law_acts (K : PySem.W.Frag) : Sp := fun vs H Q _ => ∃ (a c : Addr) (m : Nat), vs = [.ref a, .int 4, .int 1] ∧ PenV H a c m ∧ m < 900000 ∧
  ∀ H' t n l ac us, SameX a H H' → PenV H' a c (m + 300) → H' t = some (.tup [.int ((n : Nat) : Int), .ref ac]) → H ac = none → H' ac = some (.lst us) → All2 (ActV H') us l → OkActs n l → n ≤ 4 → l.length ≤ 12 → (∀ d ∈ l, OkAct4 n d) → Q (.ref t) H'
theorem c_law_acts (T : Tx K mg) : C8.Cal P w K mg base 3 "_law_acts" (sp_law_acts K) [] := by
  obtain ⟨fd, F⟩ := T.f_law_acts
  refine calD F T.g_law_acts sc_law_acts (fun _ _ _ _ _ _ us hl => match us, hl with | [_, _, _], _ => rfl) (fun vs H Q E h => ?_) (fun cdv A outer s H vs Q E hr h => ?_)
  · obtain ⟨_, _, _, rfl, _⟩ := h; rfl
  obtain ⟨a, c, m, rfl, hp, hm, k⟩ := h
  refine ⟨_, (pss_cons (ps_par3 (i := 3) (j := 4) (l := 5) (by rfl) sc_law_acts.nd rfl rfl rfl (by decide) (by decide) (by decide) rfl rfl rfl (pa_cons (C8.pe_c (c_law_pick T) hr (by decide) (by rfl) (pa_cons (pv 0) (pa_cons (pe_lst (pa_cons (pv 1) (pa_cons (pv 1) (pa_cons (pv 1) (pa_cons (pe_op op_add pe_int (C8.pe_c (c_law_draw T) hr (by decide) (by rfl) (pa_cons (pv 0) (pa_cons (pv 1) pa_nil)))) pa_nil))))) pa_nil))) (pa_cons (C8.pe_c (c_law_pick T) hr (by decide) (by rfl) (pa_cons (pv 0) (pa_cons (pe_lst (pa_cons pe_int (pa_cons pe_int (pa_cons pe_int (pa_cons pe_int (pa_cons pe_int (pa_cons pe_int (pa_cons pe_int pa_nil)))))))) pa_nil))) (pa_cons (pe_lst pa_nil) pa_nil))) (by rfl))
      (pss_cons (ps_for PassesOwn.never rfl (pi_range1 (by rfl) T.b_range (pa_cons (pv 3) pa_nil)) (pg_name (i := 6) sc_law_acts.nd rfl (Or.inr rfl))
      (pss_cons (ps_set (i := 7) sc_law_acts.nd rfl (Or.inl rfl) (pe_listRg rfl (by rfl) T.b_list (prg_1 (by rfl) T.b_range (pv 3))))
      (pss_cons (ps_if (pt_cmpR op_eq (pv 4) pe_int (nomark _)) (pss_one (ps_set (i := 7) sc_law_acts.nd rfl (Or.inl rfl) (pe_slice sl_list (pv 7) (po_some (pv 6)) po_none))) pss_nil)
      (pss_cons (ps_if (PW.pt (pw_and (pt_cmpR op_gt (pv 4) pe_int (nomark _)) (pw_and1 (pt_cmpR op_gt (pv 3) pe_int (nomark _))))) (pss_one (ps_setLc (i := 7) (own := [("other", 13)]) (g := gName 13) (by rfl) sc_law_acts.nd rfl rfl (sw_true rfl rfl rfl (by decide +kernel)) (pi_list (pe_slice sl_list (pv 7) (po_some pe_int) po_none)) (blkOk_by (own := [("other", 13)]) (N := N_law_acts) (sc := defScope s_law_acts) (by decide +kernel)) (fun _ _ _ _ _ => (pg_name (i := 13) sc_law_acts.nd rfl (Or.inl rfl))) (fun _ _ _ _ _ => (pts_one (PW.pt (pw_or (pt_cmpR op_eq (pv 6) pe_int (nomark _)) (pw_or1 (pt_cmpR op_eq (pe_op op_fdivW (pe_op op_sub (pv 13) pe_int) pe_int) (pe_op op_fdivW (pe_op op_sub (pv 6) pe_int) pe_int) (nomark _))))))) (fun _ _ _ _ _ => (pv 13)))) pss_nil)
      (pss_cons (ps_set (i := 8) sc_law_acts.nd rfl (Or.inl rfl) (pe_callTy call_tuple_of (by rfl) T.b_tuple (by decide +kernel) (pa_cons (pe_lc (own := [("spot", 14)]) (g := gName 14) (by rfl) sc_law_acts.nd (pi_range1 (by rfl) T.b_range (pa_cons (pv 2) pa_nil)) (blkOk_by (own := [("spot", 14)]) (N := N_law_acts) (sc := defScope s_law_acts) (by decide +kernel)) (fun _ _ _ _ _ => (pg_name (i := 14) sc_law_acts.nd rfl (Or.inl rfl))) (fun _ _ _ _ _ => pts_nil) (fun _ _ _ _ _ => (pe_callTy call_int1 (by rfl) T.b_int (by decide +kernel) (pa_cons (pe_cmpR op_eq (pv 14) (pe_op op_modN (pe_callTy call_int1 (by rfl) T.b_int (by decide +kernel) (pa_cons (pv 6) pa_nil)) (pv 2)) (nomark _)) pa_nil)))) pa_nil)))
      (pss_cons (ps_if (PW.pt (pw_and (pt_cmpR op_eq (pv 4) pe_int (nomark _)) (pw_and1 (pt_cmpR op_gt (pv 6) pe_int (nomark _))))) (pss_one (ps_expr (pe_bm PySem.F.plainAttrs_list PySem.F.slot_list_append PySem.F.type_list_append mt_append (pv 5) (pa_cons (pe_tup (pa_cons (pv 6) (pa_cons (pe_tup (pa_cons (pe_tup (pa_cons pe_int (pa_cons (pv 6) (pa_cons pe_int (pa_cons (pv 8) pa_nil))))) pa_nil)) pa_nil))) pa_nil)))) pss_nil)
      (pss_one (ps_for PassesOwn.never rfl (pi_range2 (by rfl) T.b_range (pa_cons (pe_callTy call_int1 (by rfl) T.b_int (by decide +kernel) (pa_cons (pe_and (pe_cmpR op_eq (pv 4) pe_int (nomark _)) (pe_and (pe_cmpR op_gt (pv 6) pe_int (nomark _)) (pe_one (pe_cmpR op_lt (pe_callB call_len (by rfl) T.b_len (by decide +kernel) (pa_cons (pv 7) pa_nil)) pe_int (nomark _))))) pa_nil)) (pa_cons (pe_op op_add pe_int (C8.pe_c (c_law_draw T) hr (by decide) (by rfl) (pa_cons (pv 0) (pa_cons pe_int pa_nil)))) pa_nil))) (pg_name (i := 9) sc_law_acts.nd rfl (Or.inl rfl))
      (pss_cons (ps_set (i := 10) sc_law_acts.nd rfl (Or.inl rfl) (pe_lst pa_nil))
      (pss_cons (ps_for PassesOwn.never rfl (pi_range1 (by rfl) T.b_range (pa_cons (pe_ifExp (PW.pt (pw_and (pt_cmpR op_gt (pv 4) pe_int (nomark _)) (pw_and1 (pt_cmpR op_eq (pv 6) pe_int (nomark _))))) (pe_op op_add pe_int (C8.pe_c (c_law_draw T) hr (by decide) (by rfl) (pa_cons (pv 0) (pa_cons pe_int pa_nil)))) (pe_ix ix_list (pe_lst (pa_cons pe_int (pa_cons pe_int (pa_cons pe_int (pa_cons pe_int (pa_cons pe_int pa_nil)))))) (C8.pe_c (c_law_draw T) hr (by decide) (by rfl) (pa_cons (pv 0) (pa_cons pe_int pa_nil))) (fun _ _ => rfl))) pa_nil)) (pg_name (i := 11) sc_law_acts.nd rfl (Or.inl rfl))
      (pss_cons (ps_set (i := 12) sc_law_acts.nd rfl (Or.inl rfl) (pe_callTy call_tuple_of (by rfl) T.b_tuple (by decide +kernel) (pa_cons (pe_lc (own := [("spot", 14)]) (g := gName 14) (te := (tCall (sp_law_pick K) [] C8.E0 (tCons (tVar 0) (tCons (tLst (tCons (tC (.int 0)) (tCons (tC (.int 0)) (tCons (tC (.int 1)) (tCons (tC (.int 1)) (tCons (tUn (rU fun i => .int (-i)) (tC (.int 1))) (tCons (tC (.int 2)) tNil))))))) tNil)))) (by rfl) sc_law_acts.nd (pi_range1 (by rfl) T.b_range (pa_cons (pv 2) pa_nil)) (blkOk_by (own := [("spot", 14)]) (N := N_law_acts) (sc := defScope s_law_acts) (by decide +kernel)) (fun _ _ _ _ _ => (pg_name (i := 14) sc_law_acts.nd rfl (Or.inl rfl))) (fun _ _ _ _ _ => pts_nil) (fun _ _ _ _ _ => (C8.pe_c (c_law_pick T) hr (by decide) (by rfl) (pa_cons (pv 0) (pa_cons (pe_lst (pa_cons pe_int (pa_cons pe_int (pa_cons pe_int (pa_cons pe_int (pa_cons (pe_un un_neg pe_int) (pa_cons pe_int pa_nil))))))) pa_nil))))) pa_nil)))
      (pss_one (ps_expr (pe_bm PySem.F.plainAttrs_list PySem.F.slot_list_append PySem.F.type_list_append mt_append (pv 10) (pa_cons (pe_tup (pa_cons (pe_op op_add pe_int (C8.pe_c (c_law_draw T) hr (by decide) (by rfl) (pa_cons (pv 0) (pa_cons pe_int pa_nil)))) (pa_cons (C8.pe_c (c_law_pick T) hr (by decide) (by rfl) (pa_cons (pv 0) (pa_cons (pv 7) pa_nil))) (pa_cons (pe_ix ix_list (pe_lst (pa_cons pe_int (pa_cons pe_int (pa_cons pe_int pa_nil)))) (C8.pe_c (c_law_draw T) hr (by decide) (by rfl) (pa_cons (pv 0) (pa_cons pe_int pa_nil))) (fun _ _ => rfl)) (pa_cons (pv 12) pa_nil))))) pa_nil))))))
      (pss_one (ps_expr (pe_bm PySem.F.plainAttrs_list PySem.F.slot_list_append PySem.F.type_list_append mt_append (pv 5) (pa_cons (pe_tup (pa_cons (pv 6) (pa_cons (pe_callTy call_tuple_of (by rfl) T.b_tuple (by decide +kernel) (pa_cons (pv 10) pa_nil)) pa_nil))) pa_nil))))))))))))))
      (pss_one (ps_ret (pe_tup (pa_cons (pv 3) (pa_cons (pv 5) pa_nil))))))), ?_⟩
  have mk : ∀ r : Int, 0 ≤ r → ∃ q : Nat, r = (q : Int) := fun r h => ⟨r.toNat, by omega⟩
  have dom : ∀ {H' : Hp} {x : Addr}, SameX a H H' → H' x = none → x ≠ a → H x = none := fun {H' x} s h hx => by
    cases e : H x with
    | none => rfl
    | some o => rw [s x o hx e] at h; cases h
  have fresh : ∀ {H' : Hp} {x : Addr} {m' : Nat}, PenV H' a c m' → H' x = none → x ≠ a ∧ x ≠ c := fun {H' x m'} p h => by
    obtain ⟨ns, at_, rest, e1, e2, _⟩ := p
    exact ⟨fun z => by (subst z; rw [e1] at h; cases h), fun z => by (subst z; rw [e2] at h; cases h)⟩
  -- how many, which style
  refine ⟨_, rfl, _, rfl, _, rfl, _, rfl, _, rfl, _, rfl, a, c, m, 4, rfl, hp, by decide, by decide, by omega, fun H1 r s1 p1 r0 r1 => ?_⟩
  refine ⟨_, _, rfl, rfl, by show 4 ≤ sizeLine; decide, fun b hb => ?_⟩
  obtain ⟨f1, f2⟩ := fresh p1 hb
  have t2 := same_upd (o := .lst [.int 4, .int 4, .int 4, .int ((1 : Int) + r)]) hb
  refine ⟨a, c, m + 1, b, _, rfl, p1.same t2, by omega, upd_same, f1, by simp, by show 4 < 1000; decide, fun H3 x s3 p3 hx => ?_⟩
  obtain ⟨n, rfl, n1, n5⟩ : ∃ n : Nat, x = V.int (n : Int) ∧ 1 ≤ n ∧ n ≤ 4 := by
    simp only [List.mem_cons, List.not_mem_nil, or_false] at hx
    rcases hx with rfl | rfl | rfl | rfl
    · exact ⟨4, rfl, by omega, by omega⟩
    · exact ⟨4, rfl, by omega, by omega⟩
    · exact ⟨4, rfl, by omega, by omega⟩
    · exact ⟨(1 + r).toNat, by congr 1; omega, by omega, by omega⟩
  refine ⟨_, rfl, by show 7 ≤ sizeLine; decide, fun b2 hb2 => ?_⟩
  obtain ⟨f3, f4⟩ := fresh p3 hb2
  have t4 := same_upd (o := .lst [.int 0, .int 1, .int 2, .int 3, .int 4, .int 4, .int 4]) hb2
  refine ⟨a, c, m + 1 + 1, b2, _, rfl, p3.same t4, by omega, upd_same, f3, by simp, by show 7 < 1000; decide, fun H5 x s5 p5 hx => ?_⟩
  obtain ⟨st, rfl⟩ : ∃ st : Int, x = V.int st := by
    simp only [List.mem_cons, List.not_mem_nil, or_false] at hx
    rcases hx with rfl | rfl | rfl | rfl | rfl | rfl | rfl <;> exact ⟨_, rfl⟩
  have s05 : SameX a H H5 := s1.trans ((SameX.of t2).trans (s3.trans ((SameX.of t4).trans s5)))
  refine ⟨Nat.zero_le _, fun Ac hAc => ⟨_, _, _, rfl, ?_⟩⟩
  obtain ⟨aAc, cAc⟩ := fresh p5 hAc
  have hAcH := dom s05 hAc aAc
  refine ⟨_, rfl, (n : Int), rfl, by omega, by omega, ?_⟩
  rw [Int.toNat_natCast]
  refine for_it walk_range (fun i σ H2 => (∃ x6 x7 x8 x9 x10 x11 x12, σ = [some (.ref a), some (.int 4), some (.int 1), some (.int (n : Int)), some (.int st), some (.ref Ac), x6, x7, x8, x9, x10, x11, x12, none, none]) ∧ SameX a H H2 ∧ PenV H2 a c (m + 3 + 50 * i) ∧ ∃ us l, H2 Ac = some (.lst us) ∧ All2 (ActV H2) us l ∧ (∀ d ∈ l, OkAct4 n d) ∧ (∀ s, s < i → ∃ d ∈ l, d.1 = s) ∧ l.length ≤ 3 * i)
    ⟨⟨none, none, none, none, none, none, none, rfl⟩, samex_at s05 hAcH, (p5.other aAc cAc).le (by omega), [], [], upd_same, All2.nil, fun _ h => by simp at h, fun s h => absurd h (Nat.not_lt_zero _), by simp⟩ (fun i σ H2 _ p => trivial) ?_ ?_
  · rintro i x σ H3' H2 hi ⟨⟨x6, x7, x8, x9, x10, x11, x12, rfl⟩, s2, p2, us, l, eA, aA, okl, alls, ll⟩ ⟨rfl, ex⟩
    obtain rfl : x = V.int ((i : Nat) : Int) := ex.trans (congrArg V.int (Int.zero_add _))
    -- near
    refine ⟨_, rfl, (n : Int), rfl, RgOk.of_le (by omega) (by omega) (by omega) (by omega), fun N0 hN0 => ?_⟩
    rw [rgV0]
    have t6 := same_upd (o := .lst (intV (List.range n))) hN0
    obtain ⟨aN0, cN0⟩ := fresh p2 hN0
    dsimp only [gName]
    refine seq_any (fun σ' H' => Same H2 H' ∧ ∃ N nl, σ' = [some (.ref a), some (.int 4), some (.int 1), some (.int (n : Int)), some (.int st), some (.ref Ac), some (.int (i : Int)), some (.ref N), x8, x9, x10, x11, x12, none, none] ∧ H' N = some (.lst (intV nl)) ∧ H2 N = none ∧ (st ≠ 1 → nl = List.range n) ∧ nl ≠ [] ∧ (∀ x ∈ nl, x < n) ∧ nl.length ≤ 5) (fun KK hK => ?_) (fun σ' H6 hC => ?_)
    · refine ⟨_, rfl, rfl, _, rfl, ite2 (fun h1 => ?_) (fun h1 => ?_)⟩
      · refine ⟨_, rfl, _, rfl, _, rfl, N0, _, rfl, .inl (.inl upd_same), fun p hp => ?_⟩
        have e1 : cutV (intV (List.range n)) (some (i : Int)) none = intV ((List.range n).drop i) := by
          rw [cut_hi _ _ (by unfold intV; rw [List.length_map, List.length_range]; omega)]
          unfold intV
          rw [List.map_drop]
        rw [e1]
        refine hK _ _ ⟨t6.trans (same_upd hp), p, (List.range n).drop i, rfl, upd_same, none_back t6 hp, fun h => ?_, ?_, fun x hx => List.mem_range.mp (List.mem_of_mem_drop hx), by simp; omega⟩
        · exact absurd (V.int.inj (of_decide_eq_true h1)) h
        · intro e
          have := congrArg List.length e
          simp at this
          omega
      · exact hK _ _ ⟨t6, N0, List.range n, rfl, upd_same, hN0, fun _ => rfl, fun e => by (have := congrArg List.length e; simp at this; omega), fun x hx => List.mem_range.mp hx, by simp; omega⟩
    obtain ⟨s6, N1, nl1, rfl, eN1, hN1, n1s, n1n, n1l, n1z⟩ := hC

    refine seq_any (fun σ' H' => Same H2 H' ∧ ∃ N nl, σ' = [some (.ref a), some (.int 4), some (.int 1), some (.int (n : Int)), some (.int st), some (.ref Ac), some (.int (i : Int)), some (.ref N), x8, x9, x10, x11, x12, none, none] ∧ H' N = some (.lst (intV nl)) ∧ H2 N = none ∧ nl ≠ [] ∧ (∀ x ∈ nl, x < n) ∧ nl.length ≤ 5) (fun KK hK => ?_) (fun σ' H7 hC => ?_)
    · refine ⟨_, rfl, _, _, rfl, rfl, _, rfl, ite2 (fun h1 => ?_) (fun h1 => ?_)⟩
      · refine ⟨_, rfl, _, _, rfl, rfl, _, rfl, ite2 (fun h2 => ?_) (fun h2 => ?_)⟩
        · have h1 := of_decide_eq_true h1
          have h2 := of_decide_eq_true h2
          have e1 := n1s (by omega)
          subst e1
          refine ⟨_, rfl, 1, rfl, N1, _, rfl, .inl (.inl eN1), fun p hp => ?_⟩
          have e1 : cutV (intV (List.range n)) (some 1) none = (intV (List.range n)).drop 1 := cut1 _
          rw [e1]
          have il : ((intV (List.range n)).drop 1).length = n - 1 := by unfold intV; simp
          have t7 := same_upd (o := .lst ((intV (List.range n)).drop 1)) hp
          refine ⟨p, rfl, ⟨_, .inl (.inl upd_same)⟩, fun D hD => ?_⟩
          have ep : upd H6 p (.lst ((intV (List.range n)).drop 1)) p = some (.lst ((intV (List.range n)).drop 1)) := upd_same
          generalize upd H6 p (.lst ((intV (List.range n)).drop 1)) = H7 at t7 ep hD
          refine lcm walk_list hD (Nat.le_trans (by omega : ((intV (List.range n)).drop 1).length ≤ 5) (by decide)) (fun j => decide (i = 0) || decide ((((j + 1 : Nat) : Int) - 1) / 2 = ((i : Int) - 1) / 2)) (fun j y _ => y = .int ((j + 1 : Nat) : Int)) (fun _ _ _ _ _ h => h) (fun H1 s => .inl (.inl (s _ _ ep))) (fun j x H8 H1 kN' kY hj s y kn ky => ?_) (fun H9 ys s9 e9 kp => ?_)
          · obtain ⟨rfl, hx⟩ := y
            have hxe : x = V.int ((j + 1 : Nat) : Int) := by
              unfold intV at hx
              rw [List.getElem?_drop, List.getElem?_map, List.getElem?_range (by omega)] at hx
              cases hx
              rw [Nat.add_comm]
            subst hxe
            refine ⟨rfl, ⟨_, rfl, rfl, _, rfl, ite2 (fun h3 => ?_) (fun h3 => ?_)⟩⟩
            · have h3 := V.int.inj (of_decide_eq_true h3)
              exact ⟨_, rfl, ky _ _ (Same.refl _) (by simp; left; omega) rfl⟩
            · have h3 : i ≠ 0 := fun z => h3 (decide_eq_true (by rw [z]; rfl))
              refine ⟨_, rfl, _, _, rfl, rfl, _, _, rfl, rfl, ⟨by decide, by decide⟩, _, rfl, _, _, rfl, rfl, _, _, rfl, rfl, ⟨by decide, by decide⟩, rfl, _, rfl, ite2 (fun h4 => ?_) (fun h4 => ?_)⟩
              · have h4 := V.int.inj (of_decide_eq_true h4)
                exact ⟨_, rfl, ky _ _ (Same.refl _) (by rw [decide_eq_true h4]; simp) rfl⟩
              · have h4 : ¬ (((j + 1 : Nat) : Int) - 1) / 2 = ((i : Int) - 1) / 2 := fun z => h4 (decide_eq_true (congrArg V.int z))
                exact kn _ (Same.refl _) (by rw [decide_eq_false h3, decide_eq_false h4]; rfl)
          · have eys := kept_map (f := fun j => V.int ((j + 1 : Nat) : Int)) kp
            rw [il] at eys
            have eys2 : ys = intV (((List.range (n - 1)).filter fun j => decide (i = 0) || decide ((((j + 1 : Nat) : Int) - 1) / 2 = ((i : Int) - 1) / 2)).map (· + 1)) := by
              rw [eys]
              unfold intV
              rw [List.map_map]
              rfl
            refine hK _ _ ⟨s6.trans (t7.trans s9), D, _, rfl, by rw [e9, eys2], none_back (s6.trans t7) hD, fun e => ?_, fun x hx => ?_, ?_⟩
            · have hmem : (if i = 0 then 0 else i - 1) ∈ (List.range (n - 1)).filter fun j => decide (i = 0) || decide ((((j + 1 : Nat) : Int) - 1) / 2 = ((i : Int) - 1) / 2) := by
                rw [List.mem_filter, List.mem_range]
                by_cases hz : i = 0
                · simp [hz]; omega
                · rw [if_neg hz, show i - 1 + 1 = i by omega]
                  exact ⟨by omega, by simp⟩
              have := List.map_eq_nil_iff.mp e
              rw [this] at hmem
              cases hmem
            · obtain ⟨j, hj, rfl⟩ := List.mem_map.mp hx
              have := List.mem_range.mp (List.mem_filter.mp hj).1
              omega
            · rw [List.length_map]
              have := List.length_filter_le (fun j => decide (i = 0) || decide ((((j + 1 : Nat) : Int) - 1) / 2 = ((i : Int) - 1) / 2)) (List.range (n - 1))
              rw [List.length_range] at this
              omega
        · exact hK _ _ ⟨s6, N1, nl1, rfl, eN1, hN1, n1n, n1l, n1z⟩
      · exact iteF (hK _ _ ⟨s6, N1, nl1, rfl, eN1, hN1, n1n, n1l, n1z⟩)
    obtain ⟨s7, N, nl, rfl, eN, hN2, nn, nlt, nlz⟩ := hC
    obtain ⟨aN, cN⟩ := fresh p2 hN2
    have AN : N ≠ Ac := fun z => by subst z; rw [eA] at hN2; cases hN2
    -- unit
    refine ⟨_, rfl, 1, rfl, by decide, by decide, fun D hD => ?_⟩
    refine lcm walk_range hD (by show (1 : Int).toNat ≤ sizeLine; decide) (fun _ => true) (fun j y _ => ∃ z : Int, y = .int z ∧ -999 ≤ z ∧ z ≤ 999) (fun _ _ _ _ _ h => h) (fun H1 s => trivial) (fun j x H8 H1 kN' kY hj s y kn ky => ?_) (fun H8 ys s8 e8 kp => ?_)
    · obtain ⟨rfl, ex⟩ := y
      obtain rfl : x = V.int ((j : Nat) : Int) := ex.trans (congrArg V.int (Int.zero_add _))
      refine ⟨rfl, yes ⟨_, rfl, _, rfl, .inl ⟨_, rfl, _, rfl, _, _, rfl, rfl, (by show (1 : Int) ≠ 0; decide), rfl, .inr ⟨_, rfl, ky _ _ (Same.refl _) rfl ⟨_, rfl, ?_, ?_⟩⟩⟩⟩⟩
      · split <;> decide
      · split <;> decide
    obtain ⟨l1, l2⟩ := kp.all
    obtain ⟨z, rfl, z1, z2⟩ : ∃ z : Int, ys = [z].map V.int ∧ -999 ≤ z ∧ z ≤ 999 := by
      have hl : ys.length = 1 := l1
      obtain ⟨z, hz, h1, h2⟩ := l2 0 _ (List.getElem?_eq_getElem (by omega))
      refine ⟨z, ?_, h1, h2⟩
      apply List.ext_getElem?
      intro q
      cases q with
      | zero => rw [List.getElem?_eq_getElem (by omega), hz]; rfl
      | succ q => rw [List.getElem?_eq_none (by omega)]; rfl
    refine ⟨D, _, rfl, .inl ⟨.inl (.inl e8), fun U hU => ?_⟩⟩
    have s9 := s7.trans (s8.trans (same_upd (o := .tup ([z].map V.int)) hU))
    have eU : upd H8 U (.tup ([z].map V.int)) U = some (.tup ([z].map V.int)) := upd_same
    have eN9 := (s8.trans (same_upd (o := .tup ([z].map V.int)) hU)) _ _ eN
    dsimp only [gName]
    generalize upd H8 U (.tup ([z].map V.int)) = H9 at s9 eU eN9
    refine seq_any (fun σ' H' => σ' = [some (.ref a), some (.int 4), some (.int 1), some (.int (n : Int)), some (.int st), some (.ref Ac), some (.int (i : Int)), some (.ref N), some (.ref U), x9, x10, x11, x12, none, none] ∧ SameX a H H' ∧ PenV H' a c (m + 3 + 50 * i) ∧ H' N = some (.lst (intV nl)) ∧ ∃ us l, H' Ac = some (.lst us) ∧ All2 (ActV H') us l ∧ (∀ d ∈ l, OkAct4 n d) ∧ (∀ s, s < i → ∃ d ∈ l, d.1 = s) ∧ l.length ≤ 3 * i + 1 ∧ (st = 4 → 0 < i → ∃ d ∈ l, d.1 = i)) (fun KK hK => ?_) (fun σ' H10 hC => ?_)
    · have eA9 := s9 _ _ eA
      have aA9 : All2 (ActV H9) us l := aA.imp fun x y z => z.n (same_n s9)
      have s29 := s2.trans (SameX.of s9)
      have p9 := p2.same s9
      refine ⟨_, rfl, rfl, _, rfl, ite2 (fun h1 => ?_) (fun h1 => iteF ?_)⟩
      · refine ⟨_, rfl, _, _, rfl, rfl, _, rfl, ite2 (fun h2 => ?_) (fun h2 => ?_)⟩
        · have h2 := of_decide_eq_true h2
          refine ⟨_, rfl, .inl ⟨rfl, _, .inl (.inl eA9)⟩, _, rfl, _, rfl, _, rfl, by show 4 ≤ sizeLine; decide, fun t1 ht1 => ⟨by show 1 ≤ sizeLine; decide, fun t2 ht2 => ⟨by show 2 ≤ sizeLine; decide, fun t3 ht3 => ?_⟩⟩⟩
          have u1 := (same_upd (o := .tup [.int 1, .int (i : Int), .int 1, .ref U]) ht1).trans ((same_upd (o := .tup [.ref t1]) ht2).trans (same_upd (o := .tup [.int (i : Int), .ref t2]) ht3))
          have g1 : upd (upd (upd H9 t1 (.tup [.int 1, .int (i : Int), .int 1, .ref U])) t2 (.tup [.ref t1])) t3 (.tup [.int (i : Int), .ref t2]) t1 = some (.tup [.int 1, .int (i : Int), .int 1, .ref U]) := same_upd ht3 _ _ (same_upd ht2 _ _ upd_same)
          have g2 : upd (upd (upd H9 t1 (.tup [.int 1, .int (i : Int), .int 1, .ref U])) t2 (.tup [.ref t1])) t3 (.tup [.int (i : Int), .ref t2]) t2 = some (.tup [.ref t1]) := same_upd ht3 _ _ upd_same
          have g3 : upd (upd (upd H9 t1 (.tup [.int 1, .int (i : Int), .int 1, .ref U])) t2 (.tup [.ref t1])) t3 (.tup [.int (i : Int), .ref t2]) t3 = some (.tup [.int (i : Int), .ref t2]) := upd_same
          have gU := u1 _ _ eU
          generalize upd (upd (upd H9 t1 (.tup [.int 1, .int (i : Int), .int 1, .ref U])) t2 (.tup [.ref t1])) t3 (.tup [.int (i : Int), .ref t2]) = H10 at u1 g1 g2 g3 gU
          have eA10 := u1 _ _ eA9
          have snA : SameN H10 (upd H10 Ac (.lst (us ++ [.ref t3]))) := sameN_upd eA10 (fun z => z)
          refine ⟨Ac, us, _, rfl, rfl, eA10, Nat.lt_of_le_of_lt (by rw [aA.1]; omega : us.length ≤ 100) (by decide), ?_⟩
          refine hK _ _ ⟨rfl, samex_at (s29.trans (SameX.of u1)) hAcH, (p9.same u1).other aAc cAc, by rw [upd_ne AN]; exact u1 _ _ eN9, us ++ [.ref t3], l ++ [(i, [⟨1, i, 1, [z]⟩])], upd_same, (aA9.imp fun x y z => (z.n (same_n u1)).n snA).snoc (show ActV _ (V.ref t3) (i, [⟨1, i, 1, [z]⟩]) from ⟨t3, t2, [.ref t1], rfl, snA _ _ g3 trivial, snA _ _ g2 trivial, all2_one (show OutV _ (V.ref t1) ⟨1, i, 1, [z]⟩ from ⟨t1, U, rfl, snA _ _ g1 trivial, snA _ _ gU trivial⟩)⟩), fun d hd => ?_, fun s hs => ?_, by rw [List.length_append]; show l.length + 1 ≤ _; omega, fun _ _ => ⟨_, List.mem_append_right _ (List.mem_singleton.mpr rfl), rfl⟩⟩
          · rcases List.mem_append.mp hd with q | q
            · exact okl d q
            · rw [List.mem_singleton.mp q]
              refine ⟨⟨hi, by simp, by show 1 ≤ 5; omega, fun o ho => ?_⟩, by show 1 ≤ 4; omega, fun o ho => by rw [List.mem_singleton.mp ho]; show 1 ≤ 3; omega⟩
              rw [List.mem_singleton.mp ho]
              exact ⟨by show 1 ≤ 1; omega, by show 1 ≤ 900; omega, hi, by show 1 ≤ 1; omega, by show 1 ≤ 1000; omega, rfl, fun q hq => by rw [List.mem_singleton.mp hq]; omega⟩
          · obtain ⟨d, q1, q2⟩ := alls s hs
            exact ⟨d, List.mem_append_left _ q1, q2⟩
        · have h2 : ¬ (0 : Int) < (i : Int) := fun q => h2 (decide_eq_true q)
          exact hK _ _ ⟨rfl, s29, p9, eN9, us, l, eA9, aA9, okl, alls, by omega, fun _ q => by omega⟩
      · have h1 : st ≠ 4 := fun q => h1 (decide_eq_true (by rw [q]))
        exact hK _ _ ⟨rfl, s29, p9, eN9, us, l, eA9, aA9, okl, alls, by omega, fun q => absurd q h1⟩
    obtain ⟨rfl, s10, p10, eN10, us, l, eA, aA, okl, alls, ll, own4⟩ := hC
    clear s9 eN9 s7 eN s8 e8 hD hU
    refine for2_any (fun x H' => ∃ b : Bool, x = .bl b ∧ H' = H10 ∧ (b = true → st = 4 ∧ 0 < i)) (fun Q' hQ => ?_) (fun x H11 hC => ?_)
    · refine ⟨_, rfl, rfl, _, rfl, ite2 (fun h1 => ?_) (fun h1 => ?_)⟩
      · have h1 := V.int.inj (of_decide_eq_true h1)
        refine ⟨_, rfl, _, _, rfl, rfl, _, rfl, ite2 (fun h2 => ?_) (fun h2 => ?_)⟩
        · have h2 := of_decide_eq_true h2
          exact ⟨_, rfl, _, nl.length, rfl, .inl ⟨intV nl, .inl (.inl eN10), (List.length_map _).symm⟩, _, _, rfl, rfl, hQ _ _ ⟨_, rfl, rfl, fun _ => ⟨h1, by omega⟩⟩⟩
        · exact hQ _ _ ⟨false, rfl, rfl, fun h => by cases h⟩
      · exact hQ _ _ ⟨false, rfl, rfl, fun h => by cases h⟩
    obtain ⟨b4, rfl, rfl, hb4⟩ := hC
    refine .inr ⟨b4, rfl, ?_⟩
    refine ⟨_, rfl, a, c, _, 2, rfl, p10, by decide, by decide, by omega, fun H12 r12 s12 p12 r0' r1' => ?_⟩
    obtain ⟨r12, rfl⟩ := mk r12 r0'
    refine ⟨_, _, rfl, rfl, (if b4 = true then 1 else 0), (1 : Int) + (r12 : Int), rfl, ⟨?_, ?_, by omega, by omega⟩, ?_⟩
    · cases b4 <;> decide
    · cases b4 <;> decide
    obtain ⟨cnt, ec, c2, c1⟩ : ∃ cnt : Nat, (((1 : Int) + (r12 : Int)) - (if b4 = true then 1 else 0)).toNat = cnt ∧ cnt ≤ 2 ∧ (b4 = false → 1 ≤ cnt) := by
      cases b4
      · exact ⟨1 + r12, by simp; omega, by omega, fun _ => by omega⟩
      · exact ⟨r12, by simp; omega, by omega, fun h => by cases h⟩
    rw [ec]
    obtain ⟨xs10, ea10⟩ := p10.at_
    have sn12 := s12.n ea10
    refine for_it walk_range (fun jj σ H2 => (∃ x9 x10 x11 x12, σ = [some (.ref a), some (.int 4), some (.int 1), some (.int (n : Int)), some (.int st), some (.ref Ac), some (.int (i : Int)), some (.ref N), some (.ref U), x9, x10, x11, x12, none, none]) ∧ SameX a H H2 ∧ PenV H2 a c (m + 3 + 50 * i + 1 + 20 * jj) ∧ H2 N = some (.lst (intV nl)) ∧ ∃ us l, H2 Ac = some (.lst us) ∧ All2 (ActV H2) us l ∧ (∀ d ∈ l, OkAct4 n d) ∧ (∀ s, s < i → ∃ d ∈ l, d.1 = s) ∧ l.length ≤ 3 * i + 1 + jj ∧ (st = 4 → 0 < i → ∃ d ∈ l, d.1 = i) ∧ (1 ≤ jj → ∃ d ∈ l, d.1 = i))
      ⟨⟨x9, x10, x11, x12, rfl⟩, s10.trans s12, p12.le (by omega), s12 _ _ aN eN10, us, l, s12 _ _ aAc eA, aA.imp fun x y z => z.n sn12, okl, alls, by omega, own4, fun h => absurd h (by omega)⟩ (fun i σ H2 _ p => trivial) ?_ ?_
    · rintro jj x σ H14' H13 hjj ⟨⟨x9, x10, x11, x12, rfl⟩, s13, p13, eN13, us, l, eA, aA, okl, alls, ll, own4, one⟩ ⟨rfl, ex⟩
      subst ex
      refine ⟨Nat.zero_le _, fun Oc hOc => ?_⟩
      obtain ⟨aOc, cOc⟩ := fresh p13 hOc
      have AOc : Ac ≠ Oc := fun z => by subst z; rw [eA] at hOc; cases hOc
      have NOc : N ≠ Oc := fun z => by subst z; rw [eN13] at hOc; cases hOc
      have hOcH := dom s13 hOc aOc
      have t14 := same_upd (o := .lst []) hOc
      have p14 := p13.same t14
      have eO14 : upd H13 Oc (.lst []) Oc = some (.lst []) := upd_same
      have eA14 := t14 _ _ eA
      have eN14 := t14 _ _ eN13
      have s14 : SameX a H (upd H13 Oc (.lst [])) := s13.trans (SameX.of t14)
      have aA14 : All2 (ActV (upd H13 Oc (.lst []))) us l := aA.imp fun x y z => z.n (same_n t14)
      dsimp only [gName, tSeq]
      generalize upd H13 Oc (.lst []) = H14 at p14 eO14 eA14 eN14 s14 aA14
      refine for1_any (fun x H' => ∃ cn : Nat, x = .int (cn : Int) ∧ 1 ≤ cn ∧ cn ≤ 4 ∧ SameX a H14 H' ∧ PenV H' a c (m + 3 + 50 * i + 1 + 20 * jj + 1)) (fun Q' hQ => ?_) (fun x H15 hC => ?_)
      · have two : ∀ (H' : Hp) (r : Int), SameX a H14 H' → PenV H' a c (m + 3 + 50 * i + 1 + 20 * jj + 1) → 0 ≤ r → r < 3 → Q' (.int (2 + r)) H' := fun H' r q1 q2 q3 q4 => hQ _ _ ⟨(2 + r).toNat, by congr 1; omega, by omega, by omega, q1, q2⟩
        have five : tOp (rIxL K) (tLst (tCons (tC (.int 1)) (tCons (tC (.int 1)) (tCons (tC (.int 2)) (tCons (tC (.int 2)) (tCons (tC (.int 3)) tNil)))))) (tCall sp_law_draw [] C8.E0 (tCons (tVar 0) (tCons (tC (.int 5)) tNil))) ((([some (.ref a), some (.int 4), some (.int 1), some (.int (n : Int)), some (.int st), some (.ref Ac), some (.int (i : Int)), some (.ref N), some (.ref U), x9, x10, x11, x12, none, none].set 9 (some (.int ((if b4 = true then 1 else 0) + (jj : Int))))).set 10 (some (.ref Oc)))) H14 Q' := by
          refine ⟨by show 5 ≤ sizeLine; decide, fun q hq => ?_⟩
          have tq := same_upd (o := .lst [.int 1, .int 1, .int 2, .int 2, .int 3]) hq
          obtain ⟨aq, _⟩ := fresh p14 hq
          refine ⟨_, rfl, a, c, _, 5, rfl, p14.same tq, by decide, by decide, by omega, fun H' r q1 q2 q3 q4 => ?_⟩
          obtain ⟨r, rfl⟩ := mk r q3
          have hv : ∃ cn : Nat, ([V.int 1, .int 1, .int 2, .int 2, .int 3] : List V)[r]? = some (.int (cn : Int)) ∧ 1 ≤ cn ∧ cn ≤ 4 := by
            have : r = 0 ∨ r = 1 ∨ r = 2 ∨ r = 3 ∨ r = 4 := by omega
            rcases this with rfl | rfl | rfl | rfl | rfl
            · exact ⟨1, rfl, by omega, by omega⟩
            · exact ⟨1, rfl, by omega, by omega⟩
            · exact ⟨2, rfl, by omega, by omega⟩
            · exact ⟨2, rfl, by omega, by omega⟩
            · exact ⟨3, rfl, by omega, by omega⟩
          obtain ⟨cn, e1, e2, e3⟩ := hv
          exact ⟨q, _, _, _, rfl, rfl, .inl (.inl (q1 _ _ aq upd_same)), atI_nat e1, hQ _ _ ⟨cn, rfl, e2, e3, (SameX.of tq).trans q1, q2⟩⟩
        refine ⟨_, rfl, _, _, rfl, rfl, _, rfl, ite2 (fun h1 => ?_) (fun h1 => iteF five)⟩
        refine ⟨_, rfl, rfl, _, rfl, ite2 (fun h2 => ?_) (fun h2 => five)⟩
        exact ⟨_, rfl, a, c, _, 3, rfl, p14, by decide, by decide, by omega, fun H' r q1 q2 q3 q4 => ⟨_, _, rfl, rfl, two H' r q1 q2 q3 q4⟩⟩
      obtain ⟨cn, rfl, cn1, cn4, s15, p15⟩ := hC
      refine ⟨(cn : Int), rfl, by omega, by omega, ?_⟩
      rw [Int.toNat_natCast]
      obtain ⟨xs14, ea14⟩ := p14.at_
      have sn15 := s15.n ea14
      refine for_it walk_range (fun kk σ H8 => (∃ x9 x11 x12, σ = [some (.ref a), some (.int 4), some (.int 1), some (.int (n : Int)), some (.int st), some (.ref Ac), some (.int (i : Int)), some (.ref N), some (.ref U), x9, some (.ref Oc), x11, x12, none, none]) ∧ SameX a H H8 ∧ PenV H8 a c (m + 3 + 50 * i + 1 + 20 * jj + 1 + 4 * kk) ∧ H8 N = some (.lst (intV nl)) ∧ H8 Ac = some (.lst us) ∧ All2 (ActV H8) us l ∧ ∃ ous ol, H8 Oc = some (.lst ous) ∧ All2 (OutV H8) ous ol ∧ (∀ o ∈ ol, OkOut n o ∧ o.odds ≤ 3) ∧ ol.length = kk)
        ⟨⟨_, _, _, rfl⟩, s14.trans s15, p15.le (by omega), s15 _ _ aN eN14, s15 _ _ aAc eA14, aA14.imp fun x y z => z.n sn15, [], [], s15 _ _ aOc eO14, All2.nil, fun _ h => by simp at h, rfl⟩ (fun i σ H2 _ p => trivial) ?_ ?_
      · rintro kk x σ H9' H8 hkk ⟨⟨x9, x11, x12, rfl⟩, s8, p8, eN8, eA8, aA8, ous, ol, eO8, aO8, oko, oll⟩ ⟨rfl, ex⟩
        obtain rfl : x = V.int ((kk : Nat) : Int) := ex.trans (congrArg V.int (Int.zero_add _))
        -- pays
        refine ⟨_, rfl, 1, rfl, by decide, by decide, fun D hD => ?_⟩
        obtain ⟨aD, cD⟩ := fresh p8 hD
        refine lc_it walk_range (fun q H' => SameX a H8 H' ∧ PenV H' a c (m + 3 + 50 * i + 1 + 20 * jj + 1 + 4 * kk + q) ∧ ∃ ps : List Int, H' D = some (.lst (ps.map V.int)) ∧ ps.length = q ∧ ∀ y ∈ ps, -999 ≤ y ∧ y ≤ 999)
          ⟨SameX.of (same_upd hD), (p8.same (same_upd hD)).le (by omega), [], upd_same, rfl, fun _ h => by simp at h⟩ (fun _ _ _ _ => trivial) (fun q x H9 H9' hq pv y => ?_) (fun H9 pv => ?_)
        · obtain ⟨rfl, _⟩ := y
          have pv' : SameX a H8 H9' ∧ PenV H9' a c (m + 3 + 50 * i + 1 + 20 * jj + 1 + 4 * kk + q) ∧ ∃ ps : List Int, H9' D = some (.lst (ps.map V.int)) ∧ ps.length = q ∧ ∀ y ∈ ps, -999 ≤ y ∧ y ≤ 999 := pv
          clear pv
          obtain ⟨s9, p9, ps, eD, pl, pb⟩ := pv'
          have hq1 : q < 1 := hq
          refine ⟨rfl, yes ⟨_, rfl, 1, rfl, by show 6 ≤ sizeLine; decide, fun b hb => ?_⟩⟩
          obtain ⟨ab, cb⟩ := fresh p9 hb
          have tb := same_upd (o := .lst [.int 0, .int 0, .int 1, .int 1, .int (-1), .int 2]) hb
          refine ⟨a, c, _, b, _, rfl, p9.same tb, by omega, upd_same, ab, by simp, by show 6 < 1000; decide, fun H10 x s10 p10 hx => ?_⟩
          obtain ⟨y, rfl, y1, y2⟩ : ∃ y : Int, x = V.int y ∧ -999 ≤ y ∧ y ≤ 999 := by
            simp only [List.mem_cons, List.not_mem_nil, or_false] at hx
            rcases hx with rfl | rfl | rfl | rfl | rfl | rfl <;> exact ⟨_, rfl, by decide, by decide⟩
          have eD10 := s10 _ _ aD (tb _ _ eD)
          have dD : H8 D = none := hD
          refine ⟨_, eD10, Nat.lt_of_le_of_lt (by rw [List.length_map, pl]; omega : (ps.map V.int).length ≤ 1) (by decide), ?_⟩
          refine ⟨samex_at (s9.trans ((SameX.of tb).trans s10)) dD, (p10.other aD cD).le (by omega), ps ++ [y], by rw [upd_same, List.map_append]; rfl, by rw [List.length_append, pl]; rfl, fun z hz => ?_⟩
          rcases List.mem_append.mp hz with h | h
          · exact pb z h
          · rw [List.mem_singleton.mp h]; exact ⟨y1, y2⟩
        have pv' : SameX a H8 H9 ∧ PenV H9 a c (m + 3 + 50 * i + 1 + 20 * jj + 1 + 4 * kk + 1) ∧ ∃ ps : List Int, H9 D = some (.lst (ps.map V.int)) ∧ ps.length = 1 ∧ ∀ y ∈ ps, -999 ≤ y ∧ y ≤ 999 := pv
        clear pv
        obtain ⟨s9, p9, ps, eD, pl, pb⟩ := pv'
        refine ⟨D, _, rfl, .inl ⟨.inl (.inl eD), fun tp htp => ?_⟩⟩
        have u9 := same_upd (o := .tup (ps.map V.int)) htp
        have etp : upd H9 tp (.tup (ps.map V.int)) tp = some (.tup (ps.map V.int)) := upd_same
        obtain ⟨xs8, ea8⟩ := p8.at_
        have sn9 := (s9.n ea8).trans (same_n u9)
        have s89 := s9.trans (SameX.of u9)
        have p9' := p9.same u9
        dsimp only [gName]
        generalize upd H9 tp (.tup (ps.map V.int)) = H10 at etp sn9 s89 p9'
        -- the outcome
        refine ⟨_, rfl, .inl ⟨rfl, _, .inl (.inl (s89 _ _ aOc eO8))⟩, _, rfl, a, c, _, 3, rfl, p9', by decide, by decide, by omega, fun H11 r s11 p11 r0 r1 => ?_⟩
        obtain ⟨r, rfl⟩ := mk r r0
        obtain ⟨xs10, ea10'⟩ := p9'.at_
        have sn11 := s11.n ea10'
        refine ⟨_, _, rfl, rfl, _, rfl, _, rfl, a, c, _, N, intV nl, rfl, p11, by omega, (s89.trans s11) _ _ aN eN8, aN, ?_, ?_, fun H12 x s12 p12 hx => ?_⟩
        · intro e
          exact nn (List.map_eq_nil_iff.mp e)
        · unfold intV
          rw [List.length_map]
          omega
        obtain ⟨tg, htg, rfl⟩ := List.mem_map.mp hx
        obtain ⟨xs11, ea11⟩ := p11.at_
        have sn12' := s12.n ea11
        refine ⟨by show 3 ≤ sizeLine; decide, fun q hq => ?_⟩
        have tq := same_upd (o := .lst [.int 1, .int 1, .int 2]) hq
        obtain ⟨aq, cq⟩ := fresh p12 hq
        refine ⟨_, rfl, a, c, _, 3, rfl, p12.same tq, by decide, by decide, by omega, fun H13' r2 s13' p13' r20 r21 => ?_⟩
        obtain ⟨r2, rfl⟩ := mk r2 r20
        obtain ⟨ti, hti, ti1, ti2⟩ : ∃ ti : Nat, ([V.int 1, .int 1, .int 2] : List V)[r2]? = some (.int (ti : Int)) ∧ 1 ≤ ti ∧ ti ≤ 2 := by
          have : r2 = 0 ∨ r2 = 1 ∨ r2 = 2 := by omega
          rcases this with rfl | rfl | rfl
          · exact ⟨1, rfl, by omega, by omega⟩
          · exact ⟨1, rfl, by omega, by omega⟩
          · exact ⟨2, rfl, by omega, by omega⟩
        obtain ⟨xs12, ea12⟩ := (p12.same tq).at_
        have sn13 := (same_n tq).trans (s13'.n ea12)
        refine ⟨q, _, _, _, rfl, rfl, .inl (.inl (s13' _ _ aq upd_same)), atI_nat hti, _, rfl, by show 4 ≤ sizeLine; decide, fun t ht => ?_⟩
        have tt := same_upd (o := .tup [.int ((1 : Int) + (r : Int)), .int (tg : Int), .int (ti : Int), .ref tp]) ht
        have ett : upd H13' t (.tup [.int ((1 : Int) + (r : Int)), .int (tg : Int), .int (ti : Int), .ref tp]) t = some (.tup [.int ((1 + r : Nat) : Int), .int (tg : Int), .int (ti : Int), .ref tp]) := by rw [upd_same, Int.natCast_add]; rfl
        have snA := sn11.trans (sn12'.trans (sn13.trans (same_n tt)))
        have sx : SameX a H10 (upd H13' t (.tup [.int ((1 : Int) + (r : Int)), .int (tg : Int), .int (ti : Int), .ref tp])) := s11.trans (s12.trans ((SameX.of tq).trans (s13'.trans (SameX.of tt))))
        have pz := p13'.same tt
        have etp' := snA _ _ etp trivial
        generalize upd H13' t (.tup [.int ((1 : Int) + (r : Int)), .int (tg : Int), .int (ti : Int), .ref tp]) = HZ at ett snA sx pz etp'
        have s8Z := s89.trans sx
        have n8Z := sn9.trans snA
        have eOZ := s8Z _ _ aOc eO8
        have snO : SameN HZ (upd HZ Oc (.lst (ous ++ [.ref t]))) := sameN_upd eOZ (fun z => z)
        refine ⟨Oc, ous, _, rfl, rfl, eOZ, Nat.lt_of_le_of_lt (by rw [aO8.1, oll]; omega : ous.length ≤ 10) (by decide), ?_⟩
        refine ⟨⟨_, _, _, rfl⟩, samex_at (s8.trans s8Z) hOcH, (pz.other aOc cOc).le (by omega), by rw [upd_ne NOc]; exact s8Z _ _ aN eN8, by rw [upd_ne AOc]; exact s8Z _ _ aAc eA8, aA8.imp fun x y z => (z.n n8Z).n snO, ous ++ [.ref t], ol ++ [⟨1 + r, tg, ti, ps⟩], upd_same, (aO8.imp fun x y z => (z.n n8Z).n snO).snoc (show OutV _ (V.ref t) ⟨1 + r, tg, ti, ps⟩ from ⟨t, tp, rfl, snO _ _ ett trivial, snO _ _ etp' trivial⟩), fun o ho => ?_, by rw [List.length_append, oll]; rfl⟩
        rcases List.mem_append.mp ho with h | h
        · exact oko o h
        · rw [List.mem_singleton.mp h]
          exact ⟨⟨by show 1 ≤ 1 + r; omega, by show 1 + r ≤ 900; omega, nlt tg htg, ti1, by show ti ≤ 1000; omega, pl, pb⟩, by show 1 + r ≤ 3; omega⟩
      · rintro σ H8 ⟨⟨x9, x11, x12, rfl⟩, s8, p8, eN8, eA8, aA8, ous, ol, eO8, aO8, oko, oll⟩
        refine ⟨_, rfl, .inl ⟨rfl, _, .inl (.inl eA8)⟩, _, rfl, _, rfl, Oc, ous, rfl, .inl ⟨.inl (.inl eO8), fun tq htq => ?_⟩⟩
        refine ⟨by show 2 ≤ sizeLine; decide, fun t ht => ?_⟩
        have u9 := (same_upd (o := .tup ous) htq).trans (same_upd (o := .tup [.int (i : Int), .ref tq]) ht)
        have etq : upd (upd H8 tq (.tup ous)) t (.tup [.int (i : Int), .ref tq]) tq = some (.tup ous) := same_upd ht _ _ upd_same
        have ett : upd (upd H8 tq (.tup ous)) t (.tup [.int (i : Int), .ref tq]) t = some (.tup [.int (i : Int), .ref tq]) := upd_same
        generalize upd (upd H8 tq (.tup ous)) t (.tup [.int (i : Int), .ref tq]) = H9 at u9 etq ett
        have eA9 := u9 _ _ eA8
        have snA : SameN H9 (upd H9 Ac (.lst (us ++ [.ref t]))) := sameN_upd eA9 (fun z => z)
        refine ⟨Ac, us, _, rfl, rfl, eA9, Nat.lt_of_le_of_lt (by rw [aA8.1]; omega : us.length ≤ 100) (by decide), ?_⟩
        refine ⟨⟨_, _, _, _, rfl⟩, samex_at (s8.trans (SameX.of u9)) hAcH, ((p8.same u9).other aAc cAc).le (by omega), by rw [upd_ne AN]; exact u9 _ _ eN8, us ++ [.ref t], l ++ [(i, ol)], upd_same, (aA8.imp fun x y z => (z.n (same_n u9)).n snA).snoc (show ActV _ (V.ref t) (i, ol) from ⟨t, tq, ous, rfl, snA _ _ ett trivial, snA _ _ etq trivial, aO8.imp fun x y z => (z.n (same_n u9)).n snA⟩), fun d hd => ?_, fun s hs => ?_, by rw [List.length_append]; show l.length + 1 ≤ _; omega, fun _ _ => ⟨(i, ol), by simp, rfl⟩, fun _ => ⟨(i, ol), by simp, rfl⟩⟩
        · rcases List.mem_append.mp hd with z | z
          · exact okl d z
          · rw [List.mem_singleton.mp z]
            exact ⟨⟨hi, fun e => by (have e2 : ol = [] := e; rw [e2] at oll; simp at oll; omega), by show ol.length ≤ 5; omega, fun o ho => (oko o ho).1⟩, by show ol.length ≤ 4; omega, fun o ho => (oko o ho).2⟩
        · obtain ⟨d, h1, h2⟩ := alls s hs
          exact ⟨d, List.mem_append_left _ h1, h2⟩
    · rintro σ H2 ⟨⟨x9, x10, x11, x12, rfl⟩, s13, p13, eN13, us, l, eA, aA, okl, alls, ll, own4, one⟩
      refine ⟨⟨_, _, _, _, _, _, _, rfl⟩, s13, p13.le (by omega), us, l, eA, aA, okl, fun s hs => ?_, by omega⟩
      by_cases hsi : s = i
      · subst hsi
        cases b4
        · exact one (c1 rfl)
        · exact own4 (hb4 rfl).1 (hb4 rfl).2
      · exact alls s (by omega)
  · rintro σ H2 ⟨⟨x6, x7, x8, x9, x10, x11, x12, rfl⟩, s2, p2, us, l, eA, aA, okl, alls, ll⟩
    refine ⟨_, rfl, _, rfl, by show 2 ≤ sizeLine; decide, fun t ht => ?_⟩
    have t3 := same_upd (o := .tup [.int (n : Int), .ref Ac]) ht
    exact k _ t n l Ac us (s2.trans (SameX.of t3)) ((p2.same t3).le (by omega)) upd_same hAcH (t3 _ _ eA) (aA.imp fun x y z => z.n (same_n t3)) ⟨by omega, by omega, by omega, fun d hd => (okl d hd).1, alls⟩ (by omega) (by omega) okl
end
end Lc
set_option Elab.async false
set_option linter.all false
set_option maxRecDepth 100000
set_option maxHeartbeats 4000000
namespace Lc
open PySem PySem.Spec PyProof.Rows L2 LcR
open LC (Sz Had mean psum wsum)
/-! ### what greatest chances are: the least that fall in the mean -/
structure Top (n : Nat) (l : List ActD) (g : List Nat) (q : List Rat) : Prop where
  len : q.length = n
  nn : ∀ s, s < n → 0 ≤ numN q s
  goal : ∀ s ∈ g, numN q s = 1
  up : ∀ d ∈ l, mean (numN q) (prs d) ≤ numN q d.1
  least : ∀ u : Nat → Rat, (∀ s, s < n → 0 ≤ u s) → (∀ s ∈ g, 1 ≤ u s) → (∀ d ∈ l, mean u (prs d) ≤ u d.1) → ∀ s, s < n → numN q s ≤ u s
  sz : ∀ x ∈ q, Sz 1800 1780 x
theorem mean_add (u v : Nat → Rat) (o : LC.Outs) : mean (fun s => u s + v s) o = mean u o + mean v o := by
  unfold mean
  rw [LC.psum_add, Rat.div_def, Rat.div_def, Rat.div_def, Rat.add_mul]
section
variable {n n' : Nat} {l l' : List ActD} {g g' : List Nat} {q q' : List Rat} {p : List (Option Nat)} {r : List Nat}
theorem GreatS.top (ok : OkActs n l) (G : GreatS n l g q p r) : Top n l g q := by
  obtain ⟨ql, ⟨p0, far, far', pok, H, ep, er, fo⟩, sz, up, _⟩ := G
  have hok := hs_ok ok
  refine ⟨ql, H.nonneg hok pok.ok, fun s hs => H.goal hs, fun d hd => ?_, fun u u0 ug um => ?_, sz⟩
  · obtain ⟨i, hi, e⟩ := List.getElem_of_mem hd
    exact up i d (by rw [List.getElem?_eq_getElem hi, e])
  · refine LC.had_le hok pok.ok H u0 ug fun s a e => ?_
    obtain ⟨d, hd, ds⟩ := pok.at_ s a e
    rw [out_of hd, ← ds]
    exact um d (List.mem_of_getElem? hd)
/-- every act of l has one of l' that is alike in the mean -/
def Alike (l l' : List ActD) : Prop := ∀ d ∈ l, ∃ d' ∈ l', d'.1 = d.1 ∧ ∀ u, mean u (prs d') = mean u (prs d)
theorem top_alike (h : Alike l' l) (a : Top n l g q) (b : Top n l' g q') : ∀ s, s < n → numN q' s ≤ numN q s :=
  b.least (numN q) a.nn (fun s hs => by rw [a.goal s hs]; exact Rat.le_refl) fun d hd => by
    obtain ⟨d', hd', e, em⟩ := h d hd
    rw [← em, ← e]
    exact a.up d' hd'
def SameTop (n : Nat) (l : List ActD) (g : List Nat) (n' : Nat) (l' : List ActD) (g' nm : List Nat) : Prop := ∀ q q', Top n l g q → Top n' l' g' q' → ∀ s t, nm[s]? = some t → s < n → numN q' t = numN q s
theorem range_at {n s t : Nat} (h : (List.range n)[s]? = some t) : t = s := by
  have hl := (List.getElem?_eq_some_iff.mp h).1
  rw [List.getElem?_eq_getElem hl] at h
  have := Option.some.inj h
  rw [List.getElem_range] at this
  exact this.symm
theorem same_alike (h : Alike l' l) (h' : Alike l l') : SameTop n l g n l' g (List.range n) := fun q q' a b s t e hs => by
  rw [range_at e]
  have h1 := top_alike h a b s hs
  have h2 := top_alike h' b a s hs
  grind
/-! #### odds times a number -/
def scale (k : Nat) (d : ActD) : ActD := (d.1, d.2.map fun o => { o with odds := o.odds * k })
theorem psum_scale (u : Nat → Rat) (k : Nat) : ∀ os : List OutD, psum u (prs (0, os.map fun o => { o with odds := o.odds * k })) = psum u (prs (0, os)) * (k : Rat)
  | [] => by simp [prs, psum]
  | o :: r => by
    have ih := psum_scale u k r
    unfold prs at ih ⊢
    simp only [List.map_cons, psum] at ih ⊢
    rw [ih, Rat.natCast_mul]
    grind
theorem wsum_scale (k : Nat) : ∀ os : List OutD, wsum (prs (0, os.map fun o => { o with odds := o.odds * k })) = wsum (prs (0, os)) * k
  | [] => by simp [prs, wsum]
  | o :: r => by
    have ih := wsum_scale k r
    unfold prs at ih ⊢
    simp only [List.map_cons, wsum] at ih ⊢
    rw [ih, Nat.add_mul]
theorem prs_snd (s t : Nat) (os : List OutD) : prs (s, os) = prs (t, os) := rfl
theorem mean_scale {k : Nat} (hk : 0 < k) (d : ActD) (u : Nat → Rat) : mean u (prs (scale k d)) = mean u (prs d) := by
  obtain ⟨s, os⟩ := d
  unfold mean scale
  rw [prs_snd s 0 _, prs_snd s 0 os, psum_scale, wsum_scale, Rat.natCast_mul]
  have hq : (k : Rat) ≠ 0 := by have := LC.natCast_pos hk; grind
  by_cases hw : ((wsum (prs (0, os)) : Nat) : Rat) = 0
  · rw [hw, Rat.zero_mul]
    rw [Rat.div_def, Rat.div_def]
    have : (0 : Rat)⁻¹ = 0 := by grind
    rw [this]
    grind
  · grind
theorem alike_map {f : ActD → ActD} (h1 : ∀ d, (f d).1 = d.1) (h2 : ∀ d ∈ l, ∀ u, mean u (prs (f d)) = mean u (prs d)) : Alike l (l.map f) ∧ Alike (l.map f) l := by
  refine ⟨fun d hd => ⟨f d, List.mem_map.mpr ⟨d, hd, rfl⟩, h1 d, h2 d hd⟩, fun d' hd' => ?_⟩
  obtain ⟨d, hd, rfl⟩ := List.mem_map.mp hd'
  exact ⟨d, hd, (h1 d).symm, fun u => (h2 d hd u).symm⟩
theorem same_scale {k : Nat} (hk : 0 < k) : SameTop n l g n (l.map (scale k)) g (List.range n) :=
  have h := alike_map (l := l) (f := scale k) (fun _ => rfl) fun d _ u => mean_scale hk d u
  same_alike h.2 h.1
/-! #### acts twice -/
theorem same_more (k : Nat) : SameTop n l g n (l ++ l.take k) g (List.range n) :=
  same_alike (fun d hd => ⟨d, by rcases List.mem_append.mp hd with z | z; exact z; exact List.mem_of_mem_take z, rfl, fun _ => rfl⟩) fun d hd => ⟨d, List.mem_append_left _ hd, rfl, fun _ => rfl⟩
/-! #### outcomes parted -/
def dbl (o : OutD) : OutD := { o with odds := o.odds * 2 }
def part (d : ActD) : ActD := (d.1, (d.2.drop 1).map dbl ++ (d.2.take 1 ++ d.2.take 1))
theorem psum_app (u : Nat → Rat) (a b : List OutD) : psum u (prs (0, a ++ b)) = psum u (prs (0, a)) + psum u (prs (0, b)) := by
  unfold prs
  rw [List.map_append, LC.psum_append]
theorem wsum_app (a b : List OutD) : wsum (prs (0, a ++ b)) = wsum (prs (0, a)) + wsum (prs (0, b)) := by
  unfold prs
  rw [List.map_append, LC.wsum_append]
theorem mean_part (d : ActD) (u : Nat → Rat) : mean u (prs (part d)) = mean u (prs d) := by
  obtain ⟨s, os⟩ := d
  have e1 : psum u (prs (part (s, os))) = psum u (prs (s, os)) * ((2 : Nat) : Rat) := by
    show psum u (prs (s, (os.drop 1).map dbl ++ (os.take 1 ++ os.take 1))) = _
    rw [prs_snd s 0 _, prs_snd s 0 os, psum_app, psum_app]
    have h := psum_scale u 2 (os.drop 1)
    have h2 : psum u (prs (0, os)) = psum u (prs (0, os.take 1)) + psum u (prs (0, os.drop 1)) := by rw [← psum_app, List.take_append_drop]
    have h3 : (List.drop 1 os).map dbl = (os.drop 1).map fun o => { o with odds := o.odds * 2 } := rfl
    rw [h3, h, h2]
    grind
  have e2 : wsum (prs (part (s, os))) = wsum (prs (s, os)) * 2 := by
    show wsum (prs (s, (os.drop 1).map dbl ++ (os.take 1 ++ os.take 1))) = _
    rw [prs_snd s 0 _, prs_snd s 0 os, wsum_app, wsum_app]
    have h := wsum_scale 2 (os.drop 1)
    have h2 : wsum (prs (0, os)) = wsum (prs (0, os.take 1)) + wsum (prs (0, os.drop 1)) := by rw [← wsum_app, List.take_append_drop]
    have h3 : (List.drop 1 os).map dbl = (os.drop 1).map fun o => { o with odds := o.odds * 2 } := rfl
    rw [h3, h, h2]
    omega
  unfold mean
  rw [e1, e2, Rat.natCast_mul]
  by_cases hw : ((wsum (prs (s, os)) : Nat) : Rat) = 0
  · rw [hw, Rat.zero_mul]
    rw [Rat.div_def, Rat.div_def]
    have : (0 : Rat)⁻¹ = 0 := by grind
    rw [this]
    grind
  · grind
theorem same_part : SameTop n l g n (l.map part) g (List.range n) :=
  have h := alike_map (l := l) (f := part) (fun _ => rfl) fun d _ u => mean_part d u
  same_alike h.2 h.1
/-! #### states under other numbers -/
def ren (f : Nat → Nat) (d : ActD) : ActD := (f d.1, d.2.map fun o => { o with target := f o.target })
theorem prs_ren (f : Nat → Nat) (d : ActD) : prs (ren f d) = (prs d).map fun p => (f p.1, p.2) := by
  unfold prs ren
  rw [List.map_map, List.map_map]
  rfl
theorem psum_ren (f : Nat → Nat) (u : Nat → Rat) : ∀ o : LC.Outs, psum u (o.map fun p => (f p.1, p.2)) = psum (fun s => u (f s)) o
  | [] => rfl
  | p :: r => by simp only [List.map_cons, psum]; rw [psum_ren f u r]
theorem wsum_ren (f : Nat → Nat) : ∀ o : LC.Outs, wsum (o.map fun p => (f p.1, p.2)) = wsum o
  | [] => rfl
  | p :: r => by simp only [List.map_cons, wsum]; rw [wsum_ren f r]
theorem mean_ren (f : Nat → Nat) (u : Nat → Rat) (d : ActD) : mean u (prs (ren f d)) = mean (fun s => u (f s)) (prs d) := by
  rw [prs_ren]
  unfold mean
  rw [psum_ren, wsum_ren]
theorem same_ren {f b : Nat → Nat} {nm : List Nat} (ok : OkActs n l) (gn : ∀ s ∈ g, s < n) (hf : ∀ s, s < n → f s < n) (hb : ∀ s, s < n → b (f s) = s) (hbn : ∀ t, t < n → b t < n) (hfb : ∀ t, t < n → f (b t) = t) (hnm : ∀ s t, nm[s]? = some t → s < n → t = f s)
    (hl : ∀ d', d' ∈ l' ↔ ∃ d ∈ l, d' = ren f d) (hg : ∀ t, t ∈ g' ↔ ∃ s ∈ g, t = f s) : SameTop n l g n l' g' nm := fun q q' A B s t e hs => by
  rw [hnm s t e hs]
  have h1 : ∀ s, s < n → numN q s ≤ numN q' (f s) := A.least (fun s => numN q' (f s)) (fun s hs => B.nn _ (hf s hs)) (fun s hs => by
    rw [B.goal (f s) ((hg _).mpr ⟨s, hs, rfl⟩)]
    exact Rat.le_refl) fun d hd => by
      have := B.up (ren f d) ((hl _).mpr ⟨d, hd, rfl⟩)
      rw [mean_ren] at this
      exact this
  have h2 : ∀ t, t < n → numN q' t ≤ numN q (b t) := B.least (fun t => numN q (b t)) (fun t ht => A.nn _ (hbn t ht)) (fun t ht => by
    obtain ⟨s, hs, rfl⟩ := (hg t).mp ht
    show 1 ≤ numN q (b (f s))
    rw [hb s (gn s hs), A.goal s hs]
    exact Rat.le_refl) fun d' hd' => by
      obtain ⟨d, hd, rfl⟩ := (hl d').mp hd'
      have okd := ok.acts d hd
      rw [mean_ren]
      have e : mean (fun s => numN q (b (f s))) (prs d) = mean (numN q) (prs d) := LC.mean_congr fun p hp => by
        obtain ⟨o, ho, e⟩ := List.mem_map.mp hp
        have := (okd.outs o ho).t
        rw [← e]
        show numN q (b (f o.target)) = numN q o.target
        rw [hb _ this]
      rw [e]
      show mean (numN q) (prs d) ≤ numN q (b (f d.1))
      rw [hb _ okd.s]
      exact A.up d hd
  have a1 := h1 s hs
  have a2 := h2 (f s) (hf s hs)
  rw [hb s hs] at a2
  grind
/-! #### each state twice -/
def shift (n : Nat) (d : ActD) : ActD := (d.1, d.2.map fun o => { o with target := o.target + n })
def other (n : Nat) (d : ActD) : ActD := (d.1 + n, d.2)
theorem mean_shift (m : Nat) (u : Nat → Rat) (d : ActD) : mean u (prs (shift m d)) = mean (fun s => u (s + m)) (prs d) := by
  have h := mean_ren (· + m) u d
  exact h
theorem mean_half {m : Nat} (u v : Nat → Rat) (o : LC.Outs) (ok : LC.OutsOk m o) (c : Rat) (h : mean u o + mean v o ≤ c + c) : mean (fun s => (u s + v s) / 2) o ≤ c := by
  have e : mean (fun s => (u s + v s) / 2) o + mean (fun s => (u s + v s) / 2) o = mean u o + mean v o := by
    rw [← mean_add, ← mean_add]
    exact LC.mean_congr fun p _ => by show (u p.1 + v p.1) / 2 + (u p.1 + v p.1) / 2 = u p.1 + v p.1; grind
  grind
theorem same_twice (ok : OkActs n l) (gn : ∀ s ∈ g, s < n) : SameTop n l g (2 * n) (l.map (shift n) ++ l.map (other n)) (g ++ g.map (· + n)) (List.range n) := fun q q' A B s t e hs => by
  rw [range_at e]
  have h1 : ∀ t, t < 2 * n → numN q' t ≤ numN q (t % n) := B.least (fun t => numN q (t % n)) (fun t ht => A.nn _ (Nat.mod_lt _ (by omega))) (fun t ht => by
    have key : ∀ s ∈ g, s % n = s := fun s hs => Nat.mod_eq_of_lt (gn s hs)
    show 1 ≤ numN q (t % n)
    rcases List.mem_append.mp ht with z | z
    · rw [key t z, A.goal t z]; exact Rat.le_refl
    · obtain ⟨s, hs, rfl⟩ := List.mem_map.mp z
      rw [Nat.add_mod_right, key s hs, A.goal s hs]; exact Rat.le_refl) fun d' hd' => by
    have ev : ∀ d ∈ l, ∀ f : Nat → Nat, (∀ s, s < n → f s % n = s) → mean (fun s => numN q (f s % n)) (prs d) = mean (numN q) (prs d) := fun d hd f hf => LC.mean_congr fun p hp => by
      obtain ⟨o, ho, e⟩ := List.mem_map.mp hp
      have := ((ok.acts d hd).outs o ho).t
      rw [← e]
      show numN q (f o.target % n) = numN q o.target
      rw [hf _ this]
    rcases List.mem_append.mp hd' with z | z
    · obtain ⟨d, hd, rfl⟩ := List.mem_map.mp z
      rw [mean_shift, ev d hd (· + n) fun s hs => by show (s + n) % n = s; rw [Nat.add_mod_right, Nat.mod_eq_of_lt hs]]
      show _ ≤ numN q (d.1 % n)
      rw [Nat.mod_eq_of_lt (ok.acts d hd).s]
      exact A.up d hd
    · obtain ⟨d, hd, rfl⟩ := List.mem_map.mp z
      show mean (fun t => numN q (t % n)) (prs (d.1 + n, d.2)) ≤ numN q ((d.1 + n) % n)
      rw [prs_snd (d.1 + n) d.1 d.2]
      have := ev d hd (fun s => s) fun s hs => Nat.mod_eq_of_lt hs
      rw [Nat.add_mod_right, Nat.mod_eq_of_lt (ok.acts d hd).s]
      rw [show mean (fun t => numN q (t % n)) (prs (d.1, d.2)) = mean (numN q) (prs d) from this]
      exact A.up d hd
  have h2 : ∀ s, s < n → numN q s ≤ (numN q' s + numN q' (s + n)) / 2 := A.least (fun s => (numN q' s + numN q' (s + n)) / 2) (fun s hs => by
    have a := B.nn s (by omega)
    have b := B.nn (s + n) (by omega)
    show 0 ≤ (numN q' s + numN q' (s + n)) / 2
    grind) (fun s hs => by
    have a := B.goal s (List.mem_append_left _ hs)
    have b := B.goal (s + n) (List.mem_append_right _ (List.mem_map.mpr ⟨s, hs, rfl⟩))
    show 1 ≤ (numN q' s + numN q' (s + n)) / 2
    grind) fun d hd => by
    have a := B.up (shift n d) (List.mem_append_left _ (List.mem_map.mpr ⟨d, hd, rfl⟩))
    have b := B.up (other n d) (List.mem_append_right _ (List.mem_map.mpr ⟨d, hd, rfl⟩))
    rw [mean_shift] at a
    have a : mean (fun s => numN q' (s + n)) (prs d) ≤ numN q' d.1 := a
    have b : mean (numN q') (prs d) ≤ numN q' (d.1 + n) := b
    refine mean_half (m := n) (numN q') (fun s => numN q' (s + n)) (prs d) (outsOk (ok.acts d hd)) _ ?_
    grind
  have a1 := h2 s hs
  have a2 := h1 s (by omega)
  have a3 := h1 (s + n) (by omega)
  rw [Nat.mod_eq_of_lt hs] at a2
  rw [Nat.add_mod_right, Nat.mod_eq_of_lt hs] at a3
  grind
/-! #### the changed houses are houses -/
def Small (l : List ActD) : Prop := ∀ d ∈ l, d.2.length ≤ 4 ∧ ∀ o ∈ d.2, o.odds ≤ 3
theorem ok_map {f : ActD → ActD} (ok : OkActs n l) (h : ∀ d ∈ l, OkAct n (f d) ∧ (f d).1 = d.1) : OkActs n (l.map f) := by
  refine ⟨ok.n1, ok.n2, by rw [List.length_map]; exact ok.len, fun d' hd' => ?_, fun s hs => ?_⟩
  · obtain ⟨d, hd, rfl⟩ := List.mem_map.mp hd'
    exact (h d hd).1
  · obtain ⟨d, hd, e⟩ := ok.all s hs
    exact ⟨f d, List.mem_map.mpr ⟨d, hd, rfl⟩, (h d hd).2.trans e⟩
theorem ok_scale {k : Nat} (ok : OkActs n l) (sm : Small l) (k1 : 1 ≤ k) (k3 : k ≤ 300) : OkActs n (l.map (scale k)) := ok_map ok fun d hd => by
  have okd := ok.acts d hd
  obtain ⟨_, s2⟩ := sm d hd
  refine ⟨⟨okd.s, fun e => okd.ne (List.map_eq_nil_iff.mp e), by show (d.2.map _).length ≤ 5; rw [List.length_map]; exact okd.len, fun o' ho' => ?_⟩, rfl⟩
  obtain ⟨o, ho, rfl⟩ := List.mem_map.mp ho'
  obtain ⟨a1, a2, a3, a4, a5, a6, a7⟩ := okd.outs o ho
  have := s2 o ho
  refine ⟨?_, ?_, a3, a4, a5, a6, a7⟩
  · show 1 ≤ o.odds * k
    exact Nat.mul_le_mul a1 k1
  · show o.odds * k ≤ 900
    exact Nat.mul_le_mul this k3
theorem ok_more (ok : OkActs n l) (l12 : l.length ≤ 12) (k : Nat) : OkActs n (l ++ l.take k) := by
  refine ⟨ok.n1, ok.n2, by rw [List.length_append, List.length_take]; omega, fun d hd => ?_, fun s hs => ?_⟩
  · rcases List.mem_append.mp hd with z | z
    · exact ok.acts d z
    · exact ok.acts d (List.mem_of_mem_take z)
  · obtain ⟨d, hd, e⟩ := ok.all s hs
    exact ⟨d, List.mem_append_left _ hd, e⟩
theorem ok_part (ok : OkActs n l) (sm : Small l) : OkActs n (l.map part) := ok_map ok fun d hd => by
  have okd := ok.acts d hd
  obtain ⟨s1, s2⟩ := sm d hd
  have l1 : 1 ≤ d.2.length := List.length_pos_iff.mpr okd.ne
  have tl : (d.2.take 1).length = 1 := by rw [List.length_take]; omega
  refine ⟨⟨okd.s, fun e => ?_, ?_, fun o' ho' => ?_⟩, rfl⟩
  · have := congrArg List.length (show (d.2.drop 1).map dbl ++ (d.2.take 1 ++ d.2.take 1) = [] from e)
    rw [List.length_append, List.length_append, tl, List.length_nil] at this
    omega
  · show ((d.2.drop 1).map dbl ++ (d.2.take 1 ++ d.2.take 1)).length ≤ 5
    rw [List.length_append, List.length_append, List.length_map, List.length_drop, tl]
    omega
  · rcases List.mem_append.mp (show o' ∈ (d.2.drop 1).map dbl ++ (d.2.take 1 ++ d.2.take 1) from ho') with z | z
    · obtain ⟨o, ho, rfl⟩ := List.mem_map.mp z
      have hm := List.mem_of_mem_drop ho
      obtain ⟨a1, a2, a3, a4, a5, a6, a7⟩ := okd.outs o hm
      have := s2 o hm
      exact ⟨by show 1 ≤ o.odds * 2; omega, by show o.odds * 2 ≤ 900; omega, a3, a4, a5, a6, a7⟩
    · have hm : o' ∈ d.2 := by rcases List.mem_append.mp z with z | z <;> exact List.mem_of_mem_take z
      exact okd.outs o' hm
theorem ok_ren {f b : Nat → Nat} (ok : OkActs n l) (hf : ∀ s, s < n → f s < n) (hbn : ∀ t, t < n → b t < n) (hfb : ∀ t, t < n → f (b t) = t) : OkActs n (l.map (ren f)).reverse := by
  refine ⟨ok.n1, ok.n2, by rw [List.length_reverse, List.length_map]; exact ok.len, fun d' hd' => ?_, fun s hs => ?_⟩
  · obtain ⟨d, hd, rfl⟩ := List.mem_map.mp (List.mem_reverse.mp hd')
    have okd := ok.acts d hd
    refine ⟨hf _ okd.s, fun e => okd.ne (List.map_eq_nil_iff.mp e), by show (d.2.map _).length ≤ 5; rw [List.length_map]; exact okd.len, fun o' ho' => ?_⟩
    obtain ⟨o, ho, rfl⟩ := List.mem_map.mp ho'
    obtain ⟨a1, a2, a3, a4, a5, a6, a7⟩ := okd.outs o ho
    exact ⟨a1, a2, hf _ a3, a4, a5, a6, a7⟩
  · obtain ⟨d, hd, e⟩ := ok.all (b s) (hbn s hs)
    exact ⟨ren f d, List.mem_reverse.mpr (List.mem_map.mpr ⟨d, hd, rfl⟩), by show f d.1 = s; rw [e]; exact hfb s hs⟩
theorem ok_twice (ok : OkActs n l) (n4 : n ≤ 4) (l12 : l.length ≤ 12) : OkActs (2 * n) (l.map (shift n) ++ l.map (other n)) := by
  have n1 := ok.n1
  refine ⟨by omega, by omega, by rw [List.length_append, List.length_map, List.length_map]; omega, fun d' hd' => ?_, fun s hs => ?_⟩
  · rcases List.mem_append.mp hd' with z | z
    · obtain ⟨d, hd, rfl⟩ := List.mem_map.mp z
      have okd := ok.acts d hd
      have := okd.s
      refine ⟨by show d.1 < 2 * n; omega, fun e => okd.ne (List.map_eq_nil_iff.mp e), by show (d.2.map _).length ≤ 5; rw [List.length_map]; exact okd.len, fun o' ho' => ?_⟩
      obtain ⟨o, ho, rfl⟩ := List.mem_map.mp ho'
      obtain ⟨a1, a2, a3, a4, a5, a6, a7⟩ := okd.outs o ho
      exact ⟨a1, a2, by show o.target + n < 2 * n; omega, a4, a5, a6, a7⟩
    · obtain ⟨d, hd, rfl⟩ := List.mem_map.mp z
      have okd := ok.acts d hd
      have := okd.s
      refine ⟨by show d.1 + n < 2 * n; omega, okd.ne, okd.len, fun o ho => ?_⟩
      obtain ⟨a1, a2, a3, a4, a5, a6, a7⟩ := okd.outs o ho
      exact ⟨a1, a2, by omega, a4, a5, a6, a7⟩
  · by_cases c : s < n
    · obtain ⟨d, hd, e⟩ := ok.all s c
      exact ⟨shift n d, List.mem_append_left _ (List.mem_map.mpr ⟨d, hd, rfl⟩), e⟩
    · obtain ⟨d, hd, e⟩ := ok.all (s - n) (by omega)
      exact ⟨other n d, List.mem_append_right _ (List.mem_map.mpr ⟨d, hd, rfl⟩), by show d.1 + n = s; omega⟩
theorem ok_snoc {d : ActD} (ok : OkActs n l) (l12 : l.length ≤ 12) (hd : OkAct n d) : OkActs n (l ++ [d]) := by
  refine ⟨ok.n1, ok.n2, by rw [List.length_append]; show l.length + 1 ≤ 30; omega, fun e he => ?_, fun s hs => ?_⟩
  · rcases List.mem_append.mp he with z | z
    · exact ok.acts e z
    · rw [List.mem_singleton.mp z]; exact hd
  · obtain ⟨e, he, z⟩ := ok.all s hs
    exact ⟨e, List.mem_append_left _ he, z⟩
/-- names: every number below n once -/
theorem names_of {nm : List Nat} (h : nm.Perm (List.range n)) : ∃ f b : Nat → Nat, (∀ s, s < n → f s < n) ∧ (∀ s, s < n → b (f s) = s) ∧ (∀ t, t < n → b t < n) ∧ (∀ t, t < n → f (b t) = t) ∧ (∀ s t, nm[s]? = some t → s < n → t = f s) ∧ ∀ s, s < n → nm[s]? = some (f s) := by
  have len : nm.length = n := by rw [h.length_eq, List.length_range]
  have nd : nm.Nodup := h.nodup_iff.mpr List.nodup_range
  have mem : ∀ t, t ∈ nm ↔ t < n := fun t => by rw [h.mem_iff, List.mem_range]
  have at_ : ∀ s, s < n → nm[s]? = some (nm.getD s 0) := fun s hs => by rw [List.getD_eq_getElem?_getD, List.getElem?_eq_getElem (by omega)]; rfl
  refine ⟨fun s => nm.getD s 0, fun t => nm.idxOf t, fun s hs => (mem _).mp (List.mem_of_getElem? (at_ s hs)), fun s hs => ?_, fun t ht => ?_, fun t ht => ?_, fun s t e hs => ?_, at_⟩
  · show nm.idxOf (nm.getD s 0) = s
    have e : nm.getD s 0 = nm[s]'(by omega) := by rw [List.getD_eq_getElem?_getD, List.getElem?_eq_getElem (by omega)]; rfl
    rw [e]
    exact nd.idxOf_getElem s (by omega)
  · show nm.idxOf t < n
    rw [← len]
    exact List.idxOf_lt_length_of_mem ((mem t).mpr ht)
  · show nm.getD (nm.idxOf t) 0 = t
    have hl := List.idxOf_lt_length_of_mem ((mem t).mpr ht)
    rw [List.getD_eq_getElem?_getD, List.getElem?_eq_getElem hl]
    exact List.getElem_idxOf hl
  · rw [at_ s hs] at e
    exact (Option.some.inj e).symm
theorem sorted_nat {ns' : List Int} {gs : List Nat} (h : ns'.Perm (gs.map fun s : Nat => (s : Int))) (hp : ns'.Pairwise (· ≤ ·)) (nd : gs.Nodup) : ∃ g' : List Nat, ns' = g'.map (fun s : Nat => (s : Int)) ∧ g'.Pairwise (· < ·) ∧ ∀ t, t ∈ g' ↔ t ∈ gs := by
  have nn : ∀ x ∈ ns', 0 ≤ x := fun x hx => by
    obtain ⟨s, _, rfl⟩ := List.mem_map.mp (h.mem_iff.mp hx)
    exact Int.natCast_nonneg s
  have e1 : ns' = (ns'.map Int.toNat).map (fun s : Nat => (s : Int)) := by
    rw [List.map_map]
    refine (List.map_id' ns').symm.trans (List.map_congr_left fun x hx => ?_)
    have := nn x hx
    show x = ((x.toNat : Nat) : Int)
    omega
  have pm : (ns'.map Int.toNat).Perm gs := by
    have := h.map Int.toNat
    rw [List.map_map] at this
    have e : gs.map (Int.toNat ∘ fun s : Nat => (s : Int)) = gs := (List.map_congr_left fun x _ => Int.toNat_natCast x).trans (List.map_id' gs)
    rw [e] at this
    exact this
  refine ⟨_, e1, ?_, fun t => pm.mem_iff⟩
  have nd2 : (ns'.map Int.toNat).Nodup := pm.nodup_iff.mpr nd
  have le : (ns'.map Int.toNat).Pairwise (· ≤ ·) := List.pairwise_map.mpr (hp.imp fun {x y} h => by omega)
  exact (List.pairwise_and_iff.mpr ⟨le, nd2⟩).imp fun h => Nat.lt_of_le_of_ne h.1 h.2
theorem erase_perm : ∀ (l : List Nat) (k : Nat) (h : k < l.length), (l[k] :: l.eraseIdx k).Perm l
  | _ :: _, 0, _ => List.Perm.refl _
  | a :: r, k + 1, h => (List.Perm.swap a (r[k]'(by simpa using h)) (r.eraseIdx k)).trans ((erase_perm r k (by simpa using h)).cons a)
theorem erase_map {α β : Type} (f : α → β) : ∀ (l : List α) (k : Nat), (l.map f).eraseIdx k = (l.eraseIdx k).map f
  | [], _ => by simp
  | _ :: _, 0 => by simp
  | a :: r, k + 1 => by simp [erase_map f r k]
/-! #### more goal, more acts -/
theorem top_more (hl : ∀ d ∈ l, d ∈ l') (hg : ∀ s ∈ g, s ∈ g') (A : Top n l g q) (B : Top n l' g' q') : ∀ s, s < n → numN q s ≤ numN q' s :=
  A.least (numN q') B.nn (fun s hs => by rw [B.goal s (hg s hs)]; exact Rat.le_refl) fun d hd => B.up d (hl d hd)
theorem top_both {o b : List Nat} {qo qb : List Rat} (hg : ∀ s ∈ b, s ∈ g ∨ s ∈ o) (A : Top n l g q) (O : Top n l o qo) (B : Top n l b qb) (bn : ∀ s ∈ b, s < n) : ∀ s, s < n → numN qb s ≤ numN q s + numN qo s :=
  B.least (fun s => numN q s + numN qo s) (fun s hs => by have a := A.nn s hs; have b := O.nn s hs; show 0 ≤ numN q s + numN qo s; grind) (fun s hs => by
    have a := A.nn s (bn s hs)
    have b := O.nn s (bn s hs)
    show 1 ≤ numN q s + numN qo s
    rcases hg s hs with z | z
    · have := A.goal s z; grind
    · have := O.goal s z; grind) fun d hd => by
    have e : mean (fun s => numN q s + numN qo s) (prs d) = mean (numN q) (prs d) + mean (numN qo) (prs d) := mean_add _ _ _
    rw [e]
    have a := A.up d hd
    have b := O.up d hd
    show _ ≤ numN q d.1 + numN qo d.1
    grind
end
end Lc
set_option Elab.async false
set_option linter.all false
set_option maxRecDepth 100000
set_option maxHeartbeats 4000000
namespace Lc
open PySem PySem.Spec PyProof.Rows L2 LcR
open LC (Sz psum wsum mean)
def ActsL (H : Hp) (v : V) (l : List ActD) : Prop := ∃ a us, v = .ref a ∧ H a = some (.lst us) ∧ All2 (ActV H) us l
theorem ActsL.s {H H' : Hp} {v : V} {l : List ActD} (h : ActsL H v l) (s : Same H H') : ActsL H' v l := by
  obtain ⟨a, us, rfl, e, al⟩ := h
  exact ⟨a, us, rfl, s _ _ e, al.imp fun x y z => z.n (same_n s)⟩
/-! ### a comprehension in a comprehension -/
theorem relabel_lookup {env : Env} {x : Str} : ∀ {names : List (Str × NameKind)}, names.lookup x = some .cell ∨ names.lookup x = some .free →
    (names.map fun (n, k) => if (k == NameKind.free && env.scope.kind == .function && env.kindOf n == some .cell) then (n, NameKind.cell) else (n, k)).lookup x = some .cell ∨
    (names.map fun (n, k) => if (k == NameKind.free && env.scope.kind == .function && env.kindOf n == some .cell) then (n, NameKind.cell) else (n, k)).lookup x = some .free
  | [], h => by simp at h
  | (n, k) :: r, h => by
    by_cases e : x = n
    · subst e
      have es : (x == x) = true := by simp
      rw [List.lookup_cons, es] at h
      rcases h with h | h <;> cases h
      · left
        simp
      · by_cases c : (env.scope.kind == .function && env.kindOf x == some .cell) = true
        · left
          simp at c
          simp [c]
        · right
          simp at c
          simp
          rw [if_neg (fun z => c z.1 z.2)]
          simp
    · have ne : (x == n) = false := by simpa using e
      rw [List.lookup_cons, ne] at h
      have ih := relabel_lookup (env := env) h
      simp only [List.map_cons]
      split
      · rw [List.lookup_cons, ne]; exact ih
      · rw [List.lookup_cons, ne]; exact ih
theorem blkOk_in {env : Env} {N N' : List Str} {scope0 scope : Scope} {own : List (Str × Nat)} (hN : N' = N) (h : blkC N scope0 scope own = true) : BlkOk N' (relabel scope0 env) scope own := by
  subst hN
  have b := blkOk_by h
  exact ⟨b.kind, b.uniq, b.ix, fun y hy e => relabel_lookup (b.free y hy e), b.own⟩
/-- readings of list(x), tuple(x), int(x) -/
def rListOf (K : PySem.W.Frag) : List V → Hp → VK → Prop := fun xs H Q => ∃ p ys, xs = [V.ref p] ∧ (SqL K H p ys ∨ SqT K H p ys) ∧ ∀ l : Addr, H l = none → Q (V.ref l) (upd H l (HO.lst ys))
end Lc
set_option Elab.async false
set_option linter.all false
set_option maxRecDepth 100000
set_option maxHeartbeats 4000000
namespace Lc
open PySem PySem.Spec PyProof.Rows L2 LcR
theorem acts_push {Hs H' : Hp} {L : Addr} {vs : List V} {ls : List ActD} {v : V} {d : ActD} (s : Same Hs H') (hL : Hs L = none) (eL : H' L = some (.lst vs)) (al : All2 (ActV H') vs ls) (av : ActV H' v d) :
    Same Hs (upd H' L (.lst (vs ++ [v]))) ∧ ∃ ws, upd H' L (.lst (vs ++ [v])) L = some (.lst ws) ∧ All2 (ActV (upd H' L (.lst (vs ++ [v])))) ws (ls ++ [d]) := by
  have sn : SameN H' (upd H' L (.lst (vs ++ [v]))) := sameN_upd eL (fun z => z)
  exact ⟨same_at s hL, _, upd_same, (al.imp fun x y z => z.n sn).snoc (av.n sn)⟩
theorem outs_all {f : OutD → OutD} {H' : Hp} {ys : List V} {os : List OutD} (l1 : ys.length = os.length) (l2 : ∀ (i : Nat) y, ys[i]? = some y → ∃ o, os[i]? = some o ∧ OutV H' y (f o)) : All2 (OutV H') ys (os.map f) :=
  all2_of (by rw [List.length_map]; exact l1) fun i y hy => by
    obtain ⟨o, ho, h⟩ := l2 i y hy
    exact ⟨f o, by rw [List.getElem?_map, ho]; rfl, h⟩
theorem take_map_succ {l : List ActD} {i : Nat} {d : ActD} (f : ActD → ActD) (h : l[i]? = some d) : (l.take (i + 1)).map f = (l.take i).map f ++ [f d] := by
  rw [List.take_add_one, h, List.map_append]
  rfl
/-- what is told of the changed house -/
def ChgR (H' : Hp) (a : Addr) (n : Nat) (l : List ActD) (g : List Nat) (t : Addr) : Prop := ∃ (n' : Nat) (ac' : Addr) (us' : List V) (l' : List ActD) (G' : Addr) (g' : List Nat) (nA : Addr) (nm : List Nat), H' t = some (.tup [.int (n' : Int), .ref ac', .ref G', .ref nA]) ∧ H' ac' = some (.lst us') ∧ All2 (ActV H') us' l' ∧ ac' ≠ a ∧ OkActs n' l' ∧ n' ≤ 8 ∧
  H' G' = some (.tup (intV g')) ∧ g'.Pairwise (· < ·) ∧ (∀ s ∈ g', s < n') ∧ H' nA = some (.lst (intV nm)) ∧ nA ≠ a ∧ nm.length = n ∧ (∀ x ∈ nm, x < n') ∧ SameTop n l g n' l' g' nm
section
variable {P : Program} {w : World} {K : PySem.W.Frag} {mg : Str → Option Value} {base : Heap}
def sp_law_changed (K : PySem.W.Frag) : Sp := fun vs H Q _ => ∃ (a c : Addr) (m n : Nat) (ac : Addr) (us : List V) (l : List ActD) (G : Addr) (g : List Nat), vs = [.ref a, .int (n : Int), .ref ac, .ref G] ∧ PenV H a c m ∧ m < 900000 ∧ H ac = some (.lst us) ∧ All2 (ActV H) us l ∧ ac ≠ a ∧ OkActs n l ∧ n ≤ 4 ∧ l.length ≤ 12 ∧ Small l ∧ H G = some (.tup (intV g)) ∧ g.Pairwise (· < ·) ∧ (∀ s ∈ g, s < n) ∧
  ∀ H' t, SameX a H H' → PenV H' a c (m + 10) → ChgR H' a n l g t → Q (.ref t) H'
theorem c_law_changed (T : Tx K mg) : C8.Cal P w K mg base 4 "_law_changed" (sp_law_changed K) [] := by
  obtain ⟨fd, F⟩ := T.f_law_changed
  refine calD F T.g_law_changed sc_law_changed (fun _ _ _ _ _ _ us hl => match us, hl with | [_, _, _, _], _ => rfl) (fun vs H Q E h => ?_) (fun cdv A outer s H vs Q E hr h => ?_)
  · obtain ⟨_, _, _, _, _, _, _, _, _, rfl, _⟩ := h; rfl
  obtain ⟨a, c, m, n, ac, us, l, G, g, rfl, hp, hm, eac, al, aca, ok, n4, l12, sm, eG, gp, gn, k⟩ := h
  have n1 := ok.n1
  refine ⟨_, (pss_cons (ps_set (i := 4) sc_law_changed.nd rfl (Or.inl rfl) (C8.pe_c (c_law_draw T) hr (by decide) (by rfl) (pa_cons (pv 0) (pa_cons pe_int pa_nil))))
      (pss_cons (ps_if (pt_cmpR op_eq (pv 4) pe_int (nomark _)) (pss_cons (ps_set (i := 5) sc_law_changed.nd rfl (Or.inr rfl) (pe_op op_add pe_int (C8.pe_c (c_law_draw T) hr (by decide) (by rfl) (pa_cons (pv 0) (pa_cons pe_int pa_nil)))))
      (pss_cons (ps_set (i := 6) sc_law_changed.nd rfl (Or.inl rfl) (pe_lst pa_nil))
      (pss_cons (ps_for PassesOwn.never rfl (pi_list (pv 2)) (pg_tup rfl (pgs_cons (pg_name (i := 7) sc_law_changed.nd rfl (Or.inl rfl)) (pgs_cons (pg_name (i := 8) sc_law_changed.nd rfl (Or.inl rfl)) pgs_nil)))
      (pss_one (ps_expr (pe_bm PySem.F.plainAttrs_list PySem.F.slot_list_append PySem.F.type_list_append mt_append (pv 6) (pa_cons (pe_tup (pa_cons (pv 7) (pa_cons (pe_callTy call_tuple_of (by rfl) T.b_tuple (by decide +kernel) (pa_cons (pe_lc (own := [("one", 15)]) (g := gName 15) (te := (tOp (rCatA K) (tTup (tCons (tOp (rI CMulX fun i j => .int (i * j)) (tOp (rIxT K) (tVar 15) (tC (.int 0))) (tVar 5)) tNil)) (tSl (rSlA K) (tVar 15) (tPart (tC (.int 1))) tNoPart))) (by rfl) sc_law_changed.nd (pi_tup (pv 8)) (blkOk_by (own := [("one", 15)]) (N := N_law_changed) (sc := defScope s_law_changed) (by decide +kernel)) (fun _ _ _ _ _ => (pg_name (i := 15) sc_law_changed.nd rfl (Or.inl rfl))) (fun _ _ _ _ _ => pts_nil) (fun _ _ _ _ _ => (pe_op op_catA (pe_tup (pa_cons (pe_op op_mulX (pe_ix ix_tup (pv 15) pe_int (fun _ _ => rfl)) (pv 5)) pa_nil)) (pe_slice sl_tupA (pv 15) (po_some pe_int) po_none)))) pa_nil)) pa_nil))) pa_nil)))))
      (pss_one (ps_ret (pe_tup (pa_cons (pv 1) (pa_cons (pv 6) (pa_cons (pv 3) (pa_cons (pe_listRg rfl (by rfl) T.b_list (prg_1 (by rfl) T.b_range (pv 1))) pa_nil)))))))))) pss_nil)
      (pss_cons (ps_if (pt_cmpR op_eq (pv 4) pe_int (nomark _)) (pss_one (ps_ret (pe_tup (pa_cons (pv 1) (pa_cons (pe_op op_cat (pv 2) (pe_slice sl_list (pv 2) po_none (po_some (pe_op op_add pe_int (C8.pe_c (c_law_draw T) hr (by decide) (by rfl) (pa_cons (pv 0) (pa_cons (pe_callB call_len (by rfl) T.b_len (by decide +kernel) (pa_cons (pv 2) pa_nil)) pa_nil))))))) (pa_cons (pv 3) (pa_cons (pe_listRg rfl (by rfl) T.b_list (prg_1 (by rfl) T.b_range (pv 1))) pa_nil))))))) pss_nil)
      (pss_cons (ps_if (pt_cmpR op_eq (pv 4) pe_int (nomark _)) (pss_cons (ps_set (i := 9) sc_law_changed.nd rfl (Or.inl rfl) (pe_lst pa_nil))
      (pss_cons (ps_for PassesOwn.never rfl (pi_list (pv 2)) (pg_tup rfl (pgs_cons (pg_name (i := 7) sc_law_changed.nd rfl (Or.inl rfl)) (pgs_cons (pg_name (i := 8) sc_law_changed.nd rfl (Or.inl rfl)) pgs_nil)))
      (pss_cons (ps_setLc (i := 10) (own := [("one", 15)]) (g := gName 15) (te := (tOp (rCatA K) (tTup (tCons (tOp (rI CMulX fun i j => .int (i * j)) (tOp (rIxT K) (tVar 15) (tC (.int 0))) (tC (.int 2))) tNil)) (tSl (rSlA K) (tVar 15) (tPart (tC (.int 1))) tNoPart))) (by rfl) sc_law_changed.nd rfl rfl (sw_true rfl rfl rfl (by decide +kernel)) (pi_tup (pe_slice sl_tupA (pv 8) (po_some pe_int) po_none)) (blkOk_by (own := [("one", 15)]) (N := N_law_changed) (sc := defScope s_law_changed) (by decide +kernel)) (fun _ _ _ _ _ => (pg_name (i := 15) sc_law_changed.nd rfl (Or.inl rfl))) (fun _ _ _ _ _ => pts_nil) (fun _ _ _ _ _ => (pe_op op_catA (pe_tup (pa_cons (pe_op op_mulX (pe_ix ix_tup (pv 15) pe_int (fun _ _ => rfl)) pe_int) pa_nil)) (pe_slice sl_tupA (pv 15) (po_some pe_int) po_none))))
      (pss_one (ps_expr (pe_bm PySem.F.plainAttrs_list PySem.F.slot_list_append PySem.F.type_list_append mt_append (pv 9) (pa_cons (pe_tup (pa_cons (pv 7) (pa_cons (pe_callTy call_tuple_of (by rfl) T.b_tuple (by decide +kernel) (pa_cons (pe_op op_cat (pv 10) (pe_lst (pa_cons (pe_ix ix_tup (pv 8) pe_int (fun _ _ => rfl)) (pa_cons (pe_ix ix_tup (pv 8) pe_int (fun _ _ => rfl)) pa_nil)))) pa_nil)) pa_nil))) pa_nil))))))
      (pss_one (ps_ret (pe_tup (pa_cons (pv 1) (pa_cons (pv 9) (pa_cons (pv 3) (pa_cons (pe_listRg rfl (by rfl) T.b_list (prg_1 (by rfl) T.b_range (pv 1))) pa_nil))))))))) pss_nil)
      (pss_cons (ps_if (pt_cmpR op_eq (pv 4) pe_int (nomark _)) (pss_cons (ps_set (i := 11) sc_law_changed.nd rfl (Or.inr rfl) (pe_listRg rfl (by rfl) T.b_list (prg_1 (by rfl) T.b_range (pv 1))))
      (pss_cons (ps_set (i := 12) sc_law_changed.nd rfl (Or.inr rfl) (pe_lc (own := [("turn", 16)]) (g := gName 16) (te := (tBM K "list" rPopAt (tVar 11) (tCons (tCall sp_law_draw [] C8.E0 (tCons (tVar 0) (tCons (tCB (rLen K) (tCons (tVar 11) tNil)) tNil))) tNil))) (by rfl) sc_law_changed.nd (pi_range1 (by rfl) T.b_range (pa_cons (pv 1) pa_nil)) (blkOk_by (own := [("turn", 16)]) (N := N_law_changed) (sc := defScope s_law_changed) (by decide +kernel)) (fun _ _ _ _ _ => (pg_name (i := 16) sc_law_changed.nd rfl (Or.inl rfl))) (fun _ _ _ _ _ => pts_nil) (fun _ _ _ _ _ => (pe_bm PySem.F.plainAttrs_list PySem.F.slot_list_pop PySem.F.type_list_pop mt_popAt (pv 11) (pa_cons (C8.pe_c (c_law_draw T) hr (by decide) (by rfl) (pa_cons (pv 0) (pa_cons (pe_callB call_len (by rfl) T.b_len (by decide +kernel) (pa_cons (pv 11) pa_nil)) pa_nil))) pa_nil)))))
      (pss_cons (ps_set (i := 13) sc_law_changed.nd rfl (Or.inl rfl) (pe_lst pa_nil))
      (pss_cons (ps_for PassesOwn.never rfl (pi_list (pv 2)) (pg_tup rfl (pgs_cons (pg_name (i := 7) sc_law_changed.nd rfl (Or.inl rfl)) (pgs_cons (pg_name (i := 8) sc_law_changed.nd rfl (Or.inl rfl)) pgs_nil)))
      (pss_one (ps_expr (pe_bm PySem.F.plainAttrs_list PySem.F.slot_list_append PySem.F.type_list_append mt_append (pv 13) (pa_cons (pe_tup (pa_cons (pe_ix ix_list (pv 12) (pv 7) (fun _ _ => rfl)) (pa_cons (pe_callTy call_tuple_of (by rfl) T.b_tuple (by decide +kernel) (pa_cons (pe_lc (own := [("one", 15)]) (g := gName 15) (te := (tOp (rCatA K) (tTup (tCons (tOp (rIxT K) (tVar 15) (tC (.int 0))) (tCons (tOp (rIxL K) (tVar 12) (tOp (rIxT K) (tVar 15) (tC (.int 1)))) tNil))) (tSl (rSlA K) (tVar 15) (tPart (tC (.int 2))) tNoPart))) (by rfl) sc_law_changed.nd (pi_tup (pv 8)) (blkOk_by (own := [("one", 15)]) (N := N_law_changed) (sc := defScope s_law_changed) (by decide +kernel)) (fun _ _ _ _ _ => (pg_name (i := 15) sc_law_changed.nd rfl (Or.inl rfl))) (fun _ _ _ _ _ => pts_nil) (fun _ _ _ _ _ => (pe_op op_catA (pe_tup (pa_cons (pe_ix ix_tup (pv 15) pe_int (fun _ _ => rfl)) (pa_cons (pe_ix ix_list (pv 12) (pe_ix ix_tup (pv 15) pe_int (fun _ _ => rfl)) (fun _ _ => rfl)) pa_nil))) (pe_slice sl_tupA (pv 15) (po_some pe_int) po_none)))) pa_nil)) pa_nil))) pa_nil)))))
      (pss_one (ps_ret (pe_tup (pa_cons (pv 1) (pa_cons (pe_revL (pv 13) (pe_un un_neg pe_int)) (pa_cons (pe_callTy call_tuple_of (by rfl) T.b_tuple (by decide +kernel) (pa_cons (pe_callB cr_sortedI (by rfl) T.b_sorted (by decide +kernel) (pa_cons (pe_lc (own := [("state", 7)]) (g := gName 7) (te := (tOp (rIxL K) (tVar 12) (tVar 7))) (by rfl) sc_law_changed.nd (pi_tup (pv 3)) (blkOk_by (own := [("state", 7)]) (N := N_law_changed) (sc := defScope s_law_changed) (by decide +kernel)) (fun _ _ _ _ _ => (pg_name (i := 7) sc_law_changed.nd rfl (Or.inl rfl))) (fun _ _ _ _ _ => pts_nil) (fun _ _ _ _ _ => (pe_ix ix_list (pv 12) (pv 7) (fun _ _ => rfl)))) pa_nil)) pa_nil)) (pa_cons (pv 12) pa_nil))))))))))) pss_nil)
      (pss_cons (ps_set (i := 14) sc_law_changed.nd rfl (Or.inl rfl) (pe_lst pa_nil))
      (pss_cons (ps_for PassesOwn.never rfl (pi_list (pv 2)) (pg_tup rfl (pgs_cons (pg_name (i := 7) sc_law_changed.nd rfl (Or.inl rfl)) (pgs_cons (pg_name (i := 8) sc_law_changed.nd rfl (Or.inl rfl)) pgs_nil)))
      (pss_one (ps_expr (pe_bm PySem.F.plainAttrs_list PySem.F.slot_list_append PySem.F.type_list_append mt_append (pv 14) (pa_cons (pe_tup (pa_cons (pv 7) (pa_cons (pe_callTy call_tuple_of (by rfl) T.b_tuple (by decide +kernel) (pa_cons (pe_lc (own := [("one", 15)]) (g := gName 15) (te := (tOp (rCatA K) (tTup (tCons (tOp (rIxT K) (tVar 15) (tC (.int 0))) (tCons (tOp (rI0 fun i j => .int (i + j)) (tOp (rIxT K) (tVar 15) (tC (.int 1))) (tVar 1)) tNil))) (tSl (rSlA K) (tVar 15) (tPart (tC (.int 2))) tNoPart))) (by rfl) sc_law_changed.nd (pi_tup (pv 8)) (blkOk_by (own := [("one", 15)]) (N := N_law_changed) (sc := defScope s_law_changed) (by decide +kernel)) (fun _ _ _ _ _ => (pg_name (i := 15) sc_law_changed.nd rfl (Or.inl rfl))) (fun _ _ _ _ _ => pts_nil) (fun _ _ _ _ _ => (pe_op op_catA (pe_tup (pa_cons (pe_ix ix_tup (pv 15) pe_int (fun _ _ => rfl)) (pa_cons (pe_op op_add (pe_ix ix_tup (pv 15) pe_int (fun _ _ => rfl)) (pv 1)) pa_nil))) (pe_slice sl_tupA (pv 15) (po_some pe_int) po_none)))) pa_nil)) pa_nil))) pa_nil)))))
      (pss_cons (ps_set (i := 14) sc_law_changed.nd rfl (Or.inl rfl) (pe_op op_cat (pv 14) (pe_lc (own := [("state", 7), ("outcomes", 8)]) (g := gTup K 2 (gCons (gName 7) (gCons (gName 8) (gNil)))) (by rfl) sc_law_changed.nd (pi_list (pv 2)) (blkOk_by (own := [("state", 7), ("outcomes", 8)]) (N := N_law_changed) (sc := defScope s_law_changed) (by decide +kernel)) (fun _ _ _ _ _ => (pg_tup rfl (pgs_cons (pg_name (i := 7) sc_law_changed.nd rfl (Or.inl rfl)) (pgs_cons (pg_name (i := 8) sc_law_changed.nd rfl (Or.inl rfl)) pgs_nil)))) (fun _ _ _ _ _ => pts_nil) (fun _ _ _ _ _ => (pe_tup (pa_cons (pe_op op_add (pv 7) (pv 1)) (pa_cons (pv 8) pa_nil)))))))
      (pss_one (ps_ret (pe_tup (pa_cons (pe_op op_mulX pe_int (pv 1)) (pa_cons (pv 14) (pa_cons (pe_op op_catA (pv 3) (pe_callTy call_tuple_of (by rfl) T.b_tuple (by decide +kernel) (pa_cons (pe_lc (own := [("state", 7)]) (g := gName 7) (by rfl) sc_law_changed.nd (pi_tup (pv 3)) (blkOk_by (own := [("state", 7)]) (N := N_law_changed) (sc := defScope s_law_changed) (by decide +kernel)) (fun _ _ _ _ _ => (pg_name (i := 7) sc_law_changed.nd rfl (Or.inl rfl))) (fun _ _ _ _ _ => pts_nil) (fun _ _ _ _ _ => (pe_op op_add (pv 7) (pv 1)))) pa_nil))) (pa_cons (pe_listRg rfl (by rfl) T.b_list (prg_1 (by rfl) T.b_range (pv 1))) pa_nil))))))))))))))), ?_⟩
  refine ⟨_, rfl, a, c, m, 5, rfl, hp, by decide, by decide, by omega, fun H1 r s1 p1 r0 r1 => ?_⟩
  obtain ⟨xs0, ea0⟩ := hp.at_
  have sn1 := s1.n ea0
  have eac1 : H1 ac = some (.lst us) := s1 _ _ aca eac
  have al1 : All2 (ActV H1) us l := al.imp fun x y z => z.n sn1
  have eG1 : H1 G = some (.tup (intV g)) := sn1 _ _ eG trivial
  have ul : us.length = l.length := al.1
  have ga : ∀ {H' : Hp} {m' : Nat} {x : Addr}, PenV H' a c m' → H' x = none → x ≠ a ∧ x ≠ c := fun {H' m' x} p h => by
    obtain ⟨ns, at_, rest, e1, e2, _⟩ := p
    exact ⟨fun z => by (subst z; rw [e1] at h; cases h), fun z => by (subst z; rw [e2] at h; cases h)⟩
  clear sn1 al eac eG
  refine ⟨_, rfl, rfl, _, rfl, ite2 (fun w0 => ?_) (fun w0 => ?_)⟩
  · -- odds times a number
    refine ⟨_, rfl, a, c, m + 1, 300, rfl, p1, by decide, by decide, by omega, fun H2 r2 s2 p2 q0 q1 => ⟨_, _, rfl, rfl, ?_⟩⟩
    obtain ⟨xs1, ea1⟩ := p1.at_
    have sn2 := s2.n ea1
    have eac2 : H2 ac = some (.lst us) := s2 _ _ aca eac1
    have al2 : All2 (ActV H2) us l := al1.imp fun x y z => z.n sn2
    have eG2 : H2 G = some (.tup (intV g)) := sn2 _ _ eG1 trivial
    obtain ⟨kf, ekf⟩ : ∃ kf : Nat, (1 : Int) + r2 = (kf : Int) := ⟨(1 + r2).toNat, by omega⟩
    have k1 : 1 ≤ kf := by omega
    have k3 : kf ≤ 300 := by omega
    refine ⟨Nat.zero_le _, fun L hL => ?_⟩
    obtain ⟨La, Lc_⟩ := ga p2 hL
    have t3 := same_upd (o := .lst []) hL
    refine ⟨_, rfl, ac, rfl, ⟨us, .inl (.inl (t3 _ _ eac2))⟩, ?_⟩
    refine for_it walk_list (fun i σ H' => (∃ x7 x8, σ = [some (.ref a), some (.int (n : Int)), some (.ref ac), some (.ref G), some (.int r), some (.int ((1 : Int) + r2)), some (.ref L), x7, x8, none, none, none, none, none, none, none, none]) ∧ Same H2 H' ∧ ∃ vs, H' L = some (.lst vs) ∧ All2 (ActV H') vs ((l.take i).map (scale kf)))
      ⟨⟨none, none, rfl⟩, t3, [], upd_same, All2.nil⟩ (fun i σ H' _ p => .inl (.inl (p.2.1 _ _ eac2))) ?_ ?_
    · rintro i x σ H4' H4 hi ⟨⟨x7, x8, rfl⟩, s4, vs, eL, aL⟩ ⟨rfl, hx⟩
      obtain ⟨d, hd, pa, qa, ws, rfl, epa, eqa, aws⟩ := al2.get' hx
      have okd := ok.acts d (List.mem_of_getElem? hd)
      have wl : ws.length = d.2.length := aws.1
      have d5 := okd.len
      refine ⟨pa, _, rfl, .inl (.inl (s4 _ _ epa)), rfl, _, _, rfl, _, _, rfl, rfl, ?_⟩
      refine ⟨_, rfl, .inl ⟨rfl, vs, .inl (.inl eL)⟩, _, rfl, _, rfl, qa, rfl, ⟨ws, .inl (.inl (s4 _ _ eqa))⟩, fun D hD => ?_⟩
      refine lcm walk_tup hD (Nat.le_trans (by omega : ws.length ≤ 5) (by decide)) (fun _ => true) (fun j y H' => ∃ o, d.2[j]? = some o ∧ OutV H' y { o with odds := o.odds * kf }) (fun j y H5 H6 s h => ?_) (fun H' s => .inl (.inl ((s4.trans s) _ _ eqa))) (fun j x H5' H5 kN kY hj s y kn ky => ?_) (fun H6 ys s6 e6 kp => ?_)
      · obtain ⟨o, ho, hv⟩ := h
        exact ⟨o, ho, hv.n s⟩
      · obtain ⟨rfl, hx⟩ := y
        obtain ⟨o, ho, b, pb_, rfl, eb, epb⟩ := aws.get' hx
        have s5 := s4.trans s
        refine ⟨rfl, yes ?_⟩
        refine ⟨_, rfl, b, _, 0, _, rfl, rfl, .inl (.inl (s5 _ _ eb)), rfl, ?_⟩
        have oko := okd.outs o (List.mem_of_getElem? ho)
        have o2 := oko.o2
        refine ⟨_, rfl, _, _, rfl, rfl, mulx (a := 10) (b := 10) (by show ((o.odds : Nat) : Int).natAbs ≤ 2 ^ 10; omega) (by show ((1 : Int) + r2).natAbs ≤ 2 ^ 10; omega) (by omega), ?_⟩
        have ev : V.int ((o.odds : Int) * (1 + r2)) = V.int ((o.odds * kf : Nat) : Int) := by rw [ekf]; rfl
        refine ⟨by show 1 ≤ sizeLine; decide, fun t1 ht1 => ?_⟩
        have u1 := same_upd (o := .tup [V.int ((o.odds : Int) * (1 + r2))]) ht1
        refine ⟨_, rfl, 1, rfl, b, _, rfl, .inl (.inl (u1 _ _ (s5 _ _ eb))), fun h => absurd h.1 (by show ¬ (HT.sIx 4 0 (some 1) = 0); decide), fun _ p1 hp1 => ?_⟩
        rw [show cutV [V.int (o.odds : Int), .int (o.target : Int), .int (o.time : Int), .ref pb_] (some 1) none = [.int (o.target : Int), .int (o.time : Int), .ref pb_] from cut_hi _ 1 (by show 1 ≤ 4; omega)]
        have u2 := same_upd (o := .tup [V.int (o.target : Int), .int (o.time : Int), .ref pb_]) hp1
        refine ⟨t1, p1, _, _, rfl, rfl, .inl (.inl (u2 _ _ upd_same)), .inl (.inl upd_same), by show 4 ≤ sizeLine; decide, fun h => (nomatch h), fun _ h => (nomatch h), fun _ _ t2 ht2 => ?_⟩
        have u3 := same_upd (o := .tup ([V.int ((o.odds : Int) * (1 + r2))] ++ [V.int (o.target : Int), .int (o.time : Int), .ref pb_])) ht2
        have u123 := u1.trans (u2.trans u3)
        exact ky _ _ u123 rfl ⟨o, ho, t2, pb_, rfl, by rw [upd_same]; exact congrArg (fun z => some (HO.tup ([z] ++ [V.int (o.target : Int), .int (o.time : Int), .ref pb_]))) ev, (s5.trans u123) _ _ epb⟩
      · obtain ⟨l1, l2⟩ := kp.all
        have aO := outs_all (f := fun o => { o with odds := o.odds * kf }) (l1.trans wl) l2
        refine ⟨D, ys, rfl, .inl ⟨.inl (.inl e6), fun q2 hq2 => ?_⟩⟩
        have v1 := same_upd (o := .tup ys) hq2
        refine ⟨by show 2 ≤ sizeLine; decide, fun t3 ht3 => ?_⟩
        have v2 := same_upd (o := .tup [V.int (d.1 : Int), .ref q2]) ht3
        have s46 := s6.trans (v1.trans v2)
        refine ⟨L, vs, _, rfl, rfl, s46 _ _ eL, Nat.lt_of_le_of_lt (by rw [aL.1, List.length_map, List.length_take]; omega : vs.length ≤ 30) (by decide), ?_⟩
        obtain ⟨f1, f2⟩ := acts_push (d := scale kf d) (v := .ref t3) (s4.trans s46) hL (s46 _ _ eL) (aL.imp fun x y z => z.n (same_n s46)) ⟨t3, q2, ys, rfl, upd_same, v2 _ _ upd_same, aO.imp fun x y z => z.n (same_n (v1.trans v2))⟩
        rw [← take_map_succ (scale kf) hd] at f2
        exact ⟨⟨_, _, rfl⟩, f1, f2⟩
    · rintro σ H4 ⟨⟨x7, x8, rfl⟩, s4, vs, eL, aL⟩
      rw [ul, List.take_length] at aL
      refine ⟨_, rfl, _, rfl, _, rfl, _, rfl, (n : Int), rfl, RgOk.of_le (by omega) (by omega) (by omega) (by omega), fun N0 hN0 => ?_⟩
      rw [rgV0]
      have v1 := same_upd (o := .lst (intV (List.range n))) hN0
      refine ⟨by show 4 ≤ sizeLine; decide, fun t ht => ?_⟩
      have v2 := same_upd (o := .tup [V.int (n : Int), .ref L, .ref G, .ref N0]) ht
      have s5 := s4.trans (v1.trans v2)
      have sx : SameX a H _ := s1.trans (s2.trans (SameX.of s5))
      refine k _ t sx ((p2.same s5).le (by omega)) ⟨n, L, vs, _, G, g, N0, _, upd_same, (v1.trans v2) _ _ eL, aL.imp fun x y z => z.n (same_n (v1.trans v2)), La, ok_scale ok sm k1 k3, by omega, s5 _ _ eG2, gp, gn, v2 _ _ upd_same, ?_, List.length_range, fun x hx => List.mem_range.mp hx, same_scale k1⟩
      exact (ga (p2.same s4) hN0).1
  refine ⟨_, rfl, rfl, _, rfl, ite2 (fun w1 => ?_) (fun w1 => ?_)⟩
  · -- acts twice
    have up : 1 ≤ us.length := by
      obtain ⟨d, hd, _⟩ := ok.all 0 (by omega)
      have := List.length_pos_of_mem hd
      omega
    refine ⟨_, rfl, _, rfl, _, rfl, _, rfl, _, rfl, _, us.length, rfl, .inl ⟨us, .inl (.inl eac1), rfl⟩, a, c, m + 1, (us.length : Int), rfl, p1, by omega, by omega, by omega, fun H2 r2 s2 p2 q0 q1 => ⟨_, _, rfl, rfl, ?_⟩⟩
    obtain ⟨xs1, ea1⟩ := p1.at_
    have sn2 := s2.n ea1
    have eac2 : H2 ac = some (.lst us) := s2 _ _ aca eac1
    have al2 : All2 (ActV H2) us l := al1.imp fun x y z => z.n sn2
    have eG2 : H2 G = some (.tup (intV g)) := sn2 _ _ eG1 trivial
    obtain ⟨kf, ekf⟩ : ∃ kf : Nat, (1 : Int) + r2 = (kf : Int) := ⟨(1 + r2).toNat, by omega⟩
    have kl : kf ≤ us.length := by omega
    refine ⟨_, rfl, ac, us, rfl, .inl (.inl eac2), fun pS hpS => ?_⟩
    have e1 : cutV us none (some ((1 : Int) + r2)) = us.take kf := by rw [ekf]; exact cut_lo us kf kl
    have e1' : cutV us none (some ((fun i j : Int => i + j) 1 r2)) = us.take kf := e1
    rw [e1']
    have u1 := same_upd (o := .lst (us.take kf)) hpS
    refine ⟨ac, pS, us, _, rfl, rfl, u1 _ _ eac2, upd_same, Nat.le_trans (by rw [List.length_take]; omega : us.length + (us.take kf).length ≤ 30) (by decide), fun L hL => ?_⟩
    have u2 := u1.trans (same_upd (o := .lst (us ++ us.take kf)) hL)
    have La : L ≠ a := (ga (p2.same u1) hL).1
    refine ⟨_, rfl, _, rfl, (n : Int), rfl, RgOk.of_le (by omega) (by omega) (by omega) (by omega), fun N0 hN0 => ?_⟩
    rw [rgV0]
    have v1 := same_upd (o := .lst (intV (List.range n))) hN0
    refine ⟨by show 4 ≤ sizeLine; decide, fun t ht => ?_⟩
    have v2 := same_upd (o := .tup [V.int (n : Int), .ref L, .ref G, .ref N0]) ht
    have s5 := u2.trans (v1.trans v2)
    have sx : SameX a H _ := s1.trans (s2.trans (SameX.of s5))
    refine k _ t sx ((p2.same s5).le (by omega)) ⟨n, L, us ++ us.take kf, l ++ l.take kf, G, g, N0, _, upd_same, (v1.trans v2) _ _ upd_same, (all2_append al2 (all2_take al2 kf)).imp fun x y z => z.n (same_n s5), La, ok_more ok l12 kf, by omega, s5 _ _ eG2, gp, gn, v2 _ _ upd_same, ?_, List.length_range, fun x hx => List.mem_range.mp hx, same_more kf⟩
    exact (ga (p2.same u2) hN0).1
  refine ⟨_, rfl, rfl, _, rfl, ite2 (fun w2 => ?_) (fun w2 => ?_)⟩
  · -- outcomes parted
    refine ⟨Nat.zero_le _, fun L hL => ?_⟩
    obtain ⟨La, Lc_⟩ := ga p1 hL
    have t3 := same_upd (o := .lst []) hL
    refine ⟨_, rfl, ac, rfl, ⟨us, .inl (.inl (t3 _ _ eac1))⟩, ?_⟩
    refine for_it walk_list (fun i σ H' => (∃ x7 x8 x10, σ = [some (.ref a), some (.int (n : Int)), some (.ref ac), some (.ref G), some (.int r), none, none, x7, x8, some (.ref L), x10, none, none, none, none, none, none]) ∧ Same H1 H' ∧ ∃ vs, H' L = some (.lst vs) ∧ All2 (ActV H') vs ((l.take i).map part))
      ⟨⟨none, none, none, rfl⟩, t3, [], upd_same, All2.nil⟩ (fun i σ H' _ p => .inl (.inl (p.2.1 _ _ eac1))) ?_ ?_
    · rintro i x σ H4' H4 hi ⟨⟨x7, x8, x10, rfl⟩, s4, vs, eL, aL⟩ ⟨rfl, hx⟩
      obtain ⟨d, hd, pa, qa, ws, rfl, epa, eqa, aws⟩ := al1.get' hx
      have okd := ok.acts d (List.mem_of_getElem? hd)
      have wl : ws.length = d.2.length := aws.1
      have d5 := okd.len
      have d1 : 1 ≤ d.2.length := List.length_pos_iff.mpr okd.ne
      obtain ⟨w0_, hw0⟩ : ∃ w0_, ws[0]? = some w0_ := ⟨_, List.getElem?_eq_getElem (by omega)⟩
      refine ⟨pa, _, rfl, .inl (.inl (s4 _ _ epa)), rfl, _, _, rfl, _, _, rfl, rfl, ?_⟩
      refine ⟨_, rfl, 1, rfl, qa, ws, rfl, .inl (.inl (s4 _ _ eqa)), fun h => absurd h.1 ?_, fun _ pD hpD => ?_⟩
      · rw [show ((1 : Int)) = ((1 : Nat) : Int) from rfl, HT.sIx_nat]
        omega
      have e1 : cutV ws (some 1) none = ws.drop 1 := cut_hi ws 1 (by omega)
      rw [e1]
      have u1 := same_upd (o := .tup (ws.drop 1)) hpD
      have epD : upd H4 pD (.tup (ws.drop 1)) pD = some (.tup (ws.drop 1)) := upd_same
      generalize upd H4 pD (.tup (ws.drop 1)) = H5 at u1 epD
      have s5 := s4.trans u1
      refine ⟨pD, rfl, ⟨_, .inl (.inl epD)⟩, fun D hD => ?_⟩
      have wdl : (ws.drop 1).length = (d.2.drop 1).length := by rw [List.length_drop, List.length_drop, wl]
      refine lcm walk_tup hD (Nat.le_trans (by rw [List.length_drop]; omega : (ws.drop 1).length ≤ 5) (by decide)) (fun _ => true) (fun j y H' => ∃ o, (d.2.drop 1)[j]? = some o ∧ OutV H' y (dbl o)) (fun j y H5 H6 s h => ?_) (fun H' s => .inl (.inl (s _ _ epD))) (fun j x H6' H6 kN kY hj s y kn ky => ?_) (fun H7 ys s7 e7 kp => ?_)
      · obtain ⟨o, ho, hv⟩ := h
        exact ⟨o, ho, hv.n s⟩
      · obtain ⟨rfl, hx⟩ := y
        obtain ⟨o, ho, b, pb_, rfl, eb, epb⟩ := (all2_drop aws 1).get' hx
        have s6 := s5.trans s
        refine ⟨rfl, yes ?_⟩
        refine ⟨_, rfl, b, _, 0, _, rfl, rfl, .inl (.inl (s6 _ _ eb)), rfl, ?_⟩
        have oko := okd.outs o (List.mem_of_mem_drop (List.mem_of_getElem? ho))
        have o2 := oko.o2
        refine ⟨_, _, rfl, rfl, mulx (a := 10) (b := 10) (by show ((o.odds : Nat) : Int).natAbs ≤ 2 ^ 10; omega) (by decide) (by omega), ?_⟩
        refine ⟨by show 1 ≤ sizeLine; decide, fun t1 ht1 => ?_⟩
        have u1 := same_upd (o := .tup [V.int ((o.odds : Int) * 2)]) ht1
        refine ⟨_, rfl, 1, rfl, b, _, rfl, .inl (.inl (u1 _ _ (s6 _ _ eb))), fun h => absurd h.1 (by show ¬ (HT.sIx 4 0 (some 1) = 0); decide), fun _ p1 hp1 => ?_⟩
        rw [show cutV [V.int (o.odds : Int), .int (o.target : Int), .int (o.time : Int), .ref pb_] (some 1) none = [.int (o.target : Int), .int (o.time : Int), .ref pb_] from cut_hi _ 1 (by show 1 ≤ 4; omega)]
        have u2 := same_upd (o := .tup [V.int (o.target : Int), .int (o.time : Int), .ref pb_]) hp1
        refine ⟨t1, p1, _, _, rfl, rfl, .inl (.inl (u2 _ _ upd_same)), .inl (.inl upd_same), by show 4 ≤ sizeLine; decide, fun h => (nomatch h), fun _ h => (nomatch h), fun _ _ t2 ht2 => ?_⟩
        have u3 := same_upd (o := .tup ([V.int ((o.odds : Int) * 2)] ++ [V.int (o.target : Int), .int (o.time : Int), .ref pb_])) ht2
        have u123 := u1.trans (u2.trans u3)
        exact ky _ _ u123 rfl ⟨o, ho, t2, pb_, rfl, by rw [upd_same]; rfl, (s6.trans u123) _ _ epb⟩
      · obtain ⟨l1, l2⟩ := kp.all
        have aO := outs_all (f := dbl) (l1.trans wdl) l2
        have s57 := s5.trans s7
        refine ⟨_, rfl, .inl ⟨rfl, vs, .inl (.inl ((u1.trans s7) _ _ eL))⟩, _, rfl, _, rfl, ?_⟩
        refine ⟨_, rfl, qa, ws, 0, w0_, rfl, rfl, .inl (.inl (s57 _ _ eqa)), atI_nat (j := 0) hw0, _, rfl, qa, ws, 0, w0_, rfl, rfl, .inl (.inl (s57 _ _ eqa)), atI_nat (j := 0) hw0, by show 2 ≤ sizeLine; decide, fun E2 hE2 => ?_⟩
        have v1 := same_upd (o := .lst [w0_, w0_]) hE2
        refine ⟨D, E2, ys, [w0_, w0_], rfl, rfl, v1 _ _ e7, upd_same, Nat.le_trans (by rw [aO.1, List.length_map, List.length_drop]; show _ + 2 ≤ 7; omega : ys.length + [w0_, w0_].length ≤ 7) (by decide), fun M hM => ?_⟩
        have v2 := same_upd (o := .lst (ys ++ [w0_, w0_])) hM
        refine ⟨M, _, rfl, .inl ⟨.inl (.inl upd_same), fun q2 hq2 => ?_⟩⟩
        have v3 := same_upd (o := .tup (ys ++ [w0_, w0_])) hq2
        refine ⟨by show 2 ≤ sizeLine; decide, fun t3 ht3 => ?_⟩
        have v4 := same_upd (o := .tup [V.int (d.1 : Int), .ref q2]) ht3
        have v14 := v1.trans (v2.trans (v3.trans v4))
        have s47 := u1.trans (s7.trans v14)
        refine ⟨L, vs, _, rfl, rfl, s47 _ _ eL, Nat.lt_of_le_of_lt (by rw [aL.1, List.length_map, List.length_take]; omega : vs.length ≤ 30) (by decide), ?_⟩
        have aw0 : All2 (OutV H1) [w0_, w0_] (d.2.take 1 ++ d.2.take 1) := by
          obtain ⟨o0, ho0, ov0⟩ := aws.get' hw0
          have e2 : d.2.take 1 = [o0] := by
            cases hd2 : d.2 with
            | nil => rw [hd2] at ho0; cases ho0
            | cons z zs => rw [hd2] at ho0; cases ho0; rfl
          rw [e2]
          exact all2_append (all2_one ov0) (all2_one ov0)
        obtain ⟨f1, f2⟩ := acts_push (d := part d) (v := .ref t3) (s4.trans s47) hL (s47 _ _ eL) (aL.imp fun x y z => z.n (same_n s47)) ⟨t3, q2, ys ++ [w0_, w0_], rfl, upd_same, v4 _ _ upd_same, all2_append (aO.imp fun x y z => z.n (same_n v14)) (aw0.imp fun x y z => z.n (same_n (s57.trans v14)))⟩
        rw [← take_map_succ part hd] at f2
        exact ⟨⟨_, _, _, rfl⟩, f1, f2⟩
    · rintro σ H4 ⟨⟨x7, x8, x10, rfl⟩, s4, vs, eL, aL⟩
      rw [ul, List.take_length] at aL
      refine ⟨_, rfl, _, rfl, _, rfl, _, rfl, (n : Int), rfl, RgOk.of_le (by omega) (by omega) (by omega) (by omega), fun N0 hN0 => ?_⟩
      rw [rgV0]
      have v1 := same_upd (o := .lst (intV (List.range n))) hN0
      refine ⟨by show 4 ≤ sizeLine; decide, fun t ht => ?_⟩
      have v2 := same_upd (o := .tup [V.int (n : Int), .ref L, .ref G, .ref N0]) ht
      have s5 := s4.trans (v1.trans v2)
      have sx : SameX a H _ := s1.trans (SameX.of s5)
      refine k _ t sx ((p1.same s5).le (by omega)) ⟨n, L, vs, _, G, g, N0, _, upd_same, (v1.trans v2) _ _ eL, aL.imp fun x y z => z.n (same_n (v1.trans v2)), La, ok_part ok sm, by omega, s5 _ _ eG1, gp, gn, v2 _ _ upd_same, ?_, List.length_range, fun x hx => List.mem_range.mp hx, same_part⟩
      exact (ga (p1.same s4) hN0).1
  refine ⟨_, rfl, rfl, _, rfl, ite2 (fun w3 => ?_) (fun w3 => ?_)⟩
  · -- states under other numbers
    refine ⟨_, rfl, (n : Int), rfl, RgOk.of_le (by omega) (by omega) (by omega) (by omega), fun Lf hLf => ?_⟩
    rw [rgV0]
    obtain ⟨fa, fc⟩ := ga p1 hLf
    have t2 := same_upd (o := .lst (intV (List.range n))) hLf
    have eLf : upd H1 Lf (.lst (intV (List.range n))) Lf = some (.lst (intV (List.range n))) := upd_same
    have p2 := p1.same t2
    refine ⟨_, rfl, (n : Int), rfl, by omega, by omega, fun Nm hNm => ?_⟩
    rw [Int.toNat_natCast]
    obtain ⟨na, nc⟩ := ga p2 hNm
    have hNm1 : H1 Nm = none := none_back t2 hNm
    have nLN : Lf ≠ Nm := fun z => by subst z; rw [eLf] at hNm; cases hNm
    generalize upd H1 Lf (.lst (intV (List.range n))) = H2 at t2 eLf p2 hNm
    refine lc_it walk_range (fun j H' => SameX a H1 H' ∧ PenV H' a c (m + 1 + j) ∧ ∃ lf nm : List Nat, H' Lf = some (.lst (intV lf)) ∧ H' Nm = some (.lst (intV nm)) ∧ (nm ++ lf).Perm (List.range n) ∧ nm.length = j)
      ⟨SameX.of (t2.trans (same_upd hNm)), p2.same (same_upd hNm), List.range n, [], by rw [upd_ne nLN]; exact eLf, upd_same, List.Perm.refl _, rfl⟩ (fun _ _ _ _ => trivial) (fun j x H7 H7' hj pv y => ?_) (fun H8 pv => ?_)
    · obtain ⟨rfl, ex⟩ := y
      have pv' : SameX a H1 H7' ∧ PenV H7' a c (m + 1 + j) ∧ ∃ lf nm : List Nat, H7' Lf = some (.lst (intV lf)) ∧ H7' Nm = some (.lst (intV nm)) ∧ (nm ++ lf).Perm (List.range n) ∧ nm.length = j := pv
      clear pv
      obtain ⟨s7, p7, lf, nm, eL7, eN7, pm, nl⟩ := pv'
      have ll : nm.length + lf.length = n := by have := pm.length_eq; rw [List.length_append, List.length_range] at this; exact this
      have il : (intV lf).length = lf.length := List.length_map _
      refine ⟨rfl, yes ⟨_, rfl, .inl ⟨rfl, _, .inl (.inl eL7)⟩, _, rfl, _, rfl, _, (intV lf).length, rfl, .inl ⟨_, .inl (.inl eL7), rfl⟩, a, c, m + 1 + j, ((intV lf).length : Int), rfl, p7, by omega, by omega, by omega, fun H9 r' s9 p9 q0 q1 => ?_⟩⟩
      obtain ⟨kk, rfl⟩ : ∃ kk : Nat, r' = (kk : Int) := ⟨r'.toNat, by omega⟩
      have kl : kk < lf.length := by omega
      have eL9 := s9 _ _ fa eL7
      have eN9 := s9 _ _ na eN7
      refine ⟨Lf, intV lf, (kk : Int), kk, .int (lf[kk] : Nat), rfl, rfl, eL9, by omega, by omega, ?_, ?_, ?_⟩
      · unfold seqIndex?
        simp [il]
        omega
      · unfold intV
        rw [List.getElem?_map, List.getElem?_eq_getElem kl]
        rfl
      · have e1 : (intV lf).eraseIdx kk = intV (lf.eraseIdx kk) := erase_map _ lf kk
        rw [e1]
        refine ⟨intV nm, by rw [upd_ne (Ne.symm nLN)]; exact eN9, Nat.lt_of_le_of_lt (by unfold intV; rw [List.length_map]; omega : (intV nm).length ≤ 8) (by decide), ?_⟩
        have p10 : PenV (upd H9 Lf (.lst (intV (lf.eraseIdx kk)))) a c (m + 1 + j + 1) := p9.other fa fc
        refine ⟨samex_at (samex_at (s7.trans s9) hLf) hNm1, p10.other na nc, lf.eraseIdx kk, nm ++ [lf[kk]], by rw [upd_ne nLN, upd_same], by rw [upd_same]; unfold intV; rw [List.map_append]; rfl, ?_, by rw [List.length_append, nl]; rfl⟩
        rw [List.append_assoc]
        exact ((erase_perm lf kk kl).append_left nm).trans pm
    have pv' : SameX a H1 H8 ∧ PenV H8 a c (m + 1 + n) ∧ ∃ lf nm : List Nat, H8 Lf = some (.lst (intV lf)) ∧ H8 Nm = some (.lst (intV nm)) ∧ (nm ++ lf).Perm (List.range n) ∧ nm.length = n := pv
    clear pv
    obtain ⟨s8, p8, lf, nm, _, eNm, pm, nl⟩ := pv'
    have lf0 : lf = [] := List.length_eq_zero_iff.mp (by have := pm.length_eq; rw [List.length_append, List.length_range] at this; omega)
    subst lf0
    rw [List.append_nil] at pm
    obtain ⟨f, b, hf, hb, hbn, hfb, hnm, hat⟩ := names_of pm
    obtain ⟨xs1, ea1⟩ := p1.at_
    have sn8 := s8.n ea1
    have eac8 : H8 ac = some (.lst us) := s8 _ _ aca eac1
    have al8 : All2 (ActV H8) us l := al1.imp fun x y z => z.n sn8
    have eG8 : H8 G = some (.tup (intV g)) := sn8 _ _ eG1 trivial
    have nmAt : ∀ s, s < n → (intV nm)[s]? = some (.int (f s : Nat)) := fun s hs => by
      unfold intV
      rw [List.getElem?_map, hat s hs]
      rfl
    refine ⟨Nat.zero_le _, fun L hL => ?_⟩
    obtain ⟨La, Lc_⟩ := ga p8 hL
    have t3 := same_upd (o := .lst []) hL
    refine ⟨_, rfl, ac, rfl, ⟨us, .inl (.inl (t3 _ _ eac8))⟩, ?_⟩
    refine for_it walk_list (fun i σ H' => (∃ x7 x8, σ = [some (.ref a), some (.int (n : Int)), some (.ref ac), some (.ref G), some (.int r), none, none, x7, x8, none, none, some (.ref Lf), some (.ref Nm), some (.ref L), none, none, none]) ∧ Same H8 H' ∧ ∃ vs, H' L = some (.lst vs) ∧ All2 (ActV H') vs ((l.take i).map (ren f)))
      ⟨⟨none, none, rfl⟩, t3, [], upd_same, All2.nil⟩ (fun i σ H' _ p => .inl (.inl (p.2.1 _ _ eac8))) ?_ ?_
    · rintro i x σ H4' H4 hi ⟨⟨x7, x8, rfl⟩, s4, vs, eL, aL⟩ ⟨rfl, hx⟩
      obtain ⟨d, hd, pa, qa, ws, rfl, epa, eqa, aws⟩ := al8.get' hx
      have okd := ok.acts d (List.mem_of_getElem? hd)
      have wl : ws.length = d.2.length := aws.1
      have d5 := okd.len
      refine ⟨pa, _, rfl, .inl (.inl (s4 _ _ epa)), rfl, _, _, rfl, _, _, rfl, rfl, ?_⟩
      refine ⟨_, rfl, .inl ⟨rfl, vs, .inl (.inl eL)⟩, _, rfl, _, rfl, Nm, _, _, _, rfl, rfl, .inl (.inl (s4 _ _ eNm)), atI_nat (nmAt d.1 okd.s), _, rfl, qa, rfl, ⟨ws, .inl (.inl (s4 _ _ eqa))⟩, fun D hD => ?_⟩
      refine lcm walk_tup hD (Nat.le_trans (by omega : ws.length ≤ 5) (by decide)) (fun _ => true) (fun j y H' => ∃ o, d.2[j]? = some o ∧ OutV H' y { o with target := f o.target }) (fun j y H5 H6 s h => ?_) (fun H' s => .inl (.inl ((s4.trans s) _ _ eqa))) (fun j x H5' H5 kN kY hj s y kn ky => ?_) (fun H6 ys s6 e6 kp => ?_)
      · obtain ⟨o, ho, hv⟩ := h
        exact ⟨o, ho, hv.n s⟩
      · obtain ⟨rfl, hx⟩ := y
        obtain ⟨o, ho, bb, pb_, rfl, eb, epb⟩ := aws.get' hx
        have s5 := s4.trans s
        have oko := okd.outs o (List.mem_of_getElem? ho)
        refine ⟨rfl, yes ?_⟩
        refine ⟨_, rfl, bb, _, 0, _, rfl, rfl, .inl (.inl (s5 _ _ eb)), rfl, ?_⟩
        refine ⟨_, rfl, _, rfl, bb, _, 1, _, rfl, rfl, .inl (.inl (s5 _ _ eb)), rfl, Nm, _, _, _, rfl, rfl, .inl (.inl (s5 _ _ eNm)), atI_nat (nmAt o.target oko.t), ?_⟩
        refine ⟨by show 2 ≤ sizeLine; decide, fun t1 ht1 => ?_⟩
        have u1 := same_upd (o := .tup [V.int (o.odds : Int), .int (f o.target : Nat)]) ht1
        refine ⟨_, rfl, 2, rfl, bb, _, rfl, .inl (.inl (u1 _ _ (s5 _ _ eb))), fun h => absurd h.1 (by show ¬ (HT.sIx 4 0 (some 2) = 0); decide), fun _ p1 hp1 => ?_⟩
        rw [show cutV [V.int (o.odds : Int), .int (o.target : Int), .int (o.time : Int), .ref pb_] (some 2) none = [.int (o.time : Int), .ref pb_] from cut_hi _ 2 (by show 2 ≤ 4; omega)]
        have u2 := same_upd (o := .tup [V.int (o.time : Int), .ref pb_]) hp1
        refine ⟨t1, p1, _, _, rfl, rfl, .inl (.inl (u2 _ _ upd_same)), .inl (.inl upd_same), by show 4 ≤ sizeLine; decide, fun h => (nomatch h), fun _ h => (nomatch h), fun _ _ t2 ht2 => ?_⟩
        have u3 := same_upd (o := .tup ([V.int (o.odds : Int), .int (f o.target : Nat)] ++ [V.int (o.time : Int), .ref pb_])) ht2
        have u123 := u1.trans (u2.trans u3)
        exact ky _ _ u123 rfl ⟨o, ho, t2, pb_, rfl, by rw [upd_same]; rfl, (s5.trans u123) _ _ epb⟩
      · obtain ⟨l1, l2⟩ := kp.all
        have aO := outs_all (f := fun o => { o with target := f o.target }) (l1.trans wl) l2
        refine ⟨D, ys, rfl, .inl ⟨.inl (.inl e6), fun q2 hq2 => ?_⟩⟩
        have v1 := same_upd (o := .tup ys) hq2
        refine ⟨by show 2 ≤ sizeLine; decide, fun t3 ht3 => ?_⟩
        have v2 := same_upd (o := .tup [V.int (f d.1 : Nat), .ref q2]) ht3
        have s46 := s6.trans (v1.trans v2)
        refine ⟨L, vs, _, rfl, rfl, s46 _ _ eL, Nat.lt_of_le_of_lt (by rw [aL.1, List.length_map, List.length_take]; omega : vs.length ≤ 30) (by decide), ?_⟩
        obtain ⟨f1, f2⟩ := acts_push (d := ren f d) (v := .ref t3) (s4.trans s46) hL (s46 _ _ eL) (aL.imp fun x y z => z.n (same_n s46)) ⟨t3, q2, ys, rfl, upd_same, v2 _ _ upd_same, aO.imp fun x y z => z.n (same_n (v1.trans v2))⟩
        rw [← take_map_succ (ren f) hd] at f2
        exact ⟨⟨_, _, rfl⟩, f1, f2⟩
    · rintro σ H4 ⟨⟨x7, x8, rfl⟩, s4, vs, eL, aL⟩
      rw [ul, List.take_length] at aL
      have il : (intV g).length = g.length := List.length_map _
      have gl : g.length ≤ n := by
        have := nodup_len (l := g) (m := List.range n) (gp.imp fun h e => by omega) fun x hx => List.mem_range.mpr (gn x hx)
        rwa [List.length_range] at this
      refine ⟨_, rfl, _, rfl, 1, rfl, _, rfl, rfl, L, vs, rfl, .inl (.inl eL), fun pR hpR => ?_⟩
      have u1 := same_upd (o := .lst vs.reverse) hpR
      have epR : upd H4 pR (.lst vs.reverse) pR = some (.lst vs.reverse) := upd_same
      have aR : All2 (ActV (upd H4 pR (.lst vs.reverse))) vs.reverse (l.map (ren f)).reverse := by
        have h := aL.imp (S := ActV (upd H4 pR (.lst vs.reverse))) fun x y z => z.n (same_n u1)
        refine ⟨by rw [List.length_reverse, List.length_reverse]; exact h.1, fun i x y hx hy => ?_⟩
        have hi := (List.getElem?_eq_some_iff.mp hx).1
        rw [List.length_reverse] at hi
        rw [List.getElem?_reverse hi] at hx
        rw [List.getElem?_reverse (by rw [← h.1]; exact hi), ← h.1] at hy
        exact h.2 _ x y hx hy
      have pRa : pR ≠ a := (ga (p8.same s4) hpR).1
      generalize upd H4 pR (.lst vs.reverse) = H5 at u1 epR aR
      have s5 := s4.trans u1
      refine ⟨_, rfl, G, rfl, ⟨_, .inl (.inl (s5 _ _ eG8))⟩, fun D hD => ?_⟩
      refine lcm walk_tup hD (Nat.le_trans (by omega : (intV g).length ≤ 4) (by decide)) (fun _ => true) (fun j y _ => ∃ s, g[j]? = some s ∧ y = .int (f s : Nat)) (fun _ _ _ _ _ h => h) (fun H' s => .inl (.inl ((s5.trans s) _ _ eG8))) (fun j x H6' H6 kN kY hj s y kn ky => ?_) (fun H7 ys s7 e7 kp => ?_)
      · obtain ⟨rfl, hx⟩ := y
        unfold intV at hx
        rw [List.getElem?_map] at hx
        obtain ⟨s0, hs0, rfl⟩ := Option.map_eq_some_iff.mp hx
        have sn0 := gn s0 (List.mem_of_getElem? hs0)
        refine ⟨rfl, yes ⟨_, rfl, _, rfl, Nm, _, _, _, rfl, rfl, .inl (.inl ((s5.trans s) _ _ eNm)), atI_nat (nmAt s0 sn0), ?_⟩⟩
        exact ky _ _ (Same.refl _) rfl ⟨s0, hs0, rfl⟩
      · obtain ⟨l1, l2⟩ := kp.all
        have eys : ys = ((g.map f).map fun s : Nat => (s : Int)).map V.int := by
          apply List.ext_getElem?
          intro i
          rw [List.getElem?_map, List.getElem?_map, List.getElem?_map]
          by_cases hi : i < ys.length
          · obtain ⟨s0, hs0, e⟩ := l2 i _ (List.getElem?_eq_getElem hi)
            rw [List.getElem?_eq_getElem hi, e, hs0]
            rfl
          · rw [List.getElem?_eq_none (by omega), List.getElem?_eq_none (by omega)]
            rfl
        refine ⟨D, _, rfl, .inl (.inl (by rw [← eys]; exact e7)), fun ns' pS np nw hpS => ?_⟩
        have nd : (g.map f).Nodup := List.pairwise_map.mpr (gp.imp_of_mem fun {x y} hx hy h e => by
          have := congrArg b e
          rw [hb x (gn x hx), hb y (gn y hy)] at this
          omega)
        obtain ⟨g', eg', gp', gm'⟩ := sorted_nat np nw nd
        subst eg'
        have e8 : (g'.map fun s : Nat => (s : Int)).map V.int = intV g' := by unfold intV; rw [List.map_map]; rfl
        rw [e8]
        have v1 := same_upd (o := .lst (intV g')) hpS
        refine ⟨pS, _, rfl, .inl ⟨.inl (.inl upd_same), fun G' hG' => ?_⟩⟩
        have v2 := same_upd (o := .tup (intV g')) hG'
        refine ⟨_, rfl, by show 4 ≤ sizeLine; decide, fun t ht => ?_⟩
        have v3 := same_upd (o := .tup [V.int (n : Int), .ref pR, .ref G', .ref Nm]) ht
        have s57 := s7.trans (v1.trans (v2.trans v3))
        have sx : SameX a H _ := s1.trans (s8.trans (SameX.of (s5.trans s57)))
        refine k _ t sx ((p8.same (s5.trans s57)).le (by omega)) ⟨n, pR, vs.reverse, _, G', g', Nm, nm, upd_same, s57 _ _ epR, aR.imp fun x y z => z.n (same_n s57), pRa, ok_ren ok hf hbn hfb, by omega, v3 _ _ upd_same, gp', fun s hs => ?_, (s5.trans s57) _ _ eNm, na, nl, fun x hx => List.mem_range.mp (pm.mem_iff.mp hx), same_ren ok gn hf hb hbn hfb hnm (fun d' => ?_) fun t => ?_⟩
        · obtain ⟨s0, hs0, rfl⟩ := List.mem_map.mp ((gm' s).mp hs)
          exact hf s0 (gn s0 hs0)
        · rw [List.mem_reverse, List.mem_map]
          exact ⟨fun ⟨d, h1, h2⟩ => ⟨d, h1, h2.symm⟩, fun ⟨d, h1, h2⟩ => ⟨d, h1, h2.symm⟩⟩
        · rw [gm', List.mem_map]
          exact ⟨fun ⟨d, h1, h2⟩ => ⟨d, h1, h2.symm⟩, fun ⟨d, h1, h2⟩ => ⟨d, h1, h2.symm⟩⟩
  · -- each state twice
    refine ⟨Nat.zero_le _, fun L hL => ?_⟩
    obtain ⟨La, Lc_⟩ := ga p1 hL
    have t3 := same_upd (o := .lst []) hL
    refine ⟨_, rfl, ac, rfl, ⟨us, .inl (.inl (t3 _ _ eac1))⟩, ?_⟩
    refine for_it walk_list (fun i σ H' => (∃ x7 x8, σ = [some (.ref a), some (.int (n : Int)), some (.ref ac), some (.ref G), some (.int r), none, none, x7, x8, none, none, none, none, none, some (.ref L), none, none]) ∧ Same H1 H' ∧ ∃ vs, H' L = some (.lst vs) ∧ All2 (ActV H') vs ((l.take i).map (shift n)))
      ⟨⟨none, none, rfl⟩, t3, [], upd_same, All2.nil⟩ (fun i σ H' _ p => .inl (.inl (p.2.1 _ _ eac1))) ?_ ?_
    · rintro i x σ H4' H4 hi ⟨⟨x7, x8, rfl⟩, s4, vs, eL, aL⟩ ⟨rfl, hx⟩
      obtain ⟨d, hd, pa, qa, ws, rfl, epa, eqa, aws⟩ := al1.get' hx
      have okd := ok.acts d (List.mem_of_getElem? hd)
      have wl : ws.length = d.2.length := aws.1
      have d5 := okd.len
      refine ⟨pa, _, rfl, .inl (.inl (s4 _ _ epa)), rfl, _, _, rfl, _, _, rfl, rfl, ?_⟩
      refine ⟨_, rfl, .inl ⟨rfl, vs, .inl (.inl eL)⟩, _, rfl, _, rfl, qa, rfl, ⟨ws, .inl (.inl (s4 _ _ eqa))⟩, fun D hD => ?_⟩
      refine lcm walk_tup hD (Nat.le_trans (by omega : ws.length ≤ 5) (by decide)) (fun _ => true) (fun j y H' => ∃ o, d.2[j]? = some o ∧ OutV H' y { o with target := o.target + n }) (fun j y H5 H6 s h => ?_) (fun H' s => .inl (.inl ((s4.trans s) _ _ eqa))) (fun j x H5' H5 kN kY hj s y kn ky => ?_) (fun H6 ys s6 e6 kp => ?_)
      · obtain ⟨o, ho, hv⟩ := h
        exact ⟨o, ho, hv.n s⟩
      · obtain ⟨rfl, hx⟩ := y
        obtain ⟨o, ho, bb, pb_, rfl, eb, epb⟩ := aws.get' hx
        have s5 := s4.trans s
        refine ⟨rfl, yes ?_⟩
        refine ⟨_, rfl, bb, _, 0, _, rfl, rfl, .inl (.inl (s5 _ _ eb)), rfl, ?_⟩
        refine ⟨_, rfl, bb, _, 1, _, rfl, rfl, .inl (.inl (s5 _ _ eb)), rfl, _, rfl, _, _, rfl, rfl, ?_⟩
        refine ⟨by show 2 ≤ sizeLine; decide, fun t1 ht1 => ?_⟩
        have u1 := same_upd (o := .tup [V.int (o.odds : Int), .int ((o.target : Int) + (n : Int))]) ht1
        refine ⟨_, rfl, 2, rfl, bb, _, rfl, .inl (.inl (u1 _ _ (s5 _ _ eb))), fun h => absurd h.1 (by show ¬ (HT.sIx 4 0 (some 2) = 0); decide), fun _ p1 hp1 => ?_⟩
        rw [show cutV [V.int (o.odds : Int), .int (o.target : Int), .int (o.time : Int), .ref pb_] (some 2) none = [.int (o.time : Int), .ref pb_] from cut_hi _ 2 (by show 2 ≤ 4; omega)]
        have u2 := same_upd (o := .tup [V.int (o.time : Int), .ref pb_]) hp1
        refine ⟨t1, p1, _, _, rfl, rfl, .inl (.inl (u2 _ _ upd_same)), .inl (.inl upd_same), by show 4 ≤ sizeLine; decide, fun h => (nomatch h), fun _ h => (nomatch h), fun _ _ t2 ht2 => ?_⟩
        have u3 := same_upd (o := .tup ([V.int (o.odds : Int), .int ((o.target : Int) + (n : Int))] ++ [V.int (o.time : Int), .ref pb_])) ht2
        have u123 := u1.trans (u2.trans u3)
        exact ky _ _ u123 rfl ⟨o, ho, t2, pb_, rfl, by rw [upd_same]; rfl, (s5.trans u123) _ _ epb⟩
      · obtain ⟨l1, l2⟩ := kp.all
        have aO := outs_all (f := fun o => { o with target := o.target + n }) (l1.trans wl) l2
        refine ⟨D, ys, rfl, .inl ⟨.inl (.inl e6), fun q2 hq2 => ?_⟩⟩
        have v1 := same_upd (o := .tup ys) hq2
        refine ⟨by show 2 ≤ sizeLine; decide, fun t3 ht3 => ?_⟩
        have v2 := same_upd (o := .tup [V.int (d.1 : Int), .ref q2]) ht3
        have s46 := s6.trans (v1.trans v2)
        refine ⟨L, vs, _, rfl, rfl, s46 _ _ eL, Nat.lt_of_le_of_lt (by rw [aL.1, List.length_map, List.length_take]; omega : vs.length ≤ 30) (by decide), ?_⟩
        obtain ⟨f1, f2⟩ := acts_push (d := shift n d) (v := .ref t3) (s4.trans s46) hL (s46 _ _ eL) (aL.imp fun x y z => z.n (same_n s46)) ⟨t3, q2, ys, rfl, upd_same, v2 _ _ upd_same, aO.imp fun x y z => z.n (same_n (v1.trans v2))⟩
        rw [← take_map_succ (shift n) hd] at f2
        exact ⟨⟨_, _, rfl⟩, f1, f2⟩
    · rintro σ H4 ⟨⟨x7, x8, rfl⟩, s4, vs, eL, aL⟩
      rw [ul, List.take_length] at aL
      have vl : vs.length = l.length := by rw [aL.1, List.length_map]
      have il : (intV g).length = g.length := List.length_map _
      have gl : g.length ≤ n := by
        have := nodup_len (l := g) (m := List.range n) (gp.imp fun h e => by omega) fun x hx => List.mem_range.mpr (gn x hx)
        rwa [List.length_range] at this
      refine ⟨_, rfl, _, rfl, ac, rfl, ⟨us, .inl (.inl (s4 _ _ eac1))⟩, fun D hD => ?_⟩
      refine lcm walk_list hD (Nat.le_trans (by omega : us.length ≤ 12) (by decide)) (fun _ => true) (fun j y H' => ∃ d, l[j]? = some d ∧ ActV H' y (other n d)) (fun j y H5 H6 s h => ?_) (fun H' s => .inl (.inl ((s4.trans s) _ _ eac1))) (fun j x H5' H5 kN kY hj s y kn ky => ?_) (fun H6 ys s6 e6 kp => ?_)
      · obtain ⟨o, ho, hv⟩ := h
        exact ⟨o, ho, hv.n s⟩
      · obtain ⟨rfl, hx⟩ := y
        obtain ⟨d, hd, pa, qa, ws, rfl, epa, eqa, aws⟩ := al1.get' hx
        have s5 := s4.trans s
        refine ⟨pa, _, rfl, .inl (.inl (s5 _ _ epa)), rfl, _, _, rfl, _, _, rfl, rfl, rfl, yes ?_⟩
        refine ⟨_, rfl, _, rfl, _, _, rfl, rfl, _, rfl, by show 2 ≤ sizeLine; decide, fun t3 ht3 => ?_⟩
        have v := same_upd (o := .tup [V.int ((d.1 : Int) + (n : Int)), .ref qa]) ht3
        exact ky _ _ v rfl ⟨d, hd, t3, qa, ws, rfl, upd_same, (s5.trans v) _ _ eqa, aws.imp fun x y z => z.n (same_n (s5.trans v))⟩
      obtain ⟨l1, l2⟩ := kp.all
      have aY : All2 (ActV H6) ys (l.map (other n)) := all2_of (by rw [List.length_map]; omega) fun i y hy => by
        obtain ⟨d, hd, h⟩ := l2 i y hy
        exact ⟨other n d, by rw [List.getElem?_map, hd]; rfl, h⟩
      have s06 := s4.trans s6
      refine ⟨L, D, vs, ys, rfl, rfl, s6 _ _ eL, e6, Nat.le_trans (by omega : vs.length + ys.length ≤ 24) (by decide), fun M hM => ?_⟩
      have u1 := same_upd (o := .lst (vs ++ ys)) hM
      have eM : upd H6 M (.lst (vs ++ ys)) M = some (.lst (vs ++ ys)) := upd_same
      have aM : All2 (ActV (upd H6 M (.lst (vs ++ ys)))) (vs ++ ys) (l.map (shift n) ++ l.map (other n)) := all2_append (aL.imp fun x y z => z.n (same_n (s6.trans u1))) (aY.imp fun x y z => z.n (same_n u1))
      have Ma : M ≠ a := (ga (p1.same s06) hM).1
      generalize upd H6 M (.lst (vs ++ ys)) = H7 at u1 eM aM
      have s7 := s06.trans u1
      clear u1 s6 e6 kp aY aL eL hM hD l2 s4 s06 t3 hL
      refine ⟨_, rfl, _, _, rfl, rfl, mulx (a := 10) (b := 10) (by decide) (by show ((n : Nat) : Int).natAbs ≤ 2 ^ 10; omega) (by omega), _, rfl, _, rfl, _, rfl, G, rfl, ⟨_, .inl (.inl (s7 _ _ eG1))⟩, fun D2 hD2 => ?_⟩
      refine lcm walk_tup hD2 (Nat.le_trans (by omega : (intV g).length ≤ 4) (by decide)) (fun _ => true) (fun j y _ => ∃ s, g[j]? = some s ∧ y = .int ((s + n : Nat) : Int)) (fun _ _ _ _ _ h => h) (fun H' s => .inl (.inl ((s7.trans s) _ _ eG1))) (fun j x H6' H6 kN kY hj s y kn ky => ?_) (fun H8 ys2 s8 e8 kp => ?_)
      · obtain ⟨rfl, hx⟩ := y
        unfold intV at hx
        rw [List.getElem?_map] at hx
        obtain ⟨s0, hs0, rfl⟩ := Option.map_eq_some_iff.mp hx
        refine ⟨rfl, yes ⟨_, rfl, _, rfl, _, _, rfl, rfl, ?_⟩⟩
        exact ky _ _ (Same.refl _) rfl ⟨s0, hs0, rfl⟩
      obtain ⟨l1, l2⟩ := kp.all
      have eys : ys2 = intV (g.map (· + n)) := by
        apply List.ext_getElem?
        intro i
        unfold intV
        rw [List.getElem?_map, List.getElem?_map]
        by_cases hi : i < ys2.length
        · obtain ⟨s0, hs0, e⟩ := l2 i _ (List.getElem?_eq_getElem hi)
          rw [List.getElem?_eq_getElem hi, e, hs0]
          rfl
        · rw [List.getElem?_eq_none (by omega), List.getElem?_eq_none (by omega)]
          rfl
      subst eys
      have gp2 : (g ++ g.map (· + n)).Pairwise (· < ·) := by
        refine List.pairwise_append.mpr ⟨gp, List.pairwise_map.mpr (gp.imp fun {x y} h => by show x + n < y + n; omega), fun x hx y hy => ?_⟩
        obtain ⟨z, hz, rfl⟩ := List.mem_map.mp hy
        have := gn x hx
        show x < z + n
        omega
      have gn2 : ∀ s ∈ g ++ g.map (· + n), s < 2 * n := fun s hs => by
        rcases List.mem_append.mp hs with z | z
        · have := gn s z; omega
        · obtain ⟨z2, hz, rfl⟩ := List.mem_map.mp z
          have := gn z2 hz
          show z2 + n < 2 * n
          omega
      refine ⟨D2, _, rfl, .inl ⟨.inl (.inl e8), fun p3 hp3 => ?_⟩⟩
      have v1 := same_upd (o := .tup (intV (g.map (· + n)))) hp3
      have ep3 : upd H8 p3 (.tup (intV (g.map (· + n)))) p3 = some (.tup (intV (g.map (· + n)))) := upd_same
      generalize upd H8 p3 (.tup (intV (g.map (· + n)))) = H9 at v1 ep3
      have s9 := s7.trans (s8.trans v1)
      have s79 := s8.trans v1
      have appV : intV g ++ intV (g.map (· + n)) = intV (g ++ g.map (· + n)) := by unfold intV; rw [List.map_append]
      refine ⟨G, p3, intV g, intV (g.map (· + n)), rfl, rfl, .inl (.inl (s9 _ _ eG1)), .inl (.inl ep3), Nat.le_trans (by rw [il]; unfold intV; rw [List.length_map, List.length_map]; omega : (intV g).length + (intV (g.map (· + n))).length ≤ 8) (by decide), fun hg0 => ?_, fun hg0 hg1 => ?_, fun _ _ p4 hp4 => ?_⟩
      · have g0 : g = [] := List.map_eq_nil_iff.mp hg0
        refine ⟨_, rfl, (n : Int), rfl, RgOk.of_le (by omega) (by omega) (by omega) (by omega), fun N0 hN0 => ?_⟩
        rw [rgV0]
        have w1 := same_upd (o := .lst (intV (List.range n))) hN0
        have N0a : N0 ≠ a := (ga (p1.same s9) hN0).1
        refine ⟨by show 4 ≤ sizeLine; decide, fun t ht => ?_⟩
        have w2 := same_upd (o := .tup [V.int (2 * (n : Int)), .ref M, .ref p3, .ref N0]) ht
        have w12 := w1.trans w2
        have sx : SameX a H _ := s1.trans (SameX.of (s9.trans w12))
        exact k _ t sx ((p1.same (s9.trans w12)).le (by omega)) ⟨2 * n, M, vs ++ ys, _, p3, g ++ g.map (· + n), N0, _, upd_same, (s79.trans w12) _ _ eM, aM.imp fun x y z => z.n (same_n (s79.trans w12)), Ma, ok_twice ok n4 l12, by omega, by rw [← appV, hg0]; exact w12 _ _ ep3, gp2, gn2, w2 _ _ upd_same, N0a, List.length_range, fun x hx => by (have := List.mem_range.mp hx; omega), same_twice ok gn⟩
      · exfalso
        apply hg0
        have := List.map_eq_nil_iff.mp (List.map_eq_nil_iff.mp hg1)
        rw [this]
        rfl
      · rw [appV]
        have w0 := same_upd (o := .tup (intV (g ++ g.map (· + n)))) hp4
        refine ⟨_, rfl, (n : Int), rfl, RgOk.of_le (by omega) (by omega) (by omega) (by omega), fun N0 hN0 => ?_⟩
        rw [rgV0]
        have w1 := same_upd (o := .lst (intV (List.range n))) hN0
        have N0a : N0 ≠ a := (ga (p1.same (s9.trans w0)) hN0).1
        refine ⟨by show 4 ≤ sizeLine; decide, fun t ht => ?_⟩
        have w2 := same_upd (o := .tup [V.int (2 * (n : Int)), .ref M, .ref p4, .ref N0]) ht
        have w02 := w0.trans (w1.trans w2)
        have sx : SameX a H _ := s1.trans (SameX.of (s9.trans w02))
        exact k _ t sx ((p1.same (s9.trans w02)).le (by omega)) ⟨2 * n, M, vs ++ ys, _, p4, g ++ g.map (· + n), N0, _, upd_same, (s79.trans w02) _ _ eM, aM.imp fun x y z => z.n (same_n (s79.trans w02)), Ma, ok_twice ok n4 l12, by omega, (w1.trans w2) _ _ upd_same, gp2, gn2, w2 _ _ upd_same, N0a, List.length_range, fun x hx => by (have := List.mem_range.mp hx; omega), same_twice ok gn⟩
end
end Lc
set_option Elab.async false
set_option linter.all false
set_option maxRecDepth 100000
set_option maxHeartbeats 4000000
namespace Lc
open PySem PySem.Spec PyProof.Rows L2 LcR
open LC (Sz)
theorem same_mk {H H' : Hp} {x dx : Addr} {o1 o2 : HO} (hx : H x = none) (hdx : H dx = none) (ne : dx ≠ x) (s : SameX x (upd (upd H dx o1) x o2) H') : Same H H' := fun b o hb =>
  s b o (ne_of_none hb hx) (by rw [upd_ne (ne_of_none hb hx), upd_ne (ne_of_none hb hdx)]; exact hb)
theorem asc_pw {g : List Nat} (h : g.Pairwise (· < ·)) : Asc g := fun i x y hx hy => by
  obtain ⟨h1, rfl⟩ := List.getElem?_eq_some_iff.mp hx
  obtain ⟨h2, rfl⟩ := List.getElem?_eq_some_iff.mp hy
  exact List.pairwise_iff_getElem.mp h i (i + 1) h1 h2 (by omega)
section
variable {P : Program} {w : World} {K : PySem.W.Frag} {mg : Str → Option Value} {base : Heap}
/-- a tuple of numbers -/
def NumT (K : PySem.W.Frag) (H : Hp) (a : Addr) (q : List Rat) : Prop := ∃ us, H a = some (.tup us) ∧ All2 (IsR K H) us q
theorem NumT.n {K : PySem.W.Frag} {H H' : Hp} {a : Addr} {q : List Rat} (h : NumT K H a q) (s : SameN H H') : NumT K H' a q := by
  obtain ⟨us, e, al⟩ := h
  exact ⟨us, s _ _ e trivial, al.imp fun x y z => z.n s⟩
def sp_law_numbers (K : PySem.W.Frag) : Sp := fun vs H Q _ => ∃ (n : Nat) (v : V) (l : List ActD) (u : V) (g : List Nat), vs = [.int (n : Int), v, u] ∧ ActsL H v l ∧ OkActs n l ∧ n ≤ 8 ∧ GoalV K H u g ∧ g.Pairwise (· < ·) ∧ (∀ s ∈ g, s < n) ∧
  ∀ H' ta q, Same H H' → NumT K H' ta q → Top n l g q → Q (.ref ta) H'
theorem c_law_numbers (T : Tx K mg) : C8.Cal P w K mg base 10 "_law_numbers" (sp_law_numbers K) [] := by
  obtain ⟨fd, F⟩ := T.f_law_numbers
  refine calD F T.g_law_numbers sc_law_numbers (fun _ _ _ _ _ _ us hl => match us, hl with | [_, _, _], _ => rfl) (fun vs H Q E h => ?_) (fun cdv A outer s H vs Q E hr h => ?_)
  · obtain ⟨_, _, _, _, _, rfl, _⟩ := h; rfl
  obtain ⟨n, v, l, u, g, rfl, ⟨ac, us, rfl, eac, al⟩, ok, n8, ⟨G, rfl, eG⟩, gp, gn, k⟩ := h
  refine ⟨_, (pss_one (ps_ret (pe_fld (C8.pe_c (c_greatest_coming T) hr (by decide) (by rfl) (pa_cons (C8.pe_mk (c_House_4 T) hr (by decide) (by rfl) (pa_cons (pv 0) (pa_cons pe_int (pa_cons (pe_tup (pa_cons pe_str pa_nil)) (pa_cons (pe_callTy call_tuple_of (by rfl) T.b_tuple (by decide +kernel) (pa_cons (pv 1) pa_nil)) pa_nil))))) (pa_cons (pv 2) pa_nil))) rfl))), ?_⟩
  refine ⟨_, rfl, by show 1 ≤ sizeLine; decide, fun m hm => ?_⟩
  refine ⟨_, rfl, ac, us, rfl, .inl ⟨.inl (.inl (same_upd hm _ _ eac)), fun ta hta => ?_⟩⟩
  have t5 := (same_upd (o := .tup [.str "x"]) hm).trans (same_upd (o := .tup us) hta)
  have em : upd (upd H m (.tup [.str "x"])) ta (.tup us) m = some (.tup [.str "x"]) := same_upd hta _ _ upd_same
  have eta : upd (upd H m (.tup [.str "x"])) ta (.tup us) ta = some (.tup us) := upd_same
  generalize upd (upd H m (.tup [.str "x"])) ta (.tup us) = H5 at t5 em eta
  refine fun x dx hx hdx ne => ?_
  have s6 := same_made (o := .ins (CHouse K) dx []) hx hdx
  refine ⟨n, x, dx, m, .ref ta, l, rfl, upd_same, s6 _ _ em, ⟨ta, us, rfl, s6 _ _ eta, al.imp fun x y z => z.n (same_n (t5.trans s6))⟩, ok, fun H6 sx hv _ => ⟨rfl, ?_⟩⟩
  have s46 : Same H H6 := t5.trans (same_mk hx hdx ne sx)
  refine ⟨_, rfl, .ref x, n, l, .ref G, g, rfl, hv, ok, n8, ⟨G, rfl, s46 _ _ eG⟩, asc_pw gp, gn, fun H10 vc tq pk1 rk1 s10 cv gs => ?_⟩
  obtain ⟨xc, dxc, ta, tb, tc, us2, rfl, exc, eta, alt, _, _⟩ := cv
  refine ⟨xc, _, dxc, _, _, rfl, exc, T.cl_Coming, T.na_Coming_numbers, rfl, ?_⟩
  exact k H10 ta tq (s46.trans s10) ⟨us2, eta, alt⟩ (gs.top ok)
end
end Lc
set_option Elab.async false
set_option linter.all false
set_option maxRecDepth 100000
set_option maxHeartbeats 4000000
namespace L2
open PySem PySem.Spec PyProof.Rows
/-- the reading of tuple(x) -/
def rTupleOf (K : PySem.W.Frag) : List V → Hp → VK → Prop := fun xs H Q => ∃ p ys, xs = [V.ref p] ∧ ((SqL K H p ys ∧ ∀ l : Addr, H l = none → Q (V.ref l) (upd H l (HO.tup ys))) ∨ SqT K H p ys ∧ Q (V.ref p) H)
/-- set(t), a tuple of ints -/
def rSetI (w : World) (K : PySem.W.Frag) : List V → Hp → VK → Prop := fun xs H Q => ∃ (a : Addr) (ns : List Int), xs = [V.ref a] ∧ SqT K H a (ns.map V.int) ∧ ns.length ≤ 50 ∧
  ∀ p c, H p = none → c ≤ ns.length → Q (.ref p) (upd H p (SetO w p (fun j => decide (j ∈ ns)) c))
section
variable {X : Cx}
theorem cr_setI (hc : X.calm = true) : CallR X (.type "set") (rSetI X.w X.K) := by
  intro pins s σ H xs us Q I r h
  obtain ⟨a, ns, rfl, hs, hl, q⟩ := h
  obtain ⟨its, rv, pt, hz⟩ := I.tuple hs
  rw [Vals.ref1 r]
  have hi : IntsAre its.toArray.toList ns := by
    have := rv.ints
    simpa using this
  refine call_set_tupI ns (I.ok.hd hc) (show s.heap.IsTuple a its.toArray from pt) hi (by unfold scanBound; omega) fun h' tk c R1 hcn k => ?_
  exact ⟨.ref _, upd H s.heap.objs.size (SetO X.w s.heap.objs.size (fun j => decide (j ∈ ns)) c), I.laid (t' := tk) (fun b u e => k b u e) (Nat.le_refl _) (setO_new R1), rfl, q _ c (I.hok.fresh (Nat.le_refl _)) hcn⟩
end
end L2
set_option Elab.async false
set_option linter.all false
set_option maxRecDepth 100000
set_option maxHeartbeats 4000000
namespace LcZ
open PySem PySem.Spec PyProof.Rows L2
/-! ### zip of two lists and a tuple, of one length -/
def Itz3 (K : PySem.W.Frag) (a b c : Addr) : It :=
  ⟨fun i H => ∃ (xs ys zs : List V) (x y z : V), SqL K H a xs ∧ SqL K H b ys ∧ SqT K H c zs ∧ xs[i]? = some x ∧ ys[i]? = some y ∧ zs[i]? = some z,
    fun i H v H' => ∃ T x y z, v = .ref T ∧ H T = none ∧ H' = upd H T (.tup [x, y, z]) ∧ (∀ xs, SqL K H a xs → xs[i]? = some x) ∧ (∀ ys, SqL K H b ys → ys[i]? = some y) ∧ ∀ zs, SqT K H c zs → zs[i]? = some z,
    fun i H => ∃ xs ys zs : List V, SqL K H a xs ∧ SqL K H b ys ∧ SqT K H c zs ∧ xs.length = i ∧ ys.length = i ∧ zs.length = i⟩
theorem turn_zip3 {P : Program} {w : World} {K : PySem.W.Frag} {elts : List Expr} {kk : Nat} {tpos : Pos} {a b c z TI TO i1 i2 i3 : Addr} (S : ZipSep3 z TI TO i1 i2 i3 [i1, a] [i2, b] [i3, c]) (n1 : a ≠ i1) (n2 : b ≠ i2) (n3 : c ≠ i3) :
    Turn P w K (.Tuple elts kk tpos) (Itz3 K a b c) [z, TI, TO, i1, i2, i3] z (fun i h => IsZip h z TI TO .none ∧ IsTupOf3 h TI (.ref i1) (.ref i2) (.ref i3) ∧ (∃ x y q, IsTupOf3 h TO x y q) ∧ h.IsListIter i1 a i ∧ h.IsListIter i2 b i ∧ h.IsTupleIter i3 c i) where
  mem := by simp
  obj := fun i h st d hd => by
    obtain ⟨hz, hTI, ⟨x, y, q, hTO⟩, ⟨o1, e1, _, d1⟩, ⟨o2, e2, _, d2⟩, ⟨o3, e3, _, d3⟩⟩ := st
    have e' : d = z ∨ d = TI ∨ d = TO ∨ d = i1 ∨ d = i2 ∨ d = i3 := by simpa using hd
    rcases e' with q | q | q | q | q | q
    · rw [q]; exact ⟨_, hz, fun v q => nomatch q⟩
    · rw [q]; exact ⟨_, hTI, fun v q => nomatch q⟩
    · rw [q]; exact ⟨_, hTO, fun v q => nomatch q⟩
    · rw [q]; exact ⟨o1, e1, fun v q => by rw [d1] at q; cases q⟩
    · rw [q]; exact ⟨o2, e2, fun v q => by rw [d2] at q; cases q⟩
    · rw [q]; exact ⟨o3, e3, fun v q => by rw [d3] at q; cases q⟩
  keep := fun i h h' st k => by
    obtain ⟨hz, hTI, ⟨x, y, q, hTO⟩, h1, h2, h3⟩ := st
    exact ⟨k z (by simp) _ hz, k TI (by simp) _ hTI, ⟨x, y, q, k TO (by simp) _ hTO⟩, h1.at fun o q => k i1 (by simp) o q, h2.at fun o q => k i2 (by simp) o q, h3.at fun o q => k i3 (by simp) o q⟩
  item := by
    intro X hP hw hK hc i pins s σ H E I hf st hg
    subst hP hw hK
    obtain ⟨hz, hTI, ⟨x0, y0, q0, hTO⟩, h1, h2, h3⟩ := st
    obtain ⟨xs, ys, zs, x, y, q, hqx, hqy, hqz, hx, hy, hq⟩ := hg
    obtain ⟨its, rv, p, _⟩ := I.list hqx
    obtain ⟨its2, rv2, p2, _⟩ := I.list hqy
    obtain ⟨its3, rv3, p3, _⟩ := I.tuple hqz
    obtain ⟨u, hu, ru⟩ := rv.get hx
    obtain ⟨u2, hu2, ru2⟩ := rv2.get hy
    obtain ⟨u3, hu3, ru3⟩ := rv3.get hq
    have hzl : z < s.heap.objs.size := Heap.lt_size hz
    have hh := I.ok.hd hc
    have D1 := Draws.list (prog := X.prog) (w := X.w) (A := X.A.in1) hh i1 a n1 its.toArray
    have D2 := Draws.list (prog := X.prog) (w := X.w) (A := X.A.in1) hh i2 b n2 its2.toArray
    have D3 := Draws.tuple (prog := X.prog) (w := X.w) (A := X.A.in1) hh i3 c n3 its3.toArray
    have lt : ∀ {us : List Value} {v : Value}, us[i]? = some v → i < us.toArray.size := fun {us v} e => by
      have := (List.getElem?_eq_some_iff.mp e).1
      simpa using this
    refine wpAny_pyNext_zipD3_item S D1 D2 D3 hz hTI hTO ⟨h1, p.isList⟩ ⟨h2, p2.isList⟩ ⟨h3, p3⟩ (lt hu) (lt hu2) (lt hu3) fun v1 v2 v3 h' tk g1 g2 g3 z' TO' t1 t2 t3 hT hsz hk => ?_
    have e1 : v1 = u := by have : its[i]? = some v1 := by simpa using g1
                           rw [hu] at this; exact (Option.some.inj this).symm
    have e2 : v2 = u2 := by have : its2[i]? = some v2 := by simpa using g2
                            rw [hu2] at this; exact (Option.some.inj this).symm
    have e3 : v3 = u3 := by have : its3[i]? = some v3 := by simpa using g3
                            rw [hu3] at this; exact (Option.some.inj this).symm
    subst e1 e2 e3
    refine ⟨_, rfl, wpAny_letOwnedTupleGo_zip (s := { s with heap := h', toks := tk }) z' fun h'' z'' sb => ?_⟩
    have hT2 : h''.get? s.heap.objs.size = some { cls := .type "tuple", data := .seq #[v1, v2, v3] } := (sb.2 _ (Nat.ne_of_gt hzl)).trans hT
    have new : ObjOk X.prog X.w (upd H s.heap.objs.size (.tup [x, y, q])) h'' s.heap.objs.size (.tup [x, y, q]) :=
      ⟨by show 3 ≤ sizeLine; decide, [v1, v2, v3], .cons ru (.cons ru2 (.cons ru3 .nil)), ⟨_, hT2, rfl, _, rfl⟩⟩
    have I1 : Inv X pins σ (upd H s.heap.objs.size (.tup [x, y, q])) { s with heap := h'', toks := tk } :=
      I.turnedNew (t' := tk) (ch := [z, TI, TO, i1, i2, i3]) (fun d o hb q => (sb.2 d (fun q' => hb (by simp [q']))).trans (hk d o (fun q' => hb (by simp [q'])) (fun q' => hb (by simp [q'])) (fun q' => hb (by simp [q'])) (fun q' => hb (by simp [q'])) (fun q' => hb (by simp [q'])) q)) hf (Nat.le_refl _) new
    refine ⟨.ref s.heap.objs.size, _, I1, rfl, ⟨_, x, y, q, rfl, I.hok.fresh (Nat.le_refl _), rfl, fun l hl => by rw [I.list_inj hl hqx]; exact hx, fun l hl => by rw [I.list_inj hl hqy]; exact hy, fun l hl => by rw [I.tuple_inj hl hqz]; exact hq⟩, ⟨z'', ?_, ⟨v1, v2, v3, ?_⟩, ?_, ?_, ?_⟩, fun d hdm => ?_⟩
    · exact (sb.2 _ S.TIz).trans (hk _ _ S.TIz S.TITO S.TIi1 S.TIi2 S.TIi3 hTI)
    · exact (sb.2 _ S.TOz).trans TO'
    · exact t1.1.at fun o q => (sb.2 _ (Ne.symm S.zi1)).trans q
    · exact t2.1.at fun o q => (sb.2 _ (Ne.symm S.zi2)).trans q
    · exact t3.1.at fun o q => (sb.2 _ (Ne.symm S.zi3)).trans q
    · have hlt : d < s.heap.objs.size := by
        have e' : d = z ∨ d = TI ∨ d = TO ∨ d = i1 ∨ d = i2 ∨ d = i3 := by simpa using hdm
        rcases e' with q | q | q | q | q | q
        · rw [q]; exact hzl
        · rw [q]; exact Heap.lt_size hTI
        · rw [q]; exact Heap.lt_size hTO
        · rw [q]; obtain ⟨_, e1, _⟩ := h1; exact Heap.lt_size e1
        · rw [q]; obtain ⟨_, e2, _⟩ := h2; exact Heap.lt_size e2
        · rw [q]; obtain ⟨_, e3, _⟩ := h3; exact Heap.lt_size e3
      rw [upd_ne (Nat.ne_of_lt hlt)]
      exact (hf d hdm).1
  done := by
    intro X hP hw hK hc i pins s σ H E I hf st hg
    subst hP hw hK
    obtain ⟨hz, hTI, ⟨x0, y0, q0, hTO⟩, h1, h2, h3⟩ := st
    obtain ⟨xs, ys, zs, hqx, hqy, hqz, l1, l2, l3⟩ := hg
    obtain ⟨its, rv, p, _⟩ := I.list hqx
    obtain ⟨its2, rv2, p2, _⟩ := I.list hqy
    obtain ⟨its3, rv3, p3, _⟩ := I.tuple hqz
    have m1 := rv.length
    have m2 := rv2.length
    have m3 := rv3.length
    have hh := I.ok.hd hc
    have D1 := Draws.list (prog := X.prog) (w := X.w) (A := X.A.in1) hh i1 a n1 its.toArray
    have D2 := Draws.list (prog := X.prog) (w := X.w) (A := X.A.in1) hh i2 b n2 its2.toArray
    have D3 := Draws.tuple (prog := X.prog) (w := X.w) (A := X.A.in1) hh i3 c n3 its3.toArray
    refine wpAny_pyNext_zipD3_end S D1 D2 D3 hz hTI hTO ⟨h1, p.isList⟩ ⟨h2, p2.isList⟩ ⟨h3, p3⟩ (by simp; omega) (by simp; omega) (by simp; omega) (.inl (by simp; omega)) fun h' tk hk => ⟨rfl, I.turnedL (t' := tk) (ch := [z, TI, TO, i1, i2, i3]) (fun d o hb q =>
      hk d o (fun q' => hb (by simp [q'])) (fun q' => hb (by simp [q'])) (fun q' => hb (by simp [q'])) (fun q' => hb (by simp [q'])) (fun q' => hb (by simp [q'])) q) hf⟩
  self := fun A i s Q E st h => wpAny_pyIter_zip st.1 h
def iZip3 (K : PySem.W.Frag) (ta : TA) : TI := fun σ H R => ta σ H fun vs H1 => ∃ a b c xs ys zs, vs = [.ref a, .ref b, .ref c] ∧ SqL K H1 a xs ∧ SqL K H1 b ys ∧ SqT K H1 c zs ∧ R (Itz3 K a b c) H1
theorem pi_zip3 {X : Cx} {e e2 e3 : Expr} {ta : TA} {p pos tpos : Pos} {elts : List Expr} {kk : Nat} (hg : Gl X "zip") (hm : X.mg "zip" = none) (ha : PA X [e, e2, e3] ta)
    (hs : starEach [e, e2, e3] X.env = (false, eval e X.env) :: starEach [e2, e3] X.env := by rfl) (hpl : (backTo pos (starEach [e2, e3] X.env)).any (·.1) = false := by rfl) :
    PI X (.Tuple elts kk tpos) (.Call (.Name "zip" p) [e, e2, e3] [] pos) (iZip3 X.K ta) := by
  refine ⟨fun pins s σ H R I h => ?_⟩
  refine Call_ (ld_blt I hg hm PyProof.Rows.boot_zip (PyProof.Rows.callWith_type1 (thn (ha.run pos pins s σ H _ I h) fun us s1 ⟨vs, H1, I1, r1, q1⟩ => ?_) hs hpl))
  obtain ⟨a, b, c, xs, ys, zs, ex, hqx, hqy, hqz, q⟩ := q1
  subst ex
  cases r1 with
  | cons r rr =>
    cases rr with
    | cons r' rr =>
      cases rr with
      | cons r'' rr =>
        cases rr
        cases r
        cases r'
        cases r''
        obtain ⟨its, rv, p1, _⟩ := I1.list hqx
        obtain ⟨its2, rv2, p2, _⟩ := I1.list hqy
        obtain ⟨its3, rv3, p3, _⟩ := I1.tuple hqz
        have la : a < s1.heap.objs.size := p1.lt
        have lb : b < s1.heap.objs.size := p2.lt
        have lc : c < s1.heap.objs.size := by obtain ⟨o, ho, _⟩ := p3; exact Heap.lt_size ho
        refine zip_begins3 (begins_list a its.toArray) (begins_list b its2.toArray) (begins_tuple c its3.toArray) p1.isList p2.isList p3 fun h' hz hTI hTO h1 h2 h3 hsz hk => wpAny_pyIter_zip hz ?_
        have I2 : Inv X pins σ H1 { s1 with heap := h' } := I1.kept (t' := s1.toks) hk
        refine ⟨s1.heap.objs.size + 5, [s1.heap.objs.size + 5, s1.heap.objs.size + 3, s1.heap.objs.size + 4, s1.heap.objs.size, s1.heap.objs.size + 1, s1.heap.objs.size + 2], _, _, H1, rfl, I2,
          turn_zip3 (zip_sep3 (N := s1.heap.objs.size) (fp1 := [a]) (fp2 := [b]) (fp3 := [c]) (fun d hd => by rw [List.mem_singleton.mp hd]; exact la) (fun d hd => by rw [List.mem_singleton.mp hd]; exact lb) (fun d hd => by rw [List.mem_singleton.mp hd]; exact lc)) (Nat.ne_of_lt la) (Nat.ne_of_lt (Nat.lt_succ_of_lt lb)) (Nat.ne_of_lt (Nat.lt_succ_of_lt (Nat.lt_succ_of_lt lc))),
          ⟨hz, hTI, ⟨_, _, _, hTO⟩, ⟨_, h1, rfl, rfl⟩, ⟨_, h2, rfl, rfl⟩, ⟨_, h3, rfl, rfl⟩⟩, fun d hdm => ?_, q⟩
        have e' : d = s1.heap.objs.size + 5 ∨ d = s1.heap.objs.size + 3 ∨ d = s1.heap.objs.size + 4 ∨ d = s1.heap.objs.size ∨ d = s1.heap.objs.size + 1 ∨ d = s1.heap.objs.size + 2 := by simpa using hdm
        have hle : s1.heap.objs.size ≤ d := by
          rcases e' with z | z | z | z | z | z
          · rw [z]; exact Nat.le_add_right _ _
          · rw [z]; exact Nat.le_add_right _ _
          · rw [z]; exact Nat.le_add_right _ _
          · rw [z]; exact Nat.le_refl _
          · rw [z]; exact Nat.le_add_right _ _
          · rw [z]; exact Nat.le_add_right _ _
        exact I1.fpOk hle (I1.hok.fresh hle)
/-- a new triple -/
def YTri (xs ys zs : Nat → Option V) : Nat → Hp → V → Hp → Prop := fun i H v H' => ∃ T x y z, v = .ref T ∧ H T = none ∧ H' = upd H T (.tup [x, y, z]) ∧ xs i = some x ∧ ys i = some y ∧ zs i = some z
theorem walk_zip3 {K : PySem.W.Frag} {a b c : Addr} {xs ys zs : List V} {n : Nat} (l1 : xs.length = n) (l2 : ys.length = n) (l3 : zs.length = n) : Walk (Itz3 K a b c) n (fun H => SqL K H a xs ∧ SqL K H b ys ∧ SqT K H c zs) (YTri (fun i => xs[i]?) (fun i => ys[i]?) (fun i => zs[i]?)) := by
  refine ⟨fun i H hi q => ⟨xs, ys, zs, xs[i], ys[i], zs[i], q.1, q.2.1, q.2.2, List.getElem?_eq_getElem (by omega), List.getElem?_eq_getElem (by omega), List.getElem?_eq_getElem (by omega)⟩, fun H q => ⟨xs, ys, zs, q.1, q.2.1, q.2.2, l1, l2, l3⟩, fun i H v H' _ q y => ?_⟩
  obtain ⟨T, x, y, z, h1, h2, h3, h4, h5, h6⟩ := y
  exact ⟨T, x, y, z, h1, h2, h3, h4 xs q.1, h5 ys q.2.1, h6 zs q.2.2⟩
end LcZ
set_option Elab.async false
set_option linter.all false
set_option maxRecDepth 100000
set_option maxHeartbeats 4000000
/-! tuple != tuple where each item is seen to be equal, by code of the text -/
namespace LcN
open PySem PySem.Calls PySem.Spec PyProof.Rows
open AutoSeq1 (wpAny_loadPart')
open MeetsSeq MeetsSeq2 MeetsSeq3 SeqRoads2
section
variable {prog : Program} {w : World} {A : Around} {R : Result → Shared → Prop}
theorem tuple_neG (l b : Addr) (items items2 : Array Value) (n n2 : Nat) (dd dd2 : Option Addr) (sl sl2 : Array (Option Value)) (hsz : items.size = items2.size) (I : Nat → Shared → Prop)
    (turn : ∀ i (h1 : i < items.size) (h2 : i < items2.size) s, I i s → wpAny (model prog w) A.in1 (eqBool items[i] items2[i]) (fun r s' => r = true ∧ I (i + 1) s') (fun e s' => R (.error e) s') s)
    (fin : ∀ s, I items.size s → R (.ok (.ret (.bool false))) s) {s : Shared} (hl1 : s.heap.get? l = some { cls := .type "tuple", dict := dd, data := .seq items n, slots := sl }) (hb1 : s.heap.get? b = some { cls := .type "tuple", dict := dd2, data := .seq items2 n2, slots := sl2 }) (h : I 0 s) :
    wpAny (model prog w) A.in1 (Builtin.«tuple.__ne__» ⟨[.ref l, .ref b], []⟩) (GQ.FinOf prog w A R) (fun e s' => R (.error e) s') s := by
  have f2 := AutoSeq1.sub_tuple_tuple
  have hZ : (items.toList.zip items2.toList).length = items.size := by simp [hsz]
  have h0 := h
  obtain ⟨hp, g, d, tk, os⟩ := s
  wp_walk using wpAny_loadPart' hl1, wpAny_loadPart' hb1, wpAny_forIn_list _ (fun rest b s' => b.1 = none ∧ ∃ i, rest = (items.toList.zip items2.toList).drop i ∧ i ≤ items.size ∧ I i s') _
  case turn =>
    rintro ⟨y, x⟩ rest b s' ⟨hb', i, hz, hi, hI⟩
    have hlt : i < (items.toList.zip items2.toList).length := Nat.lt_of_not_le fun h' => by
      rw [List.drop_of_length_le h'] at hz
      cases hz
    have h1 : i < items.size := hZ ▸ hlt
    have h2 : i < items2.size := hsz ▸ h1
    rw [List.drop_eq_getElem_cons hlt] at hz
    injection hz with hyx hrest
    obtain rfl : y = items[i] := by simpa using congrArg Prod.fst hyx
    obtain rfl : x = items2[i] := by simpa using congrArg Prod.snd hyx
    refine wpAny_bind (wpAny_mono (turn i h1 h2 s' hI) (fun r s2 q2 => ?_) fun _ _ x => x)
    obtain ⟨hr, q2⟩ := q2
    subst hr
    wp_walk
    exact ⟨rfl, i + 1, hrest, h1, q2⟩
  case fin =>
    rintro ⟨b1, b2⟩ s' ⟨hb', i, hz, hi, hI⟩
    simp only at hb'
    subst hb'
    have hge : items.size ≤ i := Nat.le_of_not_lt fun h' => by
      rw [List.drop_eq_getElem_cons (hZ.symm ▸ h')] at hz
      cases hz
    have hi' : i = items.size := by omega
    have hR : R (.ok (.ret (.bool false))) s' := fin s' (hi' ▸ hI)
    wp_walk
    simpa [Builtin.Tuple.tupleCompareSizes, hsz] using hR
  case h =>
    exact ⟨rfl, 0, rfl, Nat.zero_le _, h0⟩
end
section
variable {prog : Program} {w : World} {A : Around} {E : Value → Shared → Prop} {s : Shared}
theorem rc_neG {l b : Addr} {items items2 : Array Value} {Q : Value → Shared → Prop} (hsz : items.size = items2.size) (hu : A.units < cLine) (I : Nat → Shared → Prop)
    (hl : s.heap.IsTuple l items) (hb : s.heap.IsTuple b items2)
    (turn : ∀ i (h1 : i < items.size) (h2 : i < items2.size) s, I i s → wpAny (model prog w) A.in1 (eqBool items[i] items2[i]) (fun r s' => r = true ∧ I (i + 1) s') E s)
    (fin : ∀ s, I items.size s → Q (.bool false) s) (h : I 0 s) : wpAny (model prog w) A (richCompare .NotEq (.ref l) (.ref b)) Q E s := by
  obtain ⟨⟨cls, dd, data, sl⟩, ho, hc, n, hd⟩ := id hl
  obtain ⟨⟨cls2, dd2, data2, sl2⟩, ho2, hc2, n2, hd2⟩ := id hb
  simp only at hc hd hc2 hd2
  subst hc hd hc2 hd2
  refine wpAny_richCompare_same_room (op := .NotEq) ⟨_, ho, rfl⟩ ⟨_, ho2, rfl⟩ F.slot_tuple_ne (GQ.call_here F.slot_tuple_ne ⟨_, ho, rfl⟩ F.entry_tuple_ne (F.args_tuple_ne_2 _ _) ?_) hu
  exact tuple_neG (R := wants (fun v s' => v ≠ .notImplemented ∧ Q v s') E) l b items items2 n n2 dd dd2 sl sl2 hsz I turn (fun s' q => ⟨(fun x => nomatch x), fin s' q⟩) ho ho2 h
end
open L2
section
variable {X : Cx} {n : Nat} {D : Eqv}
/-- x != y of two tuples whose items are seen to be equal -/
def rNeG (K : PySem.W.Frag) (D : Eqv) : R2 := fun x y H Q => DTup K D x y H ∧ ∀ H', Ext H H' → Q (.bl false) H'
theorem op_neG (hD : Mon D) (h : EqG X n D) (hr : Room (n + 1) X.A) : OpR X (compareOp .NotEq) (rNeG X.K D) := by
  intro pins s σ H x y v u Q I rx ry hq
  obtain ⟨⟨a, b, xs, ys, rfl, rfl, ha, hb, p⟩, q⟩ := hq
  cases rx
  cases ry
  obtain ⟨its, r, e, z⟩ := I.tuple ha
  obtain ⟨its2, r2, e2, z2⟩ := I.tuple hb
  have hsz : its.toArray.size = its2.toArray.size := by rw [List.size_toArray, List.size_toArray, ← r.length, ← r2.length]; exact p.1
  show wpAny (model X.prog X.w) X.A (richCompare .NotEq (.ref a) (.ref b)) (EP X pins σ Q) X.xe s
  refine rc_neG hsz hr.units0 (fun _ s' => LoopI X pins σ H s') e e2 (fun i h1 h2 s' l => turnG hD h ⟨hr, rfl⟩ p r r2 i h1 h2 s' l) (fun s' l => ?_) ⟨H, I, Ext.rfl'⟩
  obtain ⟨H', I', e'⟩ := l
  exact ⟨.bl false, H', I', rfl, q H' e'⟩
end
end LcN
set_option Elab.async false
set_option linter.all false
set_option maxRecDepth 100000
set_option maxHeartbeats 4000000
/-! list != list where each item is seen to be equal, by code of the text -/
namespace LcNL
open PySem PySem.Calls PySem.Spec PyProof.Rows
open AutoSeq1 (wpAny_loadPart')
open MeetsSeq MeetsSeq2 MeetsSeq3 SeqRoads2 GQ
section
variable {prog : Program} {w : World} {A : Around} {R : Result → Shared → Prop}
theorem ne_loopG (l b : Addr) (N : Nat) (I : Nat → Shared → Prop) (hl : ListI prog w A (fun e s' => R (.error e) s') l b N I)
    (fin : ∀ s, I N s → R (.ok (.ret (.bool false))) s) (k : Nat) :
    ∀ i : Nat, N - i = k → i ≤ N → ∀ s, I i s →
      wpAny (model prog w) A.in1 (Builtin.«list.__eq__.loop» ⟨[.ref l, .ref b, rawInt i, rawInt 3], []⟩) (FinOf prog w A R) (fun e s' => R (.error e) s') s := by
  induction k with
  | zero =>
    intro i hk hi s h
    obtain ⟨items, items2, n, n2, hl1, hb1, hs1, hs2, _⟩ := hl _ _ h
    have hi' : i = N := by omega
    have hR : R (.ok (.ret (.bool false))) s := fin s (hi' ▸ h)
    obtain ⟨hp, g, d, tk, os⟩ := s
    wp_walk using wpAny_loadPart' hl1, wpAny_loadPart' hb1
    have hi1 : items[((i : Nat) : Int).toNat]? = none := by simp; omega
    have hi2 : items2[((i : Nat) : Int).toNat]? = none := by simp; omega
    rw [hi1, hi2]
    wp_walk using wpAny_loadPart' hl1, wpAny_loadPart' hb1
    show R (.ok (.ret (.bool (items.size != items2.size)))) _
    rw [hs1, hs2]
    simpa using hR
  | succ k ih =>
    intro i hk hi s h
    obtain ⟨items, items2, n, n2, hl1, hb1, hs1, hs2, turn⟩ := hl _ _ h
    have hlt : i < items.size := by omega
    have hlt2 : i < items2.size := by omega
    have ht := turn hlt hlt2
    obtain ⟨hp, g, d, tk, os⟩ := s
    wp_walk using wpAny_loadPart' hl1, wpAny_loadPart' hb1
    have hi1 : items[((i : Nat) : Int).toNat]? = some items[i] := by simp [hlt]
    have hi2 : items2[((i : Nat) : Int).toNat]? = some items2[i] := by simp [hlt2]
    have hc : ((i : Int) + 1) = ((i + 1 : Nat) : Int) := by omega
    rw [hi1, hi2]
    refine wpAny_bind (wpAny_mono ht (fun r s2 h2 => ?_) fun _ _ x => x)
    obtain ⟨hr, h2⟩ := h2
    subst hr
    have hrec := ih (i + 1) (by omega) (by omega) s2 h2
    obtain ⟨hp2, g2, d2, tk2, os2⟩ := s2
    wp_walk
    rw [hc]
    exact ⟨plainId_quiet plain_eq_loop _, codeAny_builtin entry_eq_loop (by
      rw [Around.under_plainId plain_eq_loop _]
      exact hrec)⟩
theorem list_neG (l b : Addr) (N : Nat) (I : Nat → Shared → Prop) (hl : ListI prog w A (fun e s' => R (.error e) s') l b N I)
    (fin : ∀ s, I N s → R (.ok (.ret (.bool false))) s) {s : Shared} (h : I 0 s) :
    wpAny (model prog w) A.in1 (Builtin.«list.__ne__» ⟨[.ref l, .ref b], []⟩) (FinOf prog w A R) (fun e s' => R (.error e) s') s := by
  obtain ⟨items, items2, n, n2, hl1, hb1, hs1, hs2, _⟩ := hl _ _ h
  have hrec := ne_loopG (A := A) (R := R) l b N I hl fin _ 0 rfl (Nat.zero_le _) s h
  obtain ⟨hp, g, d, tk, os⟩ := s
  have f3 := AutoSeq1.sub_list_list
  have hne : ¬ (items.size != items2.size) = true := by simp [hs1, hs2]
  wp_walk using wpAny_loadPart' hl1, wpAny_loadPart' hb1
  exact ⟨plainId_quiet plain_eq_loop _, codeAny_builtin entry_eq_loop (by
    rw [Around.under_plainId plain_eq_loop _]
    exact hrec)⟩
end
section
variable {prog : Program} {w : World} {A : Around} {E : Value → Shared → Prop} {s : Shared}
theorem rc_neLG {l b : Addr} {N : Nat} {Q : Value → Shared → Prop} (hu : A.units < cLine) (I : Nat → Shared → Prop) (hl : ListI prog w A E l b N I)
    (fin : ∀ s, I N s → Q (.bool false) s) (h : I 0 s) : wpAny (model prog w) A (richCompare .NotEq (.ref l) (.ref b)) Q E s := by
  obtain ⟨items, items2, n, n2, hl1, hb1, _, _, _⟩ := hl _ _ h
  refine wpAny_richCompare_same_room (op := .NotEq) ⟨_, hl1, rfl⟩ ⟨_, hb1, rfl⟩ F.slot_list_ne (GQ.call_here F.slot_list_ne ⟨_, hl1, rfl⟩ F.entry_list_ne (F.args_list_ne_2 _ _) ?_) hu
  exact list_neG (R := wants (fun v s' => v ≠ .notImplemented ∧ Q v s') E) l b N I hl (fun s' q => ⟨(fun x => nomatch x), fin s' q⟩) h
end
open L2
section
variable {X : Cx} {n : Nat} {D : Eqv}
/-- x != y of two lists whose items are seen to be equal -/
def rNeLG (D : Eqv) : R2 := fun x y H Q => DList D x y H ∧ ∀ H', Ext H H' → Q (.bl false) H'
theorem op_neLG (hD : Mon D) (h : EqG X n D) (hr : Room (n + 1) X.A) : OpR X (compareOp .NotEq) (rNeLG D) := by
  intro pins s σ H x y v u Q I rx ry hq
  obtain ⟨⟨a, b, xs, ys, rfl, rfl, ha, hb, p⟩, q⟩ := hq
  cases rx
  cases ry
  show wpAny (model X.prog X.w) X.A (richCompare .NotEq (.ref a) (.ref b)) (EP X pins σ Q) X.xe s
  refine rc_neLG (N := xs.length) hr.units0 (fun _ s' => LoopI X pins σ H s') (fun i s' l => ?_) (fun s' l => ?_) ⟨H, I, Ext.rfl'⟩
  · obtain ⟨H1, I1, e1⟩ := id l
    obtain ⟨z, its, k, r, e⟩ := I1.hok a _ (e1 _ _ ha)
    obtain ⟨z2, its2, k2, r2, e2⟩ := I1.hok b _ (e1 _ _ hb)
    refine ⟨its.toArray, its2.toArray, k, k2, e, e2, by rw [List.size_toArray, ← r.length], by rw [List.size_toArray, ← r2.length, ← p.1], fun h1 h2 => ?_⟩
    exact turnG hD h ⟨hr, rfl⟩ p r r2 i h1 h2 s' l
  · obtain ⟨H', I', e'⟩ := l
    exact ⟨.bl false, H', I', rfl, q H' e'⟩
end
end LcNL
set_option Elab.async false
set_option linter.all false
set_option maxRecDepth 100000
set_option maxHeartbeats 4000000
namespace Lc
open PySem PySem.Spec PyProof.Rows L2 LcR
section
variable {X : Cx} {j : Nat}
def EqRR (K : PySem.W.Frag) : Addr → Addr → Hp → Prop := fun a b H => ∃ q, IsR K H (.ref a) q ∧ IsR K H (.ref b) q
theorem mon_eqr (K : PySem.W.Frag) : ∀ a b H H', Ext H H' → EqRR K a b H → EqRR K a b H' := fun a b H H' e ⟨q, h1, h2⟩ => ⟨q, h1.n (same_n e), h2.n (same_n e)⟩
/-- told != numbers, two tuples of Ratios that are equal -/
def rNeTR (K : PySem.W.Frag) : R2 := fun x y H Q => ∃ a b us vs q, x = .ref a ∧ y = .ref b ∧ H a = some (.tup us) ∧ H b = some (.tup vs) ∧ All2 (IsR K H) us q ∧ All2 (IsR K H) vs q ∧ ∀ H', Same H H' → Q (.bl false) H'
theorem eqG_R (T : Tx X.K X.mg) : EqG X 1 (DIns (CRatio X.K) (EqRR X.K)) := by
  obtain ⟨fd, F⟩ := T.f_Ratio_eq
  have F2 : FnOk X.prog X.w X.K X.mg X.base CX0 1 (He.ma X.K (CRatio X.K) "__eq__") fd P_Ratio_eq (spEq (EqRR X.K)) := by
    have F1 := ok_eq (P := X.prog) (w := X.w) (base := X.base) T F
    have imp : ∀ vs H Q E, spEq (EqRR X.K) vs H Q E → sp_eqR X.K vs H Q E := fun vs H Q E ⟨a, b, ev, ⟨q, h1, h2⟩, k⟩ => ⟨_, _, q, q, ev, h1, h2, by rw [decide_eq_true rfl]; exact k H Ext.rfl'⟩
    exact ⟨fun vs H Q E h => F1.len vs H Q E (imp vs H Q E h), fun A outer s H args us vs Q E hr e b v h => F1.run A outer s H args us vs Q E hr e b v (imp vs H Q E h)⟩
  exact eqG_ins (E := C8.E0) F2 T.eq_at T.eq_fn (bind_eq T F) C8.pass0
theorem prs_R {K : PySem.W.Frag} {H : Hp} {us vs : List V} {q : List Rat} (h1 : All2 (IsR K H) us q) (h2 : All2 (IsR K H) vs q) : Prs (DIns (CRatio K) (EqRR K)) us vs H := by
  refine ⟨by rw [h1.1, h2.1], fun i x y hx hy => ?_⟩
  obtain ⟨g, hg, r1⟩ := h1.get' hx
  have r2 := h2.2 i y g hy hg
  obtain ⟨a1, d1, rfl, e1⟩ := id r1
  obtain ⟨a2, d2, rfl, e2⟩ := id r2
  exact ⟨a1, a2, d1, d2, _, _, rfl, rfl, e1, e2, g, r1, r2⟩
/-- two lists of Ratios that are equal, != -/
def rNeLR (K : PySem.W.Frag) : R2 := fun x y H Q => ∃ a b us vs q, x = .ref a ∧ y = .ref b ∧ H a = some (.lst us) ∧ H b = some (.lst vs) ∧ All2 (IsR K H) us q ∧ All2 (IsR K H) vs q ∧ ∀ H', Same H H' → Q (.bl false) H'
theorem op_neLR (T : Tx X.K X.mg) (hr : Room j X.A) (hj : 2 ≤ j) : OpR X (compareOp .NotEq) (rNeLR X.K) := by
  intro pins s σ H x y v u Q I rx ry hq
  obtain ⟨a, b, us, vs, q, rfl, rfl, ea, eb, h1, h2, k⟩ := hq
  exact LcNL.op_neLG (mon_ins (mon_eqr X.K)) (eqG_R T) (hr.mono hj) pins s σ H _ _ v u Q I rx ry ⟨⟨a, b, us, vs, rfl, rfl, ea, eb, prs_R h1 h2⟩, fun H' e => k H' e⟩
theorem op_neTR (T : Tx X.K X.mg) (hr : Room j X.A) (hj : 2 ≤ j) : OpR X (compareOp .NotEq) (rNeTR X.K) := by
  obtain ⟨fd, F⟩ := T.f_Ratio_eq
  have F2 : FnOk X.prog X.w X.K X.mg X.base CX0 1 (He.ma X.K (CRatio X.K) "__eq__") fd P_Ratio_eq (spEq (EqRR X.K)) := by
    have F1 := ok_eq (P := X.prog) (w := X.w) (base := X.base) T F
    have imp : ∀ vs H Q E, spEq (EqRR X.K) vs H Q E → sp_eqR X.K vs H Q E := fun vs H Q E ⟨a, b, ev, ⟨q, h1, h2⟩, k⟩ => ⟨_, _, q, q, ev, h1, h2, by rw [decide_eq_true rfl]; exact k H Ext.rfl'⟩
    exact ⟨fun vs H Q E h => F1.len vs H Q E (imp vs H Q E h), fun A outer s H args us vs Q E hr e b v h => F1.run A outer s H args us vs Q E hr e b v (imp vs H Q E h)⟩
  have G : EqG X 1 (DIns (CRatio X.K) (EqRR X.K)) := eqG_ins (E := C8.E0) F2 T.eq_at T.eq_fn (bind_eq T F) C8.pass0
  intro pins s σ H x y v u Q I rx ry hq
  obtain ⟨a, b, us, vs, q, rfl, rfl, ea, eb, h1, h2, k⟩ := hq
  refine LcN.op_neG (mon_ins (mon_eqr X.K)) G (hr.mono hj) pins s σ H _ _ v u Q I rx ry ⟨⟨a, b, us, vs, rfl, rfl, .inl (.inl ea), .inl (.inl eb), by rw [h1.1, h2.1], fun i x y hx hy => ?_⟩, fun H' e => k H' e⟩
  obtain ⟨g, hg, r1⟩ := h1.get' hx
  have r2 := h2.2 i y g hy hg
  obtain ⟨a1, d1, rfl, e1⟩ := id r1
  obtain ⟨a2, d2, rfl, e2⟩ := id r2
  exact ⟨a1, a2, d1, d2, _, _, rfl, rfl, e1, e2, g, r1, r2⟩
end
end Lc
set_option Elab.async false
set_option linter.all false
set_option maxRecDepth 100000
set_option maxHeartbeats 4000000
namespace Lc
open PySem PySem.Spec PyProof.Rows L2 LcR
open LC (Sz)
theorem pen_fresh {H' : Hp} {a c x : Addr} {m' : Nat} (p : PenV H' a c m') (h : H' x = none) : x ≠ a ∧ x ≠ c := by
  obtain ⟨ns, at_, rest, e1, e2, _⟩ := p
  exact ⟨fun z => by (subst z; rw [e1] at h; cases h), fun z => by (subst z; rw [e2] at h; cases h)⟩
/-- a goal's tuple -/
def GT (n : Nat) (H : Hp) (v : V) (g : List Nat) : Prop := ∃ G, v = .ref G ∧ H G = some (.tup (intV g)) ∧ g.Pairwise (· < ·) ∧ (∀ s ∈ g, s < n)
theorem GT.n {n : Nat} {H H' : Hp} {v : V} {g : List Nat} (h : GT n H v g) (s : SameN H H') : GT n H' v g := by
  obtain ⟨G, rfl, e, h1, h2⟩ := h
  exact ⟨G, rfl, s _ _ e trivial, h1, h2⟩
theorem nlt {a b : Rat} (h : a ≤ b) : ¬ b < a := by grind
theorem catA_any {K : PySem.W.Frag} {a b : Addr} {xs ys : List V} {H : Hp} {Q : VK} (h1 : SqT K H a xs) (h2 : SqT K H b ys) (hl : xs.length + ys.length ≤ sizeLine) (q : ∀ p H', Same H H' → SqT K H' p (xs ++ ys) → Q (.ref p) H') : rCatA K (.ref a) (.ref b) H Q :=
  ⟨a, b, xs, ys, rfl, rfl, h1, h2, hl, fun h => q b H (Same.refl _) (by rw [h]; exact h2), fun _ h => q a H (Same.refl _) (by rw [h, List.append_nil]; exact h1), fun _ _ p hp => q p _ (same_upd hp) (.inl (.inl upd_same))⟩
theorem nat_of {ns : List Int} (nn : ∀ x ∈ ns, 0 ≤ x) (pw : ns.Pairwise (· < ·)) : ∃ g' : List Nat, ns = g'.map (fun s : Nat => (s : Int)) ∧ g'.Pairwise (· < ·) ∧ ∀ t : Nat, t ∈ g' ↔ (t : Int) ∈ ns := by
  have e1 : ns = (ns.map Int.toNat).map (fun s : Nat => (s : Int)) := by
    rw [List.map_map]
    refine (List.map_id' ns).symm.trans (List.map_congr_left fun x hx => ?_)
    have := nn x hx
    show x = ((x.toNat : Nat) : Int)
    omega
  refine ⟨ns.map Int.toNat, e1, List.pairwise_map.mpr (pw.imp_of_mem fun {x y} hx hy h => by have := nn x hx; omega), fun t => ?_⟩
  constructor
  · intro h
    obtain ⟨x, hx, e⟩ := List.mem_map.mp h
    have := nn x hx
    have : (t : Int) = x := by omega
    rw [this]; exact hx
  · intro h
    exact List.mem_map.mpr ⟨(t : Int), h, Int.toNat_natCast t⟩
theorem num_get {K : PySem.W.Frag} {H : Hp} {us : List V} {q : List Rat} {n s : Nat} (h : All2 (IsR K H) us q) (hl : q.length = n) (hs : s < n) : ∃ y, us[s]? = some y ∧ IsR K H y (numN q s) := by
  have e := List.getElem?_eq_getElem (by omega : s < q.length)
  obtain ⟨y, hy, r⟩ := h.get e
  refine ⟨y, hy, ?_⟩
  unfold numN
  rw [e]
  exact r
theorem Top.szn {n : Nat} {l : List ActD} {g : List Nat} {q : List Rat} (T : Top n l g q) (s : Nat) : Sz 1800 1780 (numN q s) := by
  unfold numN
  cases e : q[s]? with
  | none => exact LC.sz_zero _ _
  | some x => exact T.sz x (List.mem_of_getElem? e)
section
variable {P : Program} {w : World} {K : PySem.W.Frag} {mg : Str → Option Value} {base : Heap}
def sp_law (K : PySem.W.Frag) : Sp := fun vs H Q _ => ∃ (a : Addr) (ns : List Int), vs = [.ref a] ∧ ns.length ≤ 100 ∧ SqL K H a (ns.map V.int) ∧ ∀ H', Q (.bl true) H'
theorem ok_law (T : Tx K mg) {f : Addr} {fd : FuncData} (F : FunD K "law" "law" (defArgs s_law) (defBody s_law) (defScope s_law) [] [] f fd) : FnOk P w K mg base CX0 11 f fd P_law (sp_law K) := by
  refine fnD F sc_law (fun vs H Q E h => ?_) (fun cdv A outer s H vs Q E hr h => ?_)
  · obtain ⟨_, _, rfl, _⟩ := h; rfl
  obtain ⟨a0, ns, rfl, nl, hs, k⟩ := h
  refine ⟨_, (pss_cons (ps_set (i := 1) sc_law.nd rfl (Or.inr rfl) (C8.pe_c (c_law_pen T) hr (by decide) (by rfl) (pa_cons (pv 0) pa_nil)))
      (pss_cons (ps_for PassesOwn.never rfl (pi_range1 (by rfl) T.b_range (pa_cons pe_int pa_nil)) (pg_name (i := 2) sc_law.nd rfl (Or.inl rfl))
      (pss_cons (ps_asg (C8.pe_c (c_law_acts T) hr (by decide) (by rfl) (pa_cons (pv 1) (pa_cons pe_int (pa_cons pe_int pa_nil)))) (pg_tup rfl (pgs_cons (pg_name (i := 3) sc_law.nd rfl (Or.inr rfl)) (pgs_cons (pg_name (i := 4) sc_law.nd rfl (Or.inl rfl)) pgs_nil))))
      (pss_cons (ps_asg (pe_lc (own := [("lap", 18)]) (g := gName 18) (te := (tCB (rTupleOf K) (tCons (tLc (iRng1 (tCons (tVar 3) tNil)) (gName 19) (tB (tOp rEq (tCall sp_law_draw [] C8.E0 (tCons (tVar 1) (tCons (tC (.int 3)) tNil))) (tC (.int 0)))) (tVar 19) [19]) tNil))) (by rfl) sc_law.nd (pi_range1 (by rfl) T.b_range (pa_cons pe_int pa_nil)) (blkOk_by (own := [("lap", 18)]) (N := N_law) (sc := defScope s_law) (by decide +kernel)) (fun _ _ _ _ _ => (pg_name (i := 18) sc_law.nd rfl (Or.inl rfl))) (fun _ _ _ _ _ => pts_nil) (fun _ _ _ _ _ => (pe_callTy call_tuple_of (by rfl) T.b_tuple (by decide +kernel) (pa_cons (pe_lc (own := [("state", 19)]) (g := gName 19) (by rfl) sc_law.nd (pi_range1 (by rfl) T.b_range (pa_cons (pv 3) pa_nil)) (blkOk_in (own := [("state", 19)]) (N := N_law) rfl (by decide +kernel)) (fun _ _ _ _ _ => (pg_name (i := 19) sc_law.nd rfl (Or.inl rfl))) (fun _ _ _ _ _ => (pts_one (pt_cmpR op_eq (C8.pe_c (c_law_draw T) hr (by decide) (by rfl) (pa_cons (pv 1) (pa_cons pe_int pa_nil))) pe_int (nomark _)))) (fun _ _ _ _ _ => (pv 19))) pa_nil)))) (pg_lst rfl (pgs_cons (pg_name (i := 5) sc_law.nd rfl (Or.inl rfl)) (pgs_cons (pg_name (i := 6) sc_law.nd rfl (Or.inl rfl)) pgs_nil))))
      (pss_cons (ps_set (i := 7) sc_law.nd rfl (Or.inr rfl) (C8.pe_c (c_law_numbers T) hr (by decide) (by rfl) (pa_cons (pv 3) (pa_cons (pv 4) (pa_cons (pv 5) pa_nil)))))
      (pss_cons (ps_asg (C8.pe_c (c_law_changed T) hr (by decide) (by rfl) (pa_cons (pv 1) (pa_cons (pv 3) (pa_cons (pv 4) (pa_cons (pv 5) pa_nil))))) (pg_tup rfl (pgs_cons (pg_name (i := 8) sc_law.nd rfl (Or.inl rfl)) (pgs_cons (pg_name (i := 9) sc_law.nd rfl (Or.inl rfl)) (pgs_cons (pg_name (i := 10) sc_law.nd rfl (Or.inl rfl)) (pgs_cons (pg_name (i := 11) sc_law.nd rfl (Or.inr rfl)) pgs_nil))))))
      (pss_cons (ps_set (i := 12) sc_law.nd rfl (Or.inr rfl) (C8.pe_c (c_law_numbers T) hr (by decide) (by rfl) (pa_cons (pv 8) (pa_cons (pv 9) (pa_cons (pv 10) pa_nil)))))
      (pss_cons (ps_if (pt_cmpR (op_neNil hr.units0) (pe_lc (own := [("state", 19)]) (g := gName 19) (tt := (tB (tOp (rNeR K) (tOp (rIxT K) (tVar 12) (tOp (rIxL K) (tVar 11) (tVar 19))) (tOp (rIxT K) (tVar 7) (tVar 19))))) (by rfl) sc_law.nd (pi_range1 (by rfl) T.b_range (pa_cons (pv 3) pa_nil)) (blkOk_by (own := [("state", 19)]) (N := N_law) (sc := defScope s_law) (by decide +kernel)) (fun _ _ _ _ _ => (pg_name (i := 19) sc_law.nd rfl (Or.inl rfl))) (fun _ _ _ _ _ => (pts_one (pt_cmpR (op_Rne T hr (by decide)) (pe_ix ix_tup (pv 12) (pe_ix ix_list (pv 11) (pv 19) (fun _ _ => rfl)) (fun _ _ => rfl)) (pe_ix ix_tup (pv 7) (pv 19) (fun _ _ => rfl)) (nomark _)))) (fun _ _ _ _ _ => (pv 19))) (pe_lst pa_nil) (nomark _)) (pss_one (ps_ret pe_bl)) pss_nil)
      (pss_cons (ps_asg (pe_tup (pa_cons (pe_callTy call_tuple_of (by rfl) T.b_tuple (by decide +kernel) (pa_cons (pe_callB (cr_sortedSet rfl) (by rfl) T.b_sorted (by decide +kernel) (pa_cons (pe_callTy (cr_setI rfl) (by rfl) T.b_set (by decide +kernel) (pa_cons (pe_op op_catA (pv 5) (pv 6)) pa_nil)) pa_nil)) pa_nil)) (pa_cons (C8.pe_c (c_law_numbers T) hr (by decide) (by rfl) (pa_cons (pv 3) (pa_cons (pv 4) (pa_cons (pv 6) pa_nil)))) pa_nil))) (pg_tup rfl (pgs_cons (pg_name (i := 13) sc_law.nd rfl (Or.inl rfl)) (pgs_cons (pg_name (i := 14) sc_law.nd rfl (Or.inr rfl)) pgs_nil))))
      (pss_cons (ps_set (i := 15) sc_law.nd rfl (Or.inr rfl) (C8.pe_c (c_law_numbers T) hr (by decide) (by rfl) (pa_cons (pv 3) (pa_cons (pv 4) (pa_cons (pv 13) pa_nil)))))
      (pss_cons (ps_if (pt_cmpR (op_neNil hr.units0) (pe_lc (own := [("state", 19)]) (g := gName 19) (tt := (tOr (tB (tMeth (CRatio K) "is_below" (sp_is_below K) [] C8.E0 (tOp (rIxT K) (tVar 15) (tVar 19)) (tCons (tOp (rIxT K) (tVar 7) (tVar 19)) tNil))) (tB (tMeth (CRatio K) "is_below" (sp_is_below K) [] C8.E0 (tOp (rRN K fun p q => p + q) (tOp (rIxT K) (tVar 7) (tVar 19)) (tOp (rIxT K) (tVar 14) (tVar 19))) (tCons (tOp (rIxT K) (tVar 15) (tVar 19)) tNil))))) (by rfl) sc_law.nd (pi_range1 (by rfl) T.b_range (pa_cons (pv 3) pa_nil)) (blkOk_by (own := [("state", 19)]) (N := N_law) (sc := defScope s_law) (by decide +kernel)) (fun _ _ _ _ _ => (pg_name (i := 19) sc_law.nd rfl (Or.inl rfl))) (fun _ _ _ _ _ => (pts_one (PW.pt (pw_or (pt_val (C8.pe_mt (m_is_below T) hr (by decide) (pe_ix ix_tup (pv 15) (pv 19) (fun _ _ => rfl)) (pa_cons (pe_ix ix_tup (pv 7) (pv 19) (fun _ _ => rfl)) pa_nil))) (pw_or1 (pt_val (C8.pe_mt (m_is_below T) hr (by decide) (pe_op (op_Radd T hr (by decide)) (pe_ix ix_tup (pv 7) (pv 19) (fun _ _ => rfl)) (pe_ix ix_tup (pv 14) (pv 19) (fun _ _ => rfl))) (pa_cons (pe_ix ix_tup (pv 15) (pv 19) (fun _ _ => rfl)) pa_nil)))))))) (fun _ _ _ _ _ => (pv 19))) (pe_lst pa_nil) (nomark _)) (pss_one (ps_ret pe_bl)) pss_nil)
      (pss_cons (ps_set (i := 16) sc_law.nd rfl (Or.inl rfl) (pe_tup (pa_cons (pe_tup (pa_cons (pe_op op_add pe_int (C8.pe_c (c_law_draw T) hr (by decide) (by rfl) (pa_cons (pv 1) (pa_cons pe_int pa_nil)))) (pa_cons (C8.pe_c (c_law_draw T) hr (by decide) (by rfl) (pa_cons (pv 1) (pa_cons (pv 3) pa_nil))) (pa_cons pe_int (pa_cons (pe_tup (pa_cons pe_int pa_nil)) pa_nil))))) (pa_cons (pe_tup (pa_cons pe_int (pa_cons (C8.pe_c (c_law_draw T) hr (by decide) (by rfl) (pa_cons (pv 1) (pa_cons (pv 3) pa_nil))) (pa_cons pe_int (pa_cons (pe_tup (pa_cons pe_int pa_nil)) pa_nil))))) pa_nil))))
      (pss_cons (ps_set (i := 17) sc_law.nd rfl (Or.inr rfl) (C8.pe_c (c_law_numbers T) hr (by decide) (by rfl) (pa_cons (pv 3) (pa_cons (pe_op op_cat (pv 4) (pe_lst (pa_cons (pe_tup (pa_cons (C8.pe_c (c_law_draw T) hr (by decide) (by rfl) (pa_cons (pv 1) (pa_cons (pv 3) pa_nil))) (pa_cons (pv 16) pa_nil))) pa_nil))) (pa_cons (pv 5) pa_nil)))))
      (pss_one (ps_if (pt_cmpR (op_neNil hr.units0) (pe_lc (own := [("state", 19)]) (g := gName 19) (tt := (tB (tMeth (CRatio K) "is_below" (sp_is_below K) [] C8.E0 (tOp (rIxT K) (tVar 17) (tVar 19)) (tCons (tOp (rIxT K) (tVar 7) (tVar 19)) tNil)))) (by rfl) sc_law.nd (pi_range1 (by rfl) T.b_range (pa_cons (pv 3) pa_nil)) (blkOk_by (own := [("state", 19)]) (N := N_law) (sc := defScope s_law) (by decide +kernel)) (fun _ _ _ _ _ => (pg_name (i := 19) sc_law.nd rfl (Or.inl rfl))) (fun _ _ _ _ _ => (pts_one (pt_val (C8.pe_mt (m_is_below T) hr (by decide) (pe_ix ix_tup (pv 17) (pv 19) (fun _ _ => rfl)) (pa_cons (pe_ix ix_tup (pv 7) (pv 19) (fun _ _ => rfl)) pa_nil))))) (fun _ _ _ _ _ => (pv 19))) (pe_lst pa_nil) (nomark _)) (pss_one (ps_ret pe_bl)) pss_nil))))))))))))))
      (pss_one (ps_ret pe_bl)))), ?_⟩
  refine ⟨_, rfl, a0, ns, rfl, hs, fun H1 p c s1 p1 => ?_⟩
  refine ⟨(5 : Int), rfl, by omega, by omega, ?_⟩
  refine for_it (walk_range (n := 5)) (fun i σ H2 => (∃ x2 x3 x4 x5 x6 x7 x8 x9 x10 x11 x12 x13 x14 x15 x16 x17, σ = [some (.ref a0), some (.ref p), x2, x3, x4, x5, x6, x7, x8, x9, x10, x11, x12, x13, x14, x15, x16, x17, none, none]) ∧ PenV H2 p c (400 * i))
    ⟨⟨none, none, none, none, none, none, none, none, none, none, none, none, none, none, none, none, rfl⟩, p1⟩ (fun i σ H2 _ p => trivial) ?_ ?_
  · rintro i x σ H3' H3 hi ⟨⟨x2, x3, x4, x5, x6, x7, x8, x9, x10, x11, x12, x13, x14, x15, x16, x17, rfl⟩, p3⟩ ⟨rfl, ex⟩
    obtain rfl : x = V.int ((i : Nat) : Int) := ex.trans (congrArg V.int (Int.zero_add _))
    dsimp only [gName]
    refine ⟨_, rfl, p, c, _, rfl, p3, by omega, fun H4 t n l ac us s4 p4 et hac eac al ok n4 l12 sm4 => ?_⟩
    have acp := (pen_fresh p3 hac).1
    have n1 := ok.n1
    have sm : Small l := fun d hd => (sm4 d hd).2
    refine ⟨t, _, rfl, .inl (.inl et), rfl, _, _, rfl, _, _, rfl, rfl, ?_⟩
    refine ⟨(2 : Int), rfl, by omega, by omega, fun D hD => ?_⟩
    obtain ⟨pD, cD⟩ := pen_fresh p4 hD
    refine lc_it walk_range (fun j H' => SameX p H4 H' ∧ PenV H' p c (400 * i + 300 + 5 * j) ∧ ∃ vs gs, H' D = some (.lst vs) ∧ All2 (GT n H') vs gs ∧ gs.length = j)
      ⟨SameX.of (same_upd hD), p4.other pD cD, [], [], upd_same, All2.nil, rfl⟩ (fun _ _ _ _ => trivial) (fun j x H7 H7' hj pv y => ?_) (fun H8 pv => ?_)
    · obtain ⟨rfl, ex⟩ := y
      have pv' : SameX p H4 H7' ∧ PenV H7' p c (400 * i + 300 + 5 * j) ∧ ∃ vs gs, H7' D = some (.lst vs) ∧ All2 (GT n H7') vs gs ∧ gs.length = j := pv
      clear pv
      have hj : j < 2 := hj
      obtain ⟨s7, p7, vs, gs, eD, aG, gl⟩ := pv'
      refine ⟨rfl, yes ⟨_, rfl, (n : Int), rfl, by omega, by omega, fun D2 hD2 => ?_⟩⟩
      obtain ⟨pD2, cD2⟩ := pen_fresh p7 hD2
      refine lc_it walk_range (fun k H' => SameX p H7' H' ∧ PenV H' p c (400 * i + 300 + 5 * j + k) ∧ ∃ g : List Nat, H' D2 = some (.lst (intV g)) ∧ g.Pairwise (· < ·) ∧ (∀ s ∈ g, s < k) ∧ g.length ≤ k)
        ⟨SameX.of (same_upd hD2), p7.other pD2 cD2, [], upd_same, List.Pairwise.nil, fun _ h => by simp at h, Nat.zero_le _⟩ (fun _ _ _ _ => trivial) (fun k x H9 H9' hk pv y => ?_) (fun H9 pv => ?_)
      · obtain ⟨rfl, ex⟩ := y
        obtain rfl : x = V.int ((k : Nat) : Int) := ex.trans (congrArg V.int (Int.zero_add _))
        have pv' : SameX p H7' H9' ∧ PenV H9' p c (400 * i + 300 + 5 * j + k) ∧ ∃ g : List Nat, H9' D2 = some (.lst (intV g)) ∧ g.Pairwise (· < ·) ∧ (∀ s ∈ g, s < k) ∧ g.length ≤ k := pv
        clear pv
        obtain ⟨s9, p9, g, eD2, gp, gj, gl2⟩ := pv'
        have hk1 : k < n := by have h : k < (n : Int).toNat := hk; omega
        refine ⟨rfl, _, rfl, p, c, _, 3, rfl, p9, by decide, by decide, by omega, fun H10 r' s10 p10 q0 q1 => ⟨rfl, _, rfl, ite2 (fun h1 => ?_) (fun h1 => ?_)⟩⟩
        · refine ⟨_, rfl, _, s10 _ _ pD2 eD2, Nat.lt_of_le_of_lt (by unfold intV; rw [List.length_map]; omega : (intV g).length ≤ 6) (by decide), ?_⟩
          refine ⟨samex_at (s9.trans s10) hD2, p10.other pD2 cD2, g ++ [k], by rw [upd_same]; unfold intV; rw [List.map_append]; rfl, ?_, fun s hs => ?_, by rw [List.length_append]; exact Nat.succ_le_succ gl2⟩
          · refine List.pairwise_append.mpr ⟨gp, List.pairwise_singleton _ _, fun a ha b hb => ?_⟩
            rw [List.mem_singleton.mp hb]
            exact gj a ha
          · rcases List.mem_append.mp hs with h | h
            · have := gj s h
              omega
            · rw [List.mem_singleton.mp h]; omega
        · exact ⟨s9.trans s10, p10, g, s10 _ _ pD2 eD2, gp, fun s hs => by have := gj s hs; omega, by omega⟩
      · have pv' : SameX p H7' H9 ∧ PenV H9 p c (400 * i + 300 + 5 * j + (n : Int).toNat) ∧ ∃ g : List Nat, H9 D2 = some (.lst (intV g)) ∧ g.Pairwise (· < ·) ∧ (∀ s ∈ g, s < (n : Int).toNat) ∧ g.length ≤ (n : Int).toNat := pv
        clear pv
        obtain ⟨s9, p9, g, eD2, gp, gn, gl2⟩ := pv'
        rw [Int.toNat_natCast] at p9 gn gl2
        refine ⟨D2, _, rfl, .inl ⟨.inl (.inl eD2), fun G hG => ?_⟩⟩
        have t9 := same_upd (o := .tup (intV g)) hG
        have eDG : upd H9 G (.tup (intV g)) D = some (.lst vs) := t9 _ _ (s9 _ _ pD eD)
        have vl : vs.length = gs.length := aG.1
        refine ⟨vs, eDG, Nat.lt_of_le_of_lt (by omega : vs.length ≤ 2) (by decide), ?_⟩
        obtain ⟨xs7, ea7⟩ := p7.at_
        have sn : SameN H7' (upd (upd H9 G (.tup (intV g))) D (.lst (vs ++ [.ref G]))) := ((s9.n ea7).trans (same_n t9)).trans (sameN_upd eDG (fun z => z))
        have sD : SameN (upd H9 G (.tup (intV g))) (upd (upd H9 G (.tup (intV g))) D (.lst (vs ++ [.ref G]))) := sameN_upd eDG (fun z => z)
        refine ⟨samex_at (s7.trans (s9.trans (SameX.of t9))) hD, ((p9.same t9).other pD cD).le (by omega), vs ++ [.ref G], gs ++ [g], upd_same, (aG.imp fun x y z => z.n sn).snoc ⟨G, rfl, sD _ _ upd_same trivial, gp, gn⟩, by rw [List.length_append, gl]; rfl⟩
    have pv' : SameX p H4 H8 ∧ PenV H8 p c (400 * i + 300 + 5 * 2) ∧ ∃ vs gs, H8 D = some (.lst vs) ∧ All2 (GT n H8) vs gs ∧ gs.length = 2 := pv
    clear pv
    obtain ⟨s8, p8, vs, gs, eD, aG, gl⟩ := pv'
    obtain ⟨g1, g2, rfl⟩ : ∃ g1 g2, gs = [g1, g2] := by
      match gs, gl with
      | [a, b], _ => exact ⟨a, b, rfl⟩
    obtain ⟨w1_, hw1, G1, e1_, eG1, gp1, gn1⟩ := aG.get (i := 0) (y := g1) rfl
    obtain ⟨w2_, hw2, G2, e2_, eG2, gp2, gn2⟩ := aG.get (i := 1) (y := g2) rfl
    have evs : vs = [.ref G1, .ref G2] := by
      have vl : vs.length = 2 := aG.1
      subst e1_ e2_
      match vs, vl, hw1, hw2 with
      | [a, b], _, h1, h2 => cases h1; cases h2; rfl
    subst evs
    refine ⟨D, [.ref G1, .ref G2], rfl, .inl (.inl eD), rfl, _, _, rfl, _, _, rfl, rfl, ?_⟩
    obtain ⟨xs4, ea4⟩ := p4.at_
    have sn8 := s8.n ea4
    have eac8 : H8 ac = some (.lst us) := s8 _ _ acp eac
    have al8 : All2 (ActV H8) us l := al.imp fun x y z => z.n sn8
    clear eac al sn8 ea4 s8 hac et s4 p4 hD aG eD hw1 hw2
    have g1l : g1.length ≤ n := by
      have := nodup_len (l := g1) (m := List.range n) (gp1.imp fun h e => by omega) fun x hx => List.mem_range.mpr (gn1 x hx)
      rwa [List.length_range] at this
    have g2l : g2.length ≤ n := by
      have := nodup_len (l := g2) (m := List.range n) (gp2.imp fun h e => by omega) fun x hx => List.mem_range.mpr (gn2 x hx)
      rwa [List.length_range] at this
    refine ⟨_, rfl, _, rfl, _, rfl, n, .ref ac, l, .ref G1, g1, rfl, ⟨ac, us, rfl, eac8, al8⟩, ok, by omega, ⟨G1, rfl, eG1⟩, gp1, gn1, fun H9 ta qt s9 nt9 tt => ?_⟩
    refine ⟨_, rfl, _, rfl, _, rfl, _, rfl, p, c, _, n, ac, us, l, G1, g1, rfl, p8.same s9, by omega, s9 _ _ eac8, al8.imp fun x y z => z.n (same_n s9), acp, ok, n4, l12, sm, s9 _ _ eG1, gp1, gn1, fun H10 t2 s10 p10 cr => ?_⟩
    obtain ⟨n', ac', us', l', G', g', nA, nm, et2, eac', al', acp', ok', n8', eG', gp', gn', enm, nAp, nml, nmn, st⟩ := cr
    refine ⟨t2, _, rfl, .inl (.inl et2), rfl, _, _, rfl, _, _, rfl, _, _, rfl, _, _, rfl, rfl, ?_⟩
    dsimp only [gName, List.set]
    obtain ⟨xs9, ea9⟩ := (p8.same s9).at_
    have sn10 := s10.n ea9
    have eac10 : H10 ac = some (.lst us) := s10 _ _ acp (s9 _ _ eac8)
    have al10 : All2 (ActV H10) us l := al8.imp fun x y z => (z.n (same_n s9)).n sn10
    have eG110 : H10 G1 = some (.tup (intV g1)) := sn10 _ _ (s9 _ _ eG1) trivial
    have eG210 : H10 G2 = some (.tup (intV g2)) := sn10 _ _ (s9 _ _ eG2) trivial
    have nt10 := nt9.n sn10
    clear nt9 sn10 ea9 s10 eac8 al8 eG1 eG2 s9 p8 et2
    refine ⟨_, rfl, _, rfl, _, rfl, n', .ref ac', l', .ref G', g', rfl, ⟨ac', us', rfl, eac', al'⟩, ok', n8', ⟨G', rfl, eG'⟩, gp', gn', fun H11 tf qf s11 nf tf_ => ?_⟩
    have nt11 := nt10.n (same_n s11)
    obtain ⟨ust, eta, ata⟩ := id nt11
    obtain ⟨usf, etf, atf⟩ := id nf
    refine ⟨_, rfl, (n : Int), rfl, by omega, by omega, fun D1 hD1 => ?_⟩
    rw [Int.toNat_natCast]
    refine lcm walk_range hD1 (Nat.le_trans (by omega : n ≤ 4) (by decide)) (fun _ => false) (fun _ _ _ => True) (fun _ _ _ _ _ h => h) (fun H1 s => trivial) (fun j x8 H12' H12 kN' kY hj s y kn ky => ?_) (fun H13 ys s13 e13 kp => ?_)
    · obtain ⟨rfl, ex⟩ := y
      obtain rfl : x8 = V.int ((j : Nat) : Int) := ex.trans (congrArg V.int (Int.zero_add _))
      obtain ⟨jt, hjt⟩ : ∃ jt, nm[j]? = some jt := ⟨_, List.getElem?_eq_getElem (by omega)⟩
      have jtn := nmn jt (List.mem_of_getElem? hjt)
      have hjv : (intV nm)[j]? = some (.int (jt : Nat)) := by unfold intV; rw [List.getElem?_map, hjt]; rfl
      obtain ⟨yf, hyf, ryf⟩ := num_get atf tf_.len jtn
      obtain ⟨yt, hyt, ryt⟩ := num_get ata tt.len hj
      refine ⟨rfl, _, rfl, _, rfl, _, rfl, nA, _, _, _, rfl, rfl, .inl (.inl ((s11.trans s) _ _ enm)), atI_nat hjv, tf, usf, _, yf, rfl, rfl, .inl (.inl (s _ _ etf)), atI_nat hyf, ?_⟩
      refine ⟨_, rfl, _, rfl, ta, ust, _, yt, rfl, rfl, .inl (.inl (s _ _ eta)), atI_nat hyt, numN qf jt, numN qt j, ryf.n (same_n s), ryt.n (same_n s), _, rfl, ite2 (fun h => ?_) (fun h => ?_)⟩
      · have e := st qt qf tt tf_ j jt hjt hj
        rw [e] at h
        simp at h
      · exact kn _ (Same.refl _) rfl
    have yl : ys.length = 0 := by
      rw [kp.1]
      simp
    obtain rfl : ys = [] := List.length_eq_zero_iff.mp yl
    refine ⟨by show 0 ≤ sizeLine; decide, fun E3 hE3 => ?_⟩
    have t13 := same_upd (o := .lst []) hE3
    refine ⟨D1, E3, [], rfl, rfl, .inl (.inl (t13 _ _ e13)), .inl (.inl upd_same), false, rfl, iteF ?_⟩
    dsimp only [gName, List.set]
    generalize upd H13 E3 (.lst []) = H14 at t13
    have s14 := s11.trans (s13.trans t13)
    have nt14 := nt11.n (same_n (s13.trans t13))
    clear nt11 ata eta atf etf nf s13 t13 e13 kp hD1 hE3
    have p14 := p10.same s14
    have eac14 := s14 _ _ eac10
    have al14 : All2 (ActV H14) us l := al10.imp fun x y z => z.n (same_n s14)
    have eG114 := s14 _ _ eG110
    have eG214 := s14 _ _ eG210
    clear s14 s11 nt10 eac10 al10 eG110 eG210 p10
    -- both goals
    have il1 : (intV g1).length = g1.length := List.length_map _
    have il2 : (intV g2).length = g2.length := List.length_map _
    refine ⟨_, rfl, _, rfl, catA_any (.inl (.inl eG114)) (.inl (.inl eG214)) (Nat.le_trans (by omega : (intV g1).length + (intV g2).length ≤ 8) (by decide)) (fun pc Hc sc ec => ?_)⟩
    have eapp : intV g1 ++ intV g2 = ((g1 ++ g2).map fun s : Nat => (s : Int)).map V.int := by unfold intV; rw [List.map_map, List.map_append]; rfl
    rw [eapp] at ec
    refine ⟨pc, _, rfl, ec, by rw [List.length_map, List.length_append]; omega, fun ps cnt hps hcnt => ?_⟩
    have hw : (cxOf CX0 P w K mg base N_law "law" (defScope s_law) f cdv A outer s H E).w = w := rfl
    rw [hw]
    have u1 := same_upd (o := SetO w ps (fun j => decide (j ∈ (g1 ++ g2).map fun s : Nat => (s : Int))) cnt) hps
    refine ⟨ps, _, cnt, rfl, upd_same, by rw [List.length_map, List.length_append] at hcnt; omega, fun nsB pB pw hmem _ hpB => ?_⟩
    obtain ⟨gB, rfl, gpB, gmB⟩ := nat_of (ns := nsB) (fun x hx => by
      have h := of_decide_eq_true ((hmem x).mp hx)
      obtain ⟨s0, _, rfl⟩ := List.mem_map.mp h
      exact Int.natCast_nonneg s0) pw
    have memB : ∀ t : Nat, t ∈ gB ↔ t ∈ g1 ∨ t ∈ g2 := fun t => by
      rw [gmB, hmem, decide_eq_true_eq, List.mem_map]
      constructor
      · rintro ⟨s0, hs0, e⟩
        have : s0 = t := by omega
        subst this
        exact List.mem_append.mp hs0
      · intro h
        exact ⟨t, List.mem_append.mpr h, rfl⟩
    have gnB : ∀ s ∈ gB, s < n := fun s hs => by
      rcases (memB s).mp hs with z | z
      · exact gn1 s z
      · exact gn2 s z
    have eB : (gB.map fun s : Nat => (s : Int)).map V.int = intV gB := by unfold intV; rw [List.map_map]; rfl
    rw [eB]
    have u2 := same_upd (o := .lst (intV gB)) hpB
    refine ⟨pB, _, rfl, .inl ⟨.inl (.inl upd_same), fun GB hGB => ?_⟩⟩
    have u3 := same_upd (o := .tup (intV gB)) hGB
    have eGB : upd (upd (upd Hc ps (SetO w ps (fun j => decide (j ∈ (g1 ++ g2).map fun s : Nat => (s : Int))) cnt)) pB (.lst (intV gB))) GB (.tup (intV gB)) GB = some (.tup (intV gB)) := upd_same
    have u := sc.trans (u1.trans (u2.trans u3))
    generalize upd (upd (upd Hc ps (SetO w ps (fun j => decide (j ∈ (g1 ++ g2).map fun s : Nat => (s : Int))) cnt)) pB (.lst (intV gB))) GB (.tup (intV gB)) = H15 at u eGB
    clear u1 u2 u3 sc ec hps hpB hGB
    refine ⟨_, rfl, _, rfl, _, rfl, n, .ref ac, l, .ref G2, g2, rfl, ⟨ac, us, rfl, u _ _ eac14, al14.imp fun x y z => z.n (same_n u)⟩, ok, by omega, ⟨G2, rfl, u _ _ eG214⟩, gp2, gn2, fun H16 tm qm s16 nm_ tm_ => ?_⟩
    refine ⟨by show 2 ≤ sizeLine; decide, fun t3 ht3 => ?_⟩
    refine ⟨t3, _, rfl, .inl (.inl upd_same), rfl, _, _, rfl, _, _, rfl, rfl, ?_⟩
    dsimp only [gName, List.set]
    have v3 := same_upd (o := .tup [V.ref GB, .ref tm]) ht3
    have nm17 := nm_.n (same_n v3)
    have s17 := u.trans (s16.trans v3)
    have eGB17 := (s16.trans v3) _ _ eGB
    generalize upd H16 t3 (.tup [V.ref GB, .ref tm]) = H17 at nm17 s17 eGB17
    clear u s16 v3 nm_ eGB ht3
    refine ⟨_, rfl, _, rfl, _, rfl, n, .ref ac, l, .ref GB, gB, rfl, ⟨ac, us, rfl, s17 _ _ eac14, al14.imp fun x y z => z.n (same_n s17)⟩, ok, by omega, ⟨GB, rfl, eGB17⟩, gpB, gnB, fun H18 tw qw s18 nw tw_ => ?_⟩
    dsimp only [gName, List.set]
    have s18' := s17.trans s18
    have nt18 := nt14.n (same_n s18')
    have nm18 := nm17.n (same_n s18)
    obtain ⟨ust, eta, ata⟩ := id nt18
    obtain ⟨usm, etm, atm⟩ := id nm18
    obtain ⟨usw, etw, atw⟩ := id nw
    have le1 := top_more (l' := l) (g' := gB) (fun d hd => hd) (fun s hs => (memB s).mpr (.inl hs)) tt tw_
    have le2 := top_both (fun s hs => (memB s).mp hs) tt tm_ tw_ gnB
    refine ⟨_, rfl, (n : Int), rfl, by omega, by omega, fun D2 hD2 => ?_⟩
    rw [Int.toNat_natCast]
    refine lcm walk_range hD2 (Nat.le_trans (by omega : n ≤ 4) (by decide)) (fun _ => false) (fun _ _ _ => True) (fun _ _ _ _ _ h => h) (fun H1 s => trivial) (fun j x8 H12' H12 kN' kY hj s y kn ky => ?_) (fun H19 ys s19 e19 kp => ?_)
    · obtain ⟨rfl, ex⟩ := y
      obtain rfl : x8 = V.int ((j : Nat) : Int) := ex.trans (congrArg V.int (Int.zero_add _))
      obtain ⟨yt, hyt, ryt⟩ := num_get ata tt.len hj
      obtain ⟨ym, hym, rym⟩ := num_get atm tm_.len hj
      obtain ⟨yw, hyw, ryw⟩ := num_get atw tw_.len hj
      obtain ⟨bw, dw, rfl, ebw⟩ := ryw.n (same_n s)
      have zt := tt.szn j
      have zm := tm_.szn j
      have zw := tw_.szn j
      have l1 := le1 j hj
      have l2 := le2 j hj
      refine ⟨rfl, _, rfl, _, rfl, tw, usw, _, .ref bw, rfl, rfl, .inl (.inl (s _ _ etw)), atI_nat hyw, bw, dw, _, rfl, ebw, rfl, _, rfl, _, rfl, ta, ust, _, yt, rfl, rfl, .inl (.inl (s _ _ eta)), atI_nat hyt, ?_⟩
      refine ⟨_, _, numN qw j, numN qt j, _, _, _, _, rfl, ryw.n (same_n s), .inl (ryt.n (same_n s)), zw, zt, by omega, _, rfl, ite2 (fun h => absurd (of_decide_eq_true h) (nlt l1)) (fun h => ?_)⟩
      refine ⟨_, rfl, _, rfl, ta, ust, _, yt, rfl, rfl, .inl (.inl (s _ _ eta)), atI_nat hyt, _, rfl, _, rfl, tm, usm, _, ym, rfl, rfl, .inl (.inl (s _ _ etm)), atI_nat hym, ?_⟩
      refine ⟨numN qt j, numN qm j, _, _, _, _, ryt.n (same_n s), .inl (rym.n (same_n s)), zt, zm, by omega, by omega, fun H20 vs20 s20 hv => ?_⟩
      obtain ⟨bs, ds, rfl, ebs⟩ := id hv
      refine ⟨bs, ds, _, rfl, ebs, rfl, _, rfl, _, rfl, tw, usw, _, .ref bw, rfl, rfl, .inl (.inl ((s.trans s20) _ _ etw)), atI_nat hyw, ?_⟩
      refine ⟨_, _, numN qt j + numN qm j, numN qw j, _, _, _, _, rfl, hv, .inl (ryw.n (same_n (s.trans s20))), zt.add zm, zw, by omega, _, rfl, ite2 (fun h => absurd (of_decide_eq_true h) (nlt l2)) (fun h => ?_)⟩
      exact kn _ s20 rfl
    have yl : ys.length = 0 := by
      rw [kp.1]
      simp
    obtain rfl : ys = [] := List.length_eq_zero_iff.mp yl
    refine ⟨by show 0 ≤ sizeLine; decide, fun E4 hE4 => ?_⟩
    have t19 := same_upd (o := .lst []) hE4
    refine ⟨D2, E4, [], rfl, rfl, .inl (.inl (t19 _ _ e19)), .inl (.inl upd_same), false, rfl, iteF ?_⟩
    dsimp only [gName, List.set]
    generalize upd H19 E4 (.lst []) = H20 at t19
    have s20 := s18'.trans (s19.trans t19)
    have nt20 := nt18.n (same_n (s19.trans t19))
    have p20 := p14.same s20
    have eac20 := s20 _ _ eac14
    have al20 : All2 (ActV H20) us l := al14.imp fun x y z => z.n (same_n s20)
    have eG120 := s20 _ _ eG114
    clear s20 s19 t19 e19 kp hD2 hE4 nt18 ata eta nm18 atm etm atw etw nw s18' s18 s17 nm17 nt14 p14 eac14 al14 eG114 eG214
    -- an act more
    obtain ⟨xs20, ea20⟩ := p20.at_
    refine ⟨_, rfl, p, c, _, 3, rfl, p20, by decide, by decide, by omega, fun H21 r1 s21 p21 q0 q1 => ⟨_, _, rfl, rfl, ?_⟩⟩
    refine ⟨_, rfl, _, rfl, p, c, _, (n : Int), rfl, p21, by omega, by omega, by omega, fun H22 r2 s22 p22 q2 q3 => ?_⟩
    refine ⟨by show 1 ≤ sizeLine; decide, fun u1 hu1 => ?_⟩
    have w1 := same_upd (o := .tup [.int 0]) hu1
    refine ⟨by show 4 ≤ sizeLine; decide, fun o1 ho1 => ?_⟩
    have w2 := same_upd (o := .tup [V.int (1 + r1), .int r2, .int 1, .ref u1]) ho1
    have p23 := (p22.same (w1.trans w2))
    have eu1 : upd (upd H22 u1 (.tup [.int 0])) o1 (.tup [V.int (1 + r1), .int r2, .int 1, .ref u1]) u1 = some (.tup [.int 0]) := w2 _ _ upd_same
    have eo1 : upd (upd H22 u1 (.tup [.int 0])) o1 (.tup [V.int (1 + r1), .int r2, .int 1, .ref u1]) o1 = some (.tup [V.int (1 + r1), .int r2, .int 1, .ref u1]) := upd_same
    have s23 : SameX p H20 _ := s21.trans (s22.trans (SameX.of (w1.trans w2)))
    generalize upd (upd H22 u1 (.tup [.int 0])) o1 (.tup [V.int (1 + r1), .int r2, .int 1, .ref u1]) = H23 at p23 eu1 eo1 s23
    clear w1 w2 hu1 ho1 s21 s22 p21 p22
    refine ⟨_, rfl, _, rfl, p, c, _, (n : Int), rfl, p23, by omega, by omega, by omega, fun H24 r3 s24 p24 q4 q5 => ?_⟩
    refine ⟨by show 1 ≤ sizeLine; decide, fun u2 hu2 => ?_⟩
    have w1 := same_upd (o := .tup [.int 0]) hu2
    refine ⟨by show 4 ≤ sizeLine; decide, fun o2 ho2 => ?_⟩
    have w2 := same_upd (o := .tup [V.int 1, .int r3, .int 1, .ref u2]) ho2
    refine ⟨by show 2 ≤ sizeLine; decide, fun fr hfr => ?_⟩
    have w3 := same_upd (o := .tup [V.ref o1, .ref o2]) hfr
    obtain ⟨xs23, ea23⟩ := p23.at_
    have sn24 := s24.n ea23
    have w123 := w1.trans (w2.trans w3)
    have p25 := p24.same w123
    have eu2 := (w2.trans w3) _ _ (upd_same (H := H24) (a := u2) (o := .tup [.int 0]))
    have eo2 := w3 _ _ (upd_same (H := upd H24 u2 (.tup [.int 0])) (a := o2) (o := .tup [V.int 1, .int r3, .int 1, .ref u2]))
    have efr := upd_same (H := upd (upd H24 u2 (.tup [.int 0])) o2 (.tup [V.int 1, .int r3, .int 1, .ref u2])) (a := fr) (o := .tup [V.ref o1, .ref o2])
    have eu1' := w123 _ _ (sn24 _ _ eu1 trivial)
    have eo1' := w123 _ _ (sn24 _ _ eo1 trivial)
    have s25 : SameX p H20 _ := s23.trans (s24.trans (SameX.of w123))
    generalize upd (upd (upd H24 u2 (.tup [.int 0])) o2 (.tup [V.int 1, .int r3, .int 1, .ref u2])) fr (.tup [V.ref o1, .ref o2]) = H25 at p25 eu2 eo2 efr eu1' eo1' s25
    clear w1 w2 w3 w123 hu2 ho2 hfr s24 p24 sn24 ea23 s23 eu1 eo1 p23
    refine ⟨_, rfl, _, rfl, _, rfl, _, rfl, p, c, _, (n : Int), rfl, p25, by omega, by omega, by omega, fun H26 r4 s26 p26 q6 q7 => ?_⟩
    refine ⟨_, rfl, by show 2 ≤ sizeLine; decide, fun ta2 hta2 => ?_⟩
    have w1 := same_upd (o := .tup [V.int r4, .ref fr]) hta2
    refine ⟨by show 1 ≤ sizeLine; decide, fun L1 hL1 => ?_⟩
    have w2 := same_upd (o := .lst [V.ref ta2]) hL1
    obtain ⟨xs25, ea25⟩ := p25.at_
    have sn20 : SameN H20 H26 := (s25.n ea20).trans (s26.n ea25)
    have sn26 := s26.n ea25
    have eac26 : H26 ac = some (.lst us) := s26 _ _ acp (s25 _ _ acp eac20)
    refine ⟨ac, L1, us, _, rfl, rfl, (w1.trans w2) _ _ eac26, upd_same, Nat.le_trans (by rw [al20.1]; show l.length + 1 ≤ 13; omega : us.length + [V.ref ta2].length ≤ 13) (by decide), fun L2 hL2 => ?_⟩
    have w3 := same_upd (o := .lst (us ++ [V.ref ta2])) hL2
    have w123 := w1.trans (w2.trans w3)
    obtain ⟨m1, em1⟩ : ∃ m1 : Nat, r1 = (m1 : Int) := ⟨r1.toNat, by omega⟩
    obtain ⟨m2, em2⟩ : ∃ m2 : Nat, r2 = (m2 : Int) := ⟨r2.toNat, by omega⟩
    obtain ⟨m3, em3⟩ : ∃ m3 : Nat, r3 = (m3 : Int) := ⟨r3.toNat, by omega⟩
    obtain ⟨m4, em4⟩ : ∃ m4 : Nat, r4 = (m4 : Int) := ⟨r4.toNat, by omega⟩
    subst em1 em2 em3 em4
    have av : ActV (upd (upd (upd H26 ta2 (.tup [V.int (m4 : Int), .ref fr])) L1 (.lst [V.ref ta2])) L2 (.lst (us ++ [V.ref ta2]))) (.ref ta2) (m4, [⟨1 + m1, m2, 1, [0]⟩, ⟨1, m3, 1, [0]⟩]) := by
      refine ⟨ta2, fr, _, rfl, (w2.trans w3) _ _ upd_same, w123 _ _ (sn26 _ _ efr trivial), ?_⟩
      refine ⟨rfl, fun i x y hx hy => ?_⟩
      match i, hx, hy with
      | 0, hx, hy =>
        cases hx
        cases hy
        refine ⟨o1, u1, rfl, ?_, w123 _ _ (sn26 _ _ eu1' trivial)⟩
        rw [w123 _ _ (sn26 _ _ eo1' trivial)]
        rw [show ((1 : Int) + (m1 : Int)) = ((1 + m1 : Nat) : Int) by omega]
        rfl
      | 1, hx, hy =>
        cases hx
        cases hy
        exact ⟨o2, u2, rfl, w123 _ _ (sn26 _ _ eo2 trivial), w123 _ _ (sn26 _ _ eu2 trivial)⟩
      | i + 2, hx, hy => simp at hx
    have okA : OkAct n (m4, [⟨1 + m1, m2, 1, [0]⟩, ⟨1, m3, 1, [0]⟩]) := by
      refine ⟨by show m4 < n; omega, by simp, by show 2 ≤ 5; omega, fun o ho => ?_⟩
      rcases List.mem_cons.mp ho with rfl | ho
      · exact ⟨by show 1 ≤ 1 + m1; omega, by show 1 + m1 ≤ 900; omega, by show m2 < n; omega, by show 1 ≤ 1; omega, by show 1 ≤ 1000; omega, rfl, fun q hq => by rw [List.mem_singleton.mp hq]; omega⟩
      · rw [List.mem_singleton.mp ho]
        exact ⟨by show 1 ≤ 1; omega, by show 1 ≤ 900; omega, by show m3 < n; omega, by show 1 ≤ 1; omega, by show 1 ≤ 1000; omega, rfl, fun q hq => by rw [List.mem_singleton.mp hq]; omega⟩
    have al26 := al20.imp (S := ActV (upd (upd (upd H26 ta2 (.tup [V.int (m4 : Int), .ref fr])) L1 (.lst [V.ref ta2])) L2 (.lst (us ++ [V.ref ta2])))) fun x y z => (z.n sn20).n (same_n w123)
    have nt26 := (nt20.n sn20).n (same_n w123)
    have eG126 := w123 _ _ (sn20 _ _ eG120 trivial)
    have p27 := p26.same w123
    have eL2 : upd (upd (upd H26 ta2 (.tup [V.int (m4 : Int), .ref fr])) L1 (.lst [V.ref ta2])) L2 (.lst (us ++ [V.ref ta2])) L2 = some (.lst (us ++ [V.ref ta2])) := upd_same
    generalize upd (upd (upd H26 ta2 (.tup [V.int (m4 : Int), .ref fr])) L1 (.lst [V.ref ta2])) L2 (.lst (us ++ [V.ref ta2])) = H27 at av al26 nt26 eG126 p27 eL2
    clear w1 w2 w3 w123 hta2 hL1 hL2 sn20 sn26 ea25 s26 p26 s25 eu2 eo2 efr eu1' eo1' p25
    refine ⟨_, rfl, n, .ref L2, _, .ref G1, g1, rfl, ⟨L2, _, rfl, eL2, al26.snoc av⟩, ok_snoc ok l12 okA, by omega, ⟨G1, rfl, eG126⟩, gp1, gn1, fun H28 tr qr s28 nr tr_ => ?_⟩
    dsimp only [gName, List.set]
    have nt28 := nt26.n (same_n s28)
    obtain ⟨ust, eta, ata⟩ := id nt28
    obtain ⟨usr, etr, atr⟩ := id nr
    have le3 := top_more (fun d hd => List.mem_append_left _ hd) (fun s hs => hs) tt tr_
    refine ⟨_, rfl, (n : Int), rfl, by omega, by omega, fun D3 hD3 => ?_⟩
    rw [Int.toNat_natCast]
    refine lcm walk_range hD3 (Nat.le_trans (by omega : n ≤ 4) (by decide)) (fun _ => false) (fun _ _ _ => True) (fun _ _ _ _ _ h => h) (fun H1 s => trivial) (fun j x8 H12' H12 kN' kY hj s y kn ky => ?_) (fun H29 ys s29 e29 kp => ?_)
    · obtain ⟨rfl, ex⟩ := y
      obtain rfl : x8 = V.int ((j : Nat) : Int) := ex.trans (congrArg V.int (Int.zero_add _))
      obtain ⟨yt, hyt, ryt⟩ := num_get ata tt.len hj
      obtain ⟨yr, hyr, ryr⟩ := num_get atr tr_.len hj
      obtain ⟨br, dr, rfl, ebr⟩ := ryr.n (same_n s)
      have zt := tt.szn j
      have zr := tr_.szn j
      have l1 := le3 j hj
      refine ⟨rfl, _, rfl, _, rfl, tr, usr, _, .ref br, rfl, rfl, .inl (.inl (s _ _ etr)), atI_nat hyr, br, dr, _, rfl, ebr, rfl, _, rfl, _, rfl, ta, ust, _, yt, rfl, rfl, .inl (.inl (s _ _ eta)), atI_nat hyt, ?_⟩
      refine ⟨_, _, numN qr j, numN qt j, _, _, _, _, rfl, ryr.n (same_n s), .inl (ryt.n (same_n s)), zr, zt, by omega, _, rfl, ite2 (fun h => absurd (of_decide_eq_true h) (nlt l1)) (fun h => ?_)⟩
      exact kn _ (Same.refl _) rfl
    have yl : ys.length = 0 := by
      rw [kp.1]
      simp
    obtain rfl : ys = [] := List.length_eq_zero_iff.mp yl
    refine ⟨by show 0 ≤ sizeLine; decide, fun E5 hE5 => ?_⟩
    have t29 := same_upd (o := .lst []) hE5
    refine ⟨D3, E5, [], rfl, rfl, .inl (.inl (t29 _ _ e29)), .inl (.inl upd_same), false, rfl, iteF ?_⟩
    exact ⟨⟨_, _, _, _, _, _, _, _, _, _, _, _, _, _, _, _, rfl⟩, (p27.same (s28.trans (s29.trans t29))).le (by omega)⟩
  · rintro σ H2 ⟨⟨x2, x3, x4, x5, x6, x7, x8, x9, x10, x11, x12, x13, x14, x15, x16, x17, rfl⟩, p2⟩
    exact k _
end
end Lc
set_option Elab.async false
set_option linter.all false
set_option maxRecDepth 100000
set_option maxHeartbeats 0
open PySem PySem.W PySem.Calls PyProof.Rows
theorem PySem.Challenge.cw_longchances_k79_whole_coming_in_changed_holds : PySem.Challenge.rw_longchances_k79_whole_coming_in_changed.Holds := by
  w_on; o_law
  refine HandSHeadRun.head_imp (r := OpenLaw.row Hd.LAW) (q := view (OpenLaw.row Hd.LAW).prog [0, 86]) (H := Hd.hk) (ob := Hd.ob) (M := 20000) (loose := Hd.loose) (d := HandSHeadRun.topDef (OpenLaw.row Hd.LAW).prog 86) (kwd := []) Hd.ob_eq
    Hd.run (by kernel_rfl) (by kernel_rfl) (by kernel_rfl) (by rfl) (by first | assumption | decide +kernel) (by decide +kernel) ⟨rfl, rfl, rfl, rfl, rfl, by decide +kernel⟩ ?hw ?hc
  case hw => w_witness2
  case hc =>
    refine L2.walk_ofE (l := Hd.LAW) (n := 63) (k := 11) (x := "script") (CX := L2.CX0) rfl (by decide) (by kernel_rfl) ⟨rfl, by decide, by decide⟩ ?F (fun _ _ _ _ z => z)
    intro w mg fa h Y G hmg0
    obtain ⟨K, KX, c⟩ := Y
    have hmg : mg ("law" : PySem.Str) = some (.ref fa) := by
      have e : (HandSHeadRun.topDef (OpenLaw.row Hd.LAW).prog 86).name = ("law" : PySem.Str) := by kernel_rfl
      rw [← e]
      exact hmg0
    have T : Lc.Tx K mg := Lc.tx_of KX G c
    obtain ⟨fd, F⟩ := T.f_law
    have e := hmg.symm.trans T.g_law
    cases e
    have b := L2.FunD.bindsA (ps := ["script"]) F fun _ _ _ _ _ _ us hl => match us, hl with | [_], _ => rfl
    exact ⟨K, fd, Lc.sp_law K, KX, fun s v => b s [v] rfl, fun H a ns hl _ hS => ⟨a, ns, rfl, Nat.le_trans hl (by decide), hS, fun _ => rfl⟩, fun base _ _ => Lc.ok_law T F⟩
